import PyProof.Rows.All
import Wide.All
import OpenK.AllK
import Wide.FinOn
import Lean
import PySem.Challenge.RW_nu0277_02
set_option linter.all false
set_option Elab.async false
set_option autoImplicit false
set_option maxRecDepth 100000
set_option genInjectivity false
set_option genSizeOf false
set_option bootstrap.genMatcherCode false
section
open PySem
namespace Mine
inductive Ex2 {α β : Type} (P : α → β → Prop) : Prop
  | mk (x0 : α) (x1 : β) (h : P x0 x1)
inductive Ex3 {α β γ : Type} (P : α → β → γ → Prop) : Prop
  | mk (x0 : α) (x1 : β) (x2 : γ) (h : P x0 x1 x2)
inductive Ex4 {α β γ δ : Type} (P : α → β → γ → δ → Prop) : Prop
  | mk (x0 : α) (x1 : β) (x2 : γ) (x3 : δ) (h : P x0 x1 x2 x3)
inductive Ex5 {α β γ δ ε : Type} (P : α → β → γ → δ → ε → Prop) : Prop
  | mk (x0 : α) (x1 : β) (x2 : γ) (x3 : δ) (x4 : ε) (h : P x0 x1 x2 x3 x4)
inductive Ex6 {α β γ δ ε ζ : Type} (P : α → β → γ → δ → ε → ζ → Prop) : Prop
  | mk (x0 : α) (x1 : β) (x2 : γ) (x3 : δ) (x4 : ε) (x5 : ζ) (h : P x0 x1 x2 x3 x4 x5)
inductive Ex7 {α β γ δ ε ζ η : Type} (P : α → β → γ → δ → ε → ζ → η → Prop) : Prop
  | mk (x0 : α) (x1 : β) (x2 : γ) (x3 : δ) (x4 : ε) (x5 : ζ) (x6 : η) (h : P x0 x1 x2 x3 x4 x5 x6)
inductive Ex8 {α β γ δ ε ζ η θ : Type} (P : α → β → γ → δ → ε → ζ → η → θ → Prop) : Prop
  | mk (x0 : α) (x1 : β) (x2 : γ) (x3 : δ) (x4 : ε) (x5 : ζ) (x6 : η) (x7 : θ) (h : P x0 x1 x2 x3 x4 x5 x6 x7)
inductive Ex9 {α β γ δ ε ζ η θ ι : Type} (P : α → β → γ → δ → ε → ζ → η → θ → ι → Prop) : Prop
  | mk (x0 : α) (x1 : β) (x2 : γ) (x3 : δ) (x4 : ε) (x5 : ζ) (x6 : η) (x7 : θ) (x8 : ι) (h : P x0 x1 x2 x3 x4 x5 x6 x7 x8)
inductive Ex10 {α β γ δ ε ζ η θ ι κ : Type} (P : α → β → γ → δ → ε → ζ → η → θ → ι → κ → Prop) : Prop
  | mk (x0 : α) (x1 : β) (x2 : γ) (x3 : δ) (x4 : ε) (x5 : ζ) (x6 : η) (x7 : θ) (x8 : ι) (x9 : κ) (h : P x0 x1 x2 x3 x4 x5 x6 x7 x8 x9)
inductive An3 (p0 p1 p2 : Prop) : Prop
  | mk (h0 : p0) (h1 : p1) (h2 : p2)
inductive An4 (p0 p1 p2 p3 : Prop) : Prop
  | mk (h0 : p0) (h1 : p1) (h2 : p2) (h3 : p3)
inductive An5 (p0 p1 p2 p3 p4 : Prop) : Prop
  | mk (h0 : p0) (h1 : p1) (h2 : p2) (h3 : p3) (h4 : p4)
inductive An6 (p0 p1 p2 p3 p4 p5 : Prop) : Prop
  | mk (h0 : p0) (h1 : p1) (h2 : p2) (h3 : p3) (h4 : p4) (h5 : p5)
inductive An7 (p0 p1 p2 p3 p4 p5 p6 : Prop) : Prop
  | mk (h0 : p0) (h1 : p1) (h2 : p2) (h3 : p3) (h4 : p4) (h5 : p5) (h6 : p6)
inductive An8 (p0 p1 p2 p3 p4 p5 p6 p7 : Prop) : Prop
  | mk (h0 : p0) (h1 : p1) (h2 : p2) (h3 : p3) (h4 : p4) (h5 : p5) (h6 : p6) (h7 : p7)
inductive An9 (p0 p1 p2 p3 p4 p5 p6 p7 p8 : Prop) : Prop
  | mk (h0 : p0) (h1 : p1) (h2 : p2) (h3 : p3) (h4 : p4) (h5 : p5) (h6 : p6) (h7 : p7) (h8 : p8)
inductive An10 (p0 p1 p2 p3 p4 p5 p6 p7 p8 p9 : Prop) : Prop
  | mk (h0 : p0) (h1 : p1) (h2 : p2) (h3 : p3) (h4 : p4) (h5 : p5) (h6 : p6) (h7 : p7) (h8 : p8) (h9 : p9)
inductive B1 {α β : Type} (a : Option α) (f : α → β) (z : β) : Prop
  | mk (x : α) (h : a = some x) (e : f x = z)
theorem b1_eq {α β : Type} {a : Option α} {f : α → β} {z : β} (h : a.map f = some z) : B1 a f z := let ⟨x, h, e⟩ := Option.map_eq_some_iff.mp h; ⟨x, h, e⟩
inductive BB {α β : Type} (a : Option α) (f : α → Option β) (z : β) : Prop
  | mk (x : α) (h : a = some x) (e : f x = some z)
theorem bb_eq {α β : Type} {a : Option α} {f : α → Option β} {z : β} (h : a.bind f = some z) : BB a f z := let ⟨x, h, e⟩ := Option.bind_eq_some_iff.mp h; ⟨x, h, e⟩
theorem nn {p : Prop} (h : ¬ p → False) : p := Classical.byContradiction h
theorem nsm {α : Type} {a : α} {P : Prop} (h : none = some a) : P := Option.noConfusion rfl (heq_of_eq h)
noncomputable def InvP {α : Type} (P : α → Prop) (o : Option α) : Prop := ∀ a, o = some a → P a
theorem invN {α : Type} {P : α → Prop} : InvP P none := fun _ h => nsm h
theorem invS {α : Type} {P : α → Prop} {a : α} (h : P a) : InvP P (some a) := fun b e => Option.some.inj e ▸ h
inductive Vw where
  | k (c : Const) | nm (x : Str) | at_ (o : PySem.Expr) (f : Str) (p : Pos) | un (op : UnaryOp) (x : PySem.Expr) | bin (l : PySem.Expr) (op : Operator) (y : PySem.Expr) | cmp (l : PySem.Expr) (ops : List CmpOp) (cs : List PySem.Expr)
  | ite (t b o : PySem.Expr) | lst (es : List PySem.Expr) | tup (es : List PySem.Expr) | dct (ks : List (Option PySem.Expr)) (vs : List PySem.Expr) | sub (o i : PySem.Expr) | call (f : PySem.Expr) (args : List PySem.Expr) (kws : List Keyword) (p : Pos)
  | lc (e : PySem.Expr) (gs : List Comprehension) (s : Scope) | dc (e v : PySem.Expr) (gs : List Comprehension) (s : Scope) | bo (op : BoolOp) (es : List PySem.Expr) | sl (lo hi st : Option PySem.Expr) | no
noncomputable def Vw.el {α : Type} (d : α) (w : Vw) (k : Const → α := fun _ => d) (nm : Str → α := fun _ => d) (at_ : PySem.Expr → Str → Pos → α := fun _ _ _ => d) (un : UnaryOp → PySem.Expr → α := fun _ _ => d) (bin : PySem.Expr → Operator → PySem.Expr → α := fun _ _ _ => d)
    (cmp : PySem.Expr → List CmpOp → List PySem.Expr → α := fun _ _ _ => d) (ite : PySem.Expr → PySem.Expr → PySem.Expr → α := fun _ _ _ => d) (lst : List PySem.Expr → α := fun _ => d) (tup : List PySem.Expr → α := fun _ => d) (dct : List (Option PySem.Expr) → List PySem.Expr → α := fun _ _ => d)
    (sub : PySem.Expr → PySem.Expr → α := fun _ _ => d) (call : PySem.Expr → List PySem.Expr → List Keyword → Pos → α := fun _ _ _ _ => d) (lc : PySem.Expr → List Comprehension → Scope → α := fun _ _ _ => d) (dc : PySem.Expr → PySem.Expr → List Comprehension → Scope → α := fun _ _ _ _ => d)
    (bo : BoolOp → List PySem.Expr → α := fun _ _ => d) (sl : Option PySem.Expr → Option PySem.Expr → Option PySem.Expr → α := fun _ _ _ => d) : α :=
  Vw.rec (motive := fun _ => α) k nm at_ un bin cmp ite lst tup dct sub call lc dc bo sl d w
noncomputable def vw : PySem.Expr → Vw
  | .Constant k _ _ => .k k
  | .Name x _ => .nm x
  | .Attribute o f p => .at_ o f p
  | .UnaryOp op x _ => .un op x
  | .BinOp l op y _ => .bin l op y
  | .Compare l ops cs _ => .cmp l ops cs
  | .IfExp t b o _ => .ite t b o
  | .List es _ => .lst es
  | .Tuple es _ _ => .tup es
  | .Dict ks vs _ => .dct ks vs
  | .Subscript o i _ => .sub o i
  | .Call f args kws p => .call f args kws p
  | .ListComp e gs s _ => .lc e gs s
  | .DictComp e v gs s _ => .dc e v gs s
  | .BoolOp op es _ => .bo op es
  | .Slice lo hi st _ => .sl lo hi st
  | _ => .no
noncomputable def VwOk (e : PySem.Expr) (w : Vw) : Prop := w.el True (fun k => ∃ j p, e = .Constant k j p) (fun x => ∃ p, e = .Name x p) (fun o f p => e = .Attribute o f p) (fun op x => ∃ p, e = .UnaryOp op x p) (fun l op y => ∃ p, e = .BinOp l op y p) (fun l ops cs => ∃ p, e = .Compare l ops cs p)
  (fun t b o => ∃ p, e = .IfExp t b o p) (fun es => ∃ p, e = .List es p) (fun es => ∃ k p, e = .Tuple es k p) (fun ks vs => ∃ p, e = .Dict ks vs p) (fun o i => ∃ p, e = .Subscript o i p) (fun f args kws p => e = .Call f args kws p) (fun x gs s => ∃ p, e = .ListComp x gs s p)
  (fun x v gs s => ∃ p, e = .DictComp x v gs s p) (fun op es => ∃ p, e = .BoolOp op es p) (fun lo hi st => ∃ p, e = .Slice lo hi st p)
theorem vw_ok (e : PySem.Expr) : VwOk e (vw e) := by cases e <;> first | exact ⟨_, rfl⟩ | exact trivial | exact rfl | exact ⟨_, _, rfl⟩
theorem vw_inv {α : Type} {P : α → Prop} {f : Vw → Option α} {e : PySem.Expr} (h : ∀ w, VwOk e w → InvP P (f w)) : InvP P (f (vw e)) := h _ (vw_ok e)
noncomputable def nameOf (e : PySem.Expr) : Option Str := (vw e).el none (nm := some)
noncomputable def IsName (e : PySem.Expr) (x : Str) : Prop := ∃ p, e = .Name x p
theorem nameOf_inv (e : PySem.Expr) : InvP (IsName e) (nameOf e) := vw_inv (f := fun w => w.el none (nm := some)) fun w q => by cases w <;> first | exact invN | exact invS q
theorem nameOf_eq {e : PySem.Expr} {x : Str} (h : nameOf e = some x) : ∃ p, e = .Name x p := nameOf_inv e x h
noncomputable def unOf (e : PySem.Expr) : Option (UnaryOp × PySem.Expr) := (vw e).el none (un := fun op x => some (op, x))
noncomputable def IsUn (e : PySem.Expr) (x : UnaryOp × PySem.Expr) : Prop := ∃ p, e = .UnaryOp x.1 x.2 p
theorem unOf_inv (e : PySem.Expr) : InvP (IsUn e) (unOf e) := vw_inv (f := fun w => w.el none (un := fun op x => some (op, x))) fun w q => by cases w <;> first | exact invN | exact invS q
noncomputable def constOf (e : PySem.Expr) : Option Const := (vw e).el none (k := some)
noncomputable def IsConst (e : PySem.Expr) (k : Const) : Prop := ∃ j p, e = .Constant k j p
theorem constOf_inv (e : PySem.Expr) : InvP (IsConst e) (constOf e) := vw_inv (f := fun w => w.el none (k := some)) fun w q => by cases w <;> first | exact invN | exact invS q
noncomputable def atOf (e : PySem.Expr) : Option (PySem.Expr × Str × Pos) := (vw e).el none (at_ := fun o f p => some (o, f, p))
noncomputable def IsAt (e : PySem.Expr) (x : PySem.Expr × Str × Pos) : Prop := e = .Attribute x.1 x.2.1 x.2.2
theorem atOf_inv (e : PySem.Expr) : InvP (IsAt e) (atOf e) := vw_inv (f := fun w => w.el none (at_ := fun o f p => some (o, f, p))) fun w q => by cases w <;> first | exact invN | exact invS q
noncomputable def callOf (e : PySem.Expr) : Option (PySem.Expr × List PySem.Expr × List Keyword × Pos) := (vw e).el none (call := fun f args kws p => some (f, args, kws, p))
noncomputable def IsCallX (e : PySem.Expr) (x : PySem.Expr × List PySem.Expr × List Keyword × Pos) : Prop := e = .Call x.1 x.2.1 x.2.2.1 x.2.2.2
theorem callOf_inv (e : PySem.Expr) : InvP (IsCallX e) (callOf e) := vw_inv (f := fun w => w.el none (call := fun f args kws p => some (f, args, kws, p))) fun w q => by cases w <;> first | exact invN | exact invS q
noncomputable def gdP {α : Type} (p : Prop) [Decidable p] (x : α) : Option α := if p then some x else none
theorem gdP_mk {α : Type} {p : Prop} [Decidable p] {x : α} (h : p) : gdP p x = some x := if_pos h
theorem gdP_eq {α : Type} {p : Prop} [Decidable p] {x y : α} (h : gdP p x = some y) : p ∧ x = y := by
  by_cases q : p
  · exact ⟨q, Option.some.inj ((gdP_mk q).symm.trans h)⟩
  · exact nsm ((if_neg q).symm.trans h)
noncomputable def ifS {α : Type} : Option α → (α → Prop) → Prop
  | some x, k => k x
  | none, _ => False
theorem ifS_eq {α : Type} {o : Option α} {k : α → Prop} (h : ifS o k) : ∃ x, o = some x ∧ k x := by
  cases o with
  | some x => exact ⟨x, rfl, h⟩
  | none => exact h.elim
theorem ifS_mk {α : Type} {o : Option α} {k : α → Prop} {x : α} (e : o = some x) (h : k x) : ifS o k := by rw [e]; exact h
theorem anyO {α : Type} {p : α → Bool} {x : Option α} (h : x.any p = true) : ∃ y, x = some y ∧ p y = true := (Option.any_eq_true p x).mp h
noncomputable def intK : Const → Option Int
  | .int i => some i
  | _ => none
noncomputable def boolK : Const → Option Bool
  | .bool i => some i
  | _ => none
theorem intK_inv (k : Const) : InvP (fun i => k = .int i) (intK k) := by cases k <;> first | exact invN | exact invS rfl
theorem boolK_inv (k : Const) : InvP (fun i => k = .bool i) (boolK k) := by cases k <;> first | exact invN | exact invS rfl
noncomputable def strK : Const → Option Str
  | .str i => some i
  | _ => none
theorem strK_inv (k : Const) : InvP (fun i => k = .str i) (strK k) := by cases k <;> first | exact invN | exact invS rfl
noncomputable def nmT : List Str := ["known", "heights", "causes", "row", "begins", "seen", "liked", "rows", "watching", "heats", "gain", "log", "is_refuted", "blamed", "clashes", "conflict_limit", "cells", "spot"]
noncomputable def nmOf (s : Str) : Option Nat := nmT.idxOf? s
inductive V where
  | un | none | bool (b : Bool) | int (i : Int) | str (k : Nat) | ref (a : Addr)
  deriving DecidableEq, Inhabited
noncomputable def V.el {α : Type} (d : α) (v : V) (un : α := d) (nn : α := d) (bo : Bool → α := fun _ => d) (it : Int → α := fun _ => d) (st : Nat → α := fun _ => d) (rf : Addr → α := fun _ => d) : α := V.rec (motive := fun _ => α) un nn bo it st rf v
noncomputable def av : Value → V
  | .none => .none
  | .bool b => .bool b
  | .int i _ => .int i
  | .str s _ => (nmOf s).elim .un .str
  | .ref a => .ref a
  | _ => .un
noncomputable def nun (v : V) : Option V := v.el (some v) (un := none)
theorem nun_inv (v : V) : InvP (fun w => v = w ∧ v ≠ .un) (nun v) := by cases v <;> first | exact invN | exact invS ⟨rfl, fun h => nomatch h⟩
theorem nun_eq {v w : V} (h : nun v = some w) : v = w ∧ v ≠ .un := nun_inv v w h
noncomputable def V.i? (v : V) : Option Int := v.el .none (it := some)
noncomputable def V.r? (v : V) : Option Addr := v.el .none (rf := some)
noncomputable def V.b? (v : V) : Option Bool := v.el .none (bo := some)
noncomputable def V.s? (v : V) : Option Nat := v.el .none (st := some)
theorem V.i_inv (v : V) : InvP (fun i => v = .int i) v.i? := by cases v <;> first | exact invN | exact invS rfl
theorem V.i_eq {v : V} {i : Int} (h : v.i? = some i) : v = .int i := V.i_inv v i h
theorem V.r_inv (v : V) : InvP (fun i => v = .ref i) v.r? := by cases v <;> first | exact invN | exact invS rfl
theorem V.r_eq {v : V} {i : Addr} (h : v.r? = some i) : v = .ref i := V.r_inv v i h
theorem V.b_inv (v : V) : InvP (fun i => v = .bool i) v.b? := by cases v <;> first | exact invN | exact invS rfl
theorem V.b_eq {v : V} {i : Bool} (h : v.b? = some i) : v = .bool i := V.b_inv v i h
theorem V.s_inv (v : V) : InvP (fun i => v = .str i) v.s? := by cases v <;> first | exact invN | exact invS rfl
theorem V.s_eq {v : V} {i : Nat} (h : v.s? = some i) : v = .str i := V.s_inv v i h
inductive O where
  | lst (l : List V)
  | tup (l : List V)
  | dct (es : List (Int × V))
  | att (es : List (Nat × V))
  | inst (d : Addr)
  | froz (x : O) (o : Obj)
noncomputable def O.el {α : Type} (d : α) (o : O) (lst : List V → α := fun _ => d) (tup : List V → α := fun _ => d) (dct : List (Int × V) → α := fun _ => d) (att : List (Nat × V) → α := fun _ => d) (ins : Addr → α := fun _ => d) (frz : O → α := fun _ => d) : α := O.rec (motive := fun _ => α) lst tup dct att ins (fun x _ _ => frz x) o
noncomputable abbrev AH := Addr → Option O
noncomputable def AH.set (H : AH) (a : Addr) (x : O) : AH := fun b => if b = a then some x else H b
noncomputable def O.un (o : O) : O := o.el o (frz := id)
noncomputable def AH.see (H : AH) (a : Addr) : Option O := (H a).map O.un
noncomputable def put {K : Type} [DecidableEq K] (es : List (K × V)) (k : K) (v : V) : List (K × V) :=
  if es.any (fun e => e.1 = k) then es.map (fun e => if e.1 = k then (e.1, v) else e) else es ++ [(k, v)]
noncomputable def get {K : Type} [DecidableEq K] (es : List (K × V)) (k : K) : Option V := (es.find? fun e => e.1 = k).map (·.2)
noncomputable def rem {K : Type} [DecidableEq K] (es : List (K × V)) (k : K) : List (K × V) := es.filter fun e => decide (e.1 ≠ k)
inductive Op where | add | sub | mul | fdiv | mod | pow
  deriving DecidableEq
inductive Cm where | eq | ne | lt | le | gt | ge | is | isNot | mem | notMem
  deriving DecidableEq
inductive B where
  | abs | len | toList | toTuple | toInt | isBool | sortAbs
  | pop | append | extend | dget1 | dget2 | dpop1 | dpop2 | setdef | update
  deriving DecidableEq
noncomputable def B.onList : B → Bool
  | .pop => true
  | .append => true
  | .extend => true
  | _ => false
noncomputable def B.onDict : B → Bool
  | .dget1 => true
  | .dget2 => true
  | .dpop1 => true
  | .dpop2 => true
  | .setdef => true
  | .update => true
  | _ => false
inductive X where
  | c (v : V)
  | loc (i : Nat)
  | attr (x : X) (f : Nat)
  | neg (x : X)
  | not (x : X)
  | bin (op : Op) (l r : X)
  | cmp (op : Cm) (l r : X)
  | cmp2 (o1 o2 : Cm) (a b c : X)
  | and (l r : X)
  | or (l r : X)
  | ite (c a b : X)
  | list (xs : List X)
  | tup (xs : List X)
  | dict0
  | dict1 (k v : X)
  | dictS (ks : List Nat) (xs : List X)
  | sub (x i : X)
  | slice (x lo hi : X)
  | rev (x : X)
  | bi (f : B) (xs : List X)
  | bm (f : B) (o : X) (xs : List X)
  | callG (f : Nat) (xs : List X)
  | callM (f : Nat) (o : X) (xs : List X)
  | new (f : Nat) (xs : List X)
  | sup (f : Nat)
  | sortH (f : Nat) (x : X) (o : X)
  | lcomp (mask : List Bool) (it cond b : X)
  | dcomp (mask : List Bool) (it k v : X)
  | cfor (it cond b : X)
  | emit (x : X)
  | rng (a b : X)
  | src (x : X)
inductive S where
  | asg (i : Nat) (x : X)
  | asgN (js : List Nat) (xs : List X)
  | setA (o : X) (f : Nat) (x : X)
  | setI (o i x : X)
  | swap (o1 i1 o2 i2 x1 x2 : X)
  | ex (x : X)
  | ite (c : X) (s t : S)
  | whl (c : X) (s : S)
  | for_ (i : Nat) (it : X) (s : S)
  | ret (x : X)
  | seq (s t : S)
  | skip
  | fail
noncomputable def sz : Nat := 2 ^ 23
noncomputable def O.s? (o : O) : Option (List V) := o.el none (lst := some) (tup := some)
noncomputable def seqOf (H : AH) (v : V) : Option (List V) := v.r?.bind fun a => (H.see a).bind O.s?
noncomputable def idx (l : List V) (n : Int) : Option V := if 0 ≤ n then l[n.toNat]? else if 0 ≤ n + l.length then l[(n + l.length).toNat]? else none
noncomputable def idxN (l : List V) (n : Int) : Option Nat := gdP (0 ≤ n ∧ n < l.length) n.toNat
noncomputable def subK (k : V) (o : O) : Option V := o.el none (lst := fun l => k.i?.bind (idx l)) (tup := fun l => k.i?.bind (idx l)) (dct := fun es => k.i?.bind (get es)) (att := fun es => k.s?.bind (get es))
noncomputable def subV (H : AH) (v k : V) : Option V := v.r?.bind fun a => (H.see a).bind (subK k)
noncomputable def O.in? (o : O) : Option Addr := o.el none (ins := some)
noncomputable def O.at? (o : O) : Option (List (Nat × V)) := o.el none (att := some)
theorem O.in_inv (o : O) : InvP (fun i => o = .inst i) o.in? := by cases o <;> first | exact invN | exact invS rfl
theorem O.in_eq {o : O} {i : Addr} (h : o.in? = some i) : o = .inst i := O.in_inv o i h
theorem O.at_inv (o : O) : InvP (fun i => o = .att i) o.at? := by cases o <;> first | exact invN | exact invS rfl
theorem O.at_eq {o : O} {i : List (Nat × V)} (h : o.at? = some i) : o = .att i := O.at_inv o i h
noncomputable def atD (H : AH) (d : Addr) : Option (Addr × List (Nat × V)) := (H d).bind fun o => o.at?.map fun es => (d, es)
noncomputable def insV (H : AH) (v : V) : Option (Addr × List (Nat × V)) := v.r?.bind fun a => (H a).bind fun o => o.in?.bind (atD H)
inductive Ins (H : AH) (v : V) (p : Addr × List (Nat × V)) : Prop
  | mk (a : Addr) (e1 : v = .ref a) (e2 : H a = some (.inst p.1)) (e3 : H p.1 = some (.att p.2))
theorem bindM {α β : Type} {o : Option α} {f : α → Option β} {x : α} {z : β} (h : o = some x) (h' : f x = some z) : o.bind f = some z := h ▸ h'
theorem insV_mk {H : AH} {a d : Addr} {es : List (Nat × V)} (h1 : H a = some (.inst d)) (h2 : H d = some (.att es)) : insV H (.ref a) = some (d, es) := bindM (x := a) rfl (bindM h1 (bindM (x := d) rfl (bindM h2 rfl)))
theorem insV_eq {H : AH} {v : V} {p : Addr × List (Nat × V)} (h : insV H v = some p) : Ins H v p := by
  obtain ⟨a, h1, h⟩ := bb_eq h
  obtain ⟨o, h2, h⟩ := bb_eq h
  obtain ⟨d, h3, h⟩ := bb_eq h
  obtain ⟨o', h4, h⟩ := bb_eq h
  obtain ⟨es, h5, h⟩ := b1_eq h
  subst h
  exact ⟨a, V.r_eq h1, O.in_eq h3 ▸ h2, O.at_eq h5 ▸ h4⟩
noncomputable def attrV (H : AH) (v : V) (f : Nat) : Option V := (insV H v).bind fun p => (get p.2 f).bind nun
noncomputable def allSome {α : Type} : List (Option α) → Option (List α)
  | [] => some []
  | o :: r => o.bind fun x => (allSome r).map (x :: ·)
noncomputable def litV (v : V) : Option PyData := v.el none (nn := some .none) (bo := fun b => some (.bool b)) (it := fun i => some (.int i))
noncomputable def seqD (f : List V → Option (List PyData)) (o : O) : Option PyData := o.el none (lst := fun l => (f l).map .list) (tup := fun l => (f l).map .tuple)
noncomputable def rd (H : AH) : Nat → V → Option PyData
  | 0, v => litV v
  | n + 1, v => v.r?.elim (litV v) fun a => (H.see a).bind (seqD fun l => allSome (l.map (rd H n)))
noncomputable def V.isI (v : V) : Bool := v.el false (it := fun _ => true)
theorem V.isI_eq {v : V} (h : v.isI = true) : ∃ i, v = .int i := by cases v <;> first | exact ⟨_, rfl⟩ | exact Bool.noConfusion h
noncomputable def eqV (H : AH) (v w : V) : Option Bool := (rd H 3 v).bind fun d => (rd H 3 w).map fun e => PyData.eqv d e
noncomputable def memL (H : AH) (l : List V) (v : V) : Option Bool := (allSome (l.map (rd H 2))).bind fun ds => (rd H 2 v).map fun d => ds.any fun y => PyData.eqv y d
noncomputable def memO (H : AH) (v : V) (o : O) : Option Bool := o.el none (lst := fun l => memL H l v) (tup := fun l => memL H l v) (dct := fun es => v.i?.map fun i => (get es i).isSome)
noncomputable def memV (H : AH) (v w : V) : Option Bool := w.r?.bind fun a => (H.see a).bind (memO H v)
noncomputable def pairL (l : List V) : Option (V × V) := (l.head?).bind fun a => (l.tail.head?).bind fun b => bif l.tail.tail.isEmpty then some (a, b) else none
theorem pairL_inv (l : List V) : InvP (fun p => l = [p.1, p.2]) (pairL l) := by
  cases l with
  | nil => exact invN
  | cons a l => cases l with
    | nil => exact invN
    | cons b l => cases l with
      | nil => exact invS rfl
      | cons c l => exact invN
noncomputable def O.p? (o : O) : Option (V × V) := o.el none (tup := pairL)
theorem O.p_eq {o : O} {p : V × V} (h : o.p? = some p) : o = .tup [p.1, p.2] := by
  cases o <;> first | exact congrArg O.tup (pairL_inv _ _ h) | cases h
noncomputable def gt2 (p q : V × V) : Option Bool := p.1.i?.bind fun a => p.2.i?.bind fun b => q.1.i?.bind fun c => q.2.i?.map fun d => decide (c < a ∨ (a = c ∧ d < b))
noncomputable def gtR (H : AH) (v w : V) : Option Bool := v.r?.bind fun a => w.r?.bind fun b => (H.see a).bind fun o => (H.see b).bind fun o' => o.p?.bind fun p => o'.p?.bind fun q => gt2 p q
noncomputable def gtV (H : AH) (v w : V) : Option Bool := match v.i? with
  | some a => w.i?.map fun b => decide (b < a)
  | none => gtR H v w
noncomputable def ltV (v w : V) : Option Bool := match v.i? with
  | some a => match w.i? with
    | some b => some (decide (a < b))
    | none => none
  | none => none
noncomputable def isV (v w : V) : Option Bool := w.el none (nn := (nun v).map fun v => decide (v = .none))
noncomputable def cmpV (H : AH) (op : Cm) (v w : V) : Option Bool := match op with
  | .eq => eqV H v w
  | .ne => (eqV H v w).map (!·)
  | .lt => ltV v w
  | .le => (ltV w v).map (!·)
  | .gt => gtV H v w
  | .ge => (ltV v w).map (!·)
  | .is => isV v w
  | .isNot => (isV v w).map (!·)
  | .mem => memV H v w
  | .notMem => (memV H v w).map (!·)
noncomputable def big : Int := 4611686018427387904
noncomputable def intBin (op : Op) (a b : Int) : Option Int := match op with
  | .add => some (a + b)
  | .sub => some (a - b)
  | .mul => gdP (-big ≤ a ∧ a ≤ big ∧ -big ≤ b ∧ b ≤ big) (a * b)
  | .fdiv => gdP (0 < b ∧ b ≤ 1000000000) (a / b)
  | .mod => gdP (0 < b) (a % b)
  | .pow => gdP (a = 2 ∧ 0 ≤ b ∧ b ≤ 60) (2 ^ b.toNat)
noncomputable def absLe (a b : V) : Prop := a.el False (it := fun a => b.el False (it := fun b => a.natAbs ≤ b.natAbs))
noncomputable def putAll (es : List (Int × V)) : List (Int × V) → List (Int × V)
  | [] => es
  | (k, v) :: r => putAll (put es k v) r
noncomputable def keysOf (es : List (Int × V)) : List V := es.map fun e => .int e.1
noncomputable def O.l? (o : O) : Option (List V) := o.el none (lst := some)
noncomputable def O.d? (o : O) : Option (List (Int × V)) := o.el none (dct := some)
noncomputable def O.n? (o : O) : Option Nat := o.el none (lst := fun l => some l.length) (tup := fun l => some l.length) (dct := fun l => some l.length)
noncomputable def O.k? (o : O) : Option (List V) := o.el none (lst := some) (dct := fun l => some (keysOf l))
theorem O.l_inv (o : O) : InvP (fun i => o = .lst i) o.l? := by cases o <;> first | exact invN | exact invS rfl
theorem O.l_eq {o : O} {i : List V} (h : o.l? = some i) : o = .lst i := O.l_inv o i h
theorem O.d_inv (o : O) : InvP (fun i => o = .dct i) o.d? := by cases o <;> first | exact invN | exact invS rfl
theorem O.d_eq {o : O} {i : List (Int × V)} (h : o.d? = some i) : o = .dct i := O.d_inv o i h
theorem O.k_inv (o : O) : InvP (fun l => o = .lst l ∨ ∃ es, o = .dct es ∧ l = keysOf es) o.k? := by cases o <;> first | exact invN | exact invS (.inl rfl) | exact invS (.inr ⟨_, rfl, rfl⟩)
theorem O.k_eq {o : O} {l : List V} (h : o.k? = some l) : o = .lst l ∨ ∃ es, o = .dct es ∧ l = keysOf es := O.k_inv o l h
noncomputable def O.t? (o : O) : Option (List V) := o.el none (tup := some)
theorem O.t_inv (o : O) : InvP (fun i => o = .tup i) o.t? := by cases o <;> first | exact invN | exact invS rfl
theorem O.t_eq {o : O} {i : List V} (h : o.t? = some i) : o = .tup i := O.t_inv o i h
noncomputable def addO (H : AH) (Q : V → AH → Prop) (o' o : O) : Prop := o.el False (lst := fun l => ifS o'.l? fun r => l.length + r.length ≤ sz ∧ ∀ x, H x = none → Q (.ref x) (H.set x (.lst (l ++ r))))
  (tup := fun l => ifS o'.t? fun r => l.length + r.length ≤ sz ∧ ∀ x, H x = none ∨ H x = some (.tup (l ++ r)) → Q (.ref x) (H.set x (.tup (l ++ r))))
noncomputable def addR (H : AH) (v w : V) (Q : V → AH → Prop) : Prop := ifS v.r? fun a => ifS w.r? fun b => ifS (H a) fun o => ifS (H b) fun o' => addO H Q o' o
noncomputable def binW (H : AH) (op : Op) (v w : V) (Q : V → AH → Prop) : Prop := match v.i? with
  | some a => ifS w.i? fun b => ifS (intBin op a b) fun r => Q (.int r) H
  | none => match op with
    | .add => addR H v w Q
    | _ => False
theorem ifL_mk {o : Option O} {l : List V} {k : List V → Prop} (e : o = some (.lst l)) (q : k l) : ifS o fun x => ifS x.l? k := by rw [e]; exact q
theorem ifD_mk {o : Option O} {l : List (Int × V)} {k : List (Int × V) → Prop} (e : o = some (.dct l)) (q : k l) : ifS o fun x => ifS x.d? k := by rw [e]; exact q
noncomputable def dpopW (H : AH) (v k : V) (d : Option V) (Q : V → AH → Prop) : Prop := ifS v.r? fun a => ifS k.i? fun i => ifS (H a) fun o => ifS o.d? fun es => match get es i with
  | some w => Q w (H.set a (.dct (rem es i)))
  | none => ifS d fun d => Q d H
noncomputable def dgetW (H : AH) (v k d : V) (Q : V → AH → Prop) : Prop := ifS v.r? fun a => ifS k.i? fun i => ifS (H.see a) fun o => ifS o.d? fun es => Q ((get es i).getD d) H
noncomputable def bi1 (f : B) (v : V) (H : AH) (Q : V → AH → Prop) : Prop := match f with
  | .abs => ifS v.i? fun i => Q (.int i.natAbs) H
  | .len => ifS v.r? fun a => ifS (H.see a) fun o => ifS o.n? fun n => Q (.int n) H
  | .toList => ifS (seqOf H v) fun l => ∀ x, H x = none → Q (.ref x) (H.set x (.lst l))
  | .toTuple => ifS v.r? fun a => ifS (H.see a) fun o => ifS o.l? fun l => ∀ x, H x = none → Q (.ref x) (H.set x (.tup l))
  | .toInt => ifS v.i? fun i => Q (.int i) H
  | .isBool => ifS v.b? fun _ => Q (.bool true) H
  | .sortAbs => ifS v.r? fun a => ifS (H.see a) fun o => ifS o.k? fun l => l.all V.isI = true ∧ l.length < 64 ∧ ∀ ys, ys.Perm l → ys.Pairwise absLe → ∀ x, H x = none → Q (.ref x) (H.set x (.lst ys))
  | .pop => ifS v.r? fun a => ifS (H a) fun o => ifS o.l? fun l => ifS l.getLast? fun w => Q w (H.set a (.lst l.dropLast))
  | _ => False
noncomputable def bi2 (f : B) (v w : V) (H : AH) (Q : V → AH → Prop) : Prop := match f with
  | .append => ifS v.r? fun a => ifS (H a) fun o => ifS o.l? fun l => l.length < sz ∧ Q .none (H.set a (.lst (l ++ [w])))
  | .extend => ifS v.r? fun a => ifS w.r? fun b => ifS (H a) fun o => ifS o.l? fun l => ifS (H.see b) fun o => ifS o.l? fun r => a ≠ b ∧ l.length + r.length ≤ sz ∧ Q .none (H.set a (.lst (l ++ r)))
  | .dget1 => dgetW H v w .none Q
  | .dpop1 => dpopW H v w none Q
  | .update => ifS v.r? fun a => ifS w.r? fun b => ifS (H a) fun o => ifS o.d? fun l => ifS (H.see b) fun o => ifS o.d? fun r => a ≠ b ∧ l.length + r.length ≤ sz ∧ Q .none (H.set a (.dct (putAll l r)))
  | _ => False
noncomputable def bi3 (f : B) (v w d : V) (H : AH) (Q : V → AH → Prop) : Prop := match f with
  | .dget2 => dgetW H v w d Q
  | .dpop2 => dpopW H v w (some d) Q
  | .setdef => ifS v.r? fun a => ifS w.i? fun i => ifS (H a) fun o => ifS o.d? fun es => match get es i with
    | some v => Q v H
    | none => es.length < sz ∧ Q d (H.set a (.dct (put es i d)))
  | _ => False
noncomputable def biW (f : B) (vs : List V) (H : AH) (Q : V → AH → Prop) : Prop := match vs with
  | [v] => bi1 f v H Q
  | [v, w] => bi2 f v w H Q
  | [v, w, d] => bi3 f v w d H Q
  | _ => False
theorem bi_1 {f : B} {vs : List V} {H : AH} {Q : V → AH → Prop} (h : biW f vs H Q) (h2 : ∀ v w, ¬ bi2 f v w H Q) (h3 : ∀ v w d, ¬ bi3 f v w d H Q) : ∃ v, vs = [v] ∧ bi1 f v H Q := match vs, h with
  | [v], h => ⟨v, rfl, h⟩
  | [_, _], h => (h2 _ _ h).elim
  | [_, _, _], h => (h3 _ _ _ h).elim
theorem bi_2 {f : B} {vs : List V} {H : AH} {Q : V → AH → Prop} (h : biW f vs H Q) (h2 : ∀ v, ¬ bi1 f v H Q) (h3 : ∀ v w d, ¬ bi3 f v w d H Q) : ∃ v w, vs = [v, w] ∧ bi2 f v w H Q := match vs, h with
  | [_], h => (h2 _ h).elim
  | [v, w], h => ⟨v, w, rfl, h⟩
  | [_, _, _], h => (h3 _ _ _ h).elim
theorem bi_3 {f : B} {vs : List V} {H : AH} {Q : V → AH → Prop} (h : biW f vs H Q) (h2 : ∀ v, ¬ bi1 f v H Q) (h3 : ∀ v w, ¬ bi2 f v w H Q) : ∃ v w d, vs = [v, w, d] ∧ bi3 f v w d H Q := match vs, h with
  | [_], h => (h2 _ h).elim
  | [_, _], h => (h3 _ _ h).elim
  | [v, w, d], h => ⟨v, w, d, rfl, h⟩
noncomputable def clip (n : Nat) (i : Int) : Option Nat := gdP (0 ≤ i) (min i.toNat n)
noncomputable def clampLo (n : Nat) (v : V) : Option Nat := v.el none (nn := some 0) (it := clip n)
noncomputable def clampHi (n : Nat) (v : V) : Option Nat := v.el none (nn := some n) (it := clip n)
theorem clip_nat {n k : Nat} : clip n k = some (min k n) := gdP_mk (Int.natCast_nonneg k)
noncomputable def mskd (m : List V) (k : List Bool) : List V := List.zipWith (fun v b => if b then v else .un) m k
noncomputable def rngL (a b : Int) : List V := (List.range (b - a).toNat).map fun (k : Nat) => V.int (a + k)
noncomputable def itO (H : AH) (a : Addr) (K : List V → (AH → Prop) → (AH → AH) → AH → Prop) (o : O) : Prop := o.el False (lst := fun l => K l (fun H => H.see a = some (.lst l)) (fun H => H) H) (tup := fun l => K l (fun H => H.see a = some (.tup l)) (fun H => H) H)
  (dct := fun es => ∀ o, K (keysOf es) (fun H => H a = some (.froz (.dct es) o)) (fun H => H.set a (.dct es)) (H.set a (.froz (.dct es) o))) (frz := fun x => ifS x.l? fun l => K l (fun H => H.see a = some (.lst l)) (fun H => H) H)
noncomputable def itW (H : AH) (v : V) (K : List V → (AH → Prop) → (AH → AH) → AH → Prop) : Prop := ifS v.r? fun a => ifS (H a) (itO H a K)
noncomputable def ifB (v : V) (P Q : Prop) : Prop := ifS v.b? fun b => cond b P Q
theorem ifB_eq {v : V} {P Q : Prop} (h : ifB v P Q) : ∃ b, v = .bool b ∧ cond b P Q := let ⟨b, e, h⟩ := ifS_eq h; ⟨b, V.b_eq e, h⟩
theorem ifB_b {v : V} {P Q : Prop} (h : ifB v P Q) : ∃ b, v = .bool b := let ⟨b, e, _⟩ := ifB_eq h; ⟨b, e⟩
theorem ifS_b {v : V} {K : Bool → Prop} (h : ifS v.b? K) : ∃ b, v = .bool b := let ⟨b, e, _⟩ := ifS_eq h; ⟨b, V.b_eq e⟩
noncomputable def slT (l h : V) (n : Nat) (K : Nat → Prop) : Prop := l = .none ∧ ifS h.i? fun j => 0 ≤ j ∧ j < n ∧ K j.toNat
noncomputable def slO (H : AH) (l h : V) (Q : V → AH → Prop) (o : O) : Prop := o.el False (lst := fun xs => ifS (clampLo xs.length l) fun i => ifS (clampHi xs.length h) fun j => ∀ x, H x = none → Q (.ref x) (H.set x (.lst ((xs.take j).drop i))))
  (tup := fun xs => slT l h xs.length fun j => ∀ x, H x = none → Q (.ref x) (H.set x (.tup (xs.take j))))
noncomputable def onO (f : B) (o : O) : Prop := o.el False (lst := fun _ => f.onList = true) (dct := fun _ => f.onDict = true)
noncomputable def cloop {α : Type} (chk : AH → Prop) (body : V → AH → α → (α → AH → Prop) → Prop) : List V → AH → α → (α → AH → Prop) → Prop
  | [], H, acc, Q => chk H ∧ Q acc H
  | v :: vs, H, acc, Q => chk H ∧ body v H acc fun acc H => cloop chk body vs H acc Q
noncomputable abbrev Sp := Nat → List V → AH → (V → AH → Prop) → Prop
mutual
noncomputable def X.ev (sp : Sp) : X → List V → AH → (V → AH → Prop) → Prop
  | .c v, m, H, Q => Q v H
  | .loc i, m, H, Q => ifS ((m[i]?).bind nun) fun v => Q v H
  | .attr x f, m, H, Q => x.ev sp m H fun v H => ifS (attrV H v f) fun w => Q w H
  | .neg x, m, H, Q => x.ev sp m H fun v H => ifS v.i? fun i => Q (.int (-i)) H
  | .not x, m, H, Q => x.ev sp m H fun v H => ifS v.b? fun b => Q (.bool (!b)) H
  | .bin op l r, m, H, Q => l.ev sp m H fun v H => r.ev sp m H fun w H => binW H op v w Q
  | .cmp op l r, m, H, Q => l.ev sp m H fun v H => r.ev sp m H fun w H => ifS (cmpV H op v w) fun b => Q (.bool b) H
  | .cmp2 o1 o2 a b c0, m, H, Q => a.ev sp m H fun u H => b.ev sp m H fun v H => ifS (cmpV H o1 u v) fun b => cond b (c0.ev sp m H fun w H => ifS (cmpV H o2 v w) fun b => Q (.bool b) H) (Q (.bool false) H)
  | .and l r, m, H, Q => l.ev sp m H fun v H => ifB v (r.ev sp m H fun w H => ifS w.b? fun b => Q (.bool b) H) (Q (.bool false) H)
  | .or l r, m, H, Q => l.ev sp m H fun v H => ifB v (Q (.bool true) H) (r.ev sp m H fun w H => ifS w.b? fun b => Q (.bool b) H)
  | .ite c0 a b, m, H, Q => c0.ev sp m H fun v H => ifB v (a.ev sp m H Q) (b.ev sp m H Q)
  | .list xs, m, H, Q => X.evs sp xs m H fun vs H => ∀ a, H a = none → Q (.ref a) (H.set a (.lst vs))
  | .tup xs, m, H, Q => X.evs sp xs m H fun vs H => ∀ a, H a = none → Q (.ref a) (H.set a (.tup vs))
  | .dict0, m, H, Q => ∀ a, H a = none → Q (.ref a) (H.set a (.dct []))
  | .dict1 k v, m, H, Q => k.ev sp m H fun kv H => v.ev sp m H fun vv H => ifS kv.i? fun i => ∀ a, H a = none → Q (.ref a) (H.set a (.dct [(i, vv)]))
  | .dictS ks xs, m, H, Q => X.evs sp xs m H fun vs H => ∀ a, H a = none → Q (.ref a) (H.set a (.att (ks.zip vs)))
  | .sub x i, m, H, Q => x.ev sp m H fun v H => i.ev sp m H fun k H => ifS (subV H v k) fun w => Q w H
  | .slice x lo hi, m, H, Q => x.ev sp m H fun v H => lo.ev sp m H fun l H => hi.ev sp m H fun h H => ifS v.r? fun a => ifS (H.see a) (slO H l h Q)
  | .rev x, m, H, Q => x.ev sp m H fun v H => ifS v.r? fun a => ifS (H.see a) fun o => ifS o.l? fun xs => ∀ x, H x = none → Q (.ref x) (H.set x (.lst xs.reverse))
  | .bi f xs, m, H, Q => X.evs sp xs m H fun vs H => biW f vs H Q
  | .callG f xs, m, H, Q => X.evs sp xs m H fun vs H => sp f vs H Q
  | .bm f o xs, m, H, Q => o.ev sp m H fun ov H => ifS ov.r? fun a => ifS (H.see a) fun o => onO f o ∧ X.evs sp xs m H fun vs H => biW f (ov :: vs) H Q
  | .callM f o xs, m, H, Q => o.ev sp m H fun ov H => ifS (insV H ov) fun _ => X.evs sp xs m H fun vs H => sp f (ov :: vs) H Q
  | .new f xs, m, H, Q => X.evs sp xs m H fun vs H => ∀ a d, H a = none → H d = none → a ≠ d →
      sp f (.ref a :: vs) ((H.set a (.inst d)).set d (.att [])) fun v H => v = .none ∧ Q (.ref a) H
  | .sup f, m, H, Q => ifS m.head? fun v => ifS (insV H v) fun _ => sp f [v] H Q
  | .sortH f x o, m, H, Q => x.ev sp m H fun v H => o.ev sp m H fun ov H => ifS v.r? fun a => ifS (H.see a) fun o => ifS o.l? fun l => ifS (insV H ov) fun _ =>
      l.length < 64 ∧ ∃ g : V → Int, (∀ v ∈ l, sp f [ov, v] H fun w H' => w = .int (g v) ∧ H' = H) ∧ ∀ ys, ys.Perm l → ys.Pairwise (fun p q => g q ≤ g p) → ∀ x, H x = none → Q (.ref x) (H.set x (.lst ys))
  | .lcomp mask it cond b, m, H, Q => X.iw sp it m H fun items chk thaw H =>
      cloop chk (fun x H acc K => cond.ev sp (mskd m mask ++ [x]) H fun v H => ifB v (X.cw sp b (mskd m mask ++ [x]) H acc K) (K acc H)) items H [] fun acc H => ∀ a, thaw H a = none → Q (.ref a) ((thaw H).set a (.lst acc))
  | .dcomp mask it k v, m, H, Q => X.iw sp it m H fun items chk thaw H =>
      cloop chk (fun x H acc K => k.ev sp (mskd m mask ++ [x]) H fun kv H => v.ev sp (mskd m mask ++ [x]) H fun vv H => ifS kv.i? fun i => acc.length < sz ∧ K (put acc i vv) H) items H [] fun acc H => ∀ a, thaw H a = none → Q (.ref a) ((thaw H).set a (.dct acc))
  | .cfor .., _, _, _ => False
  | .emit _, _, _, _ => False
  | .rng .., _, _, _ => False
  | .src .., _, _, _ => False
noncomputable def X.evs (sp : Sp) : List X → List V → AH → (List V → AH → Prop) → Prop
  | [], m, H, Q => Q [] H
  | x :: xs, m, H, Q => x.ev sp m H fun v H => X.evs sp xs m H fun vs H => Q (v :: vs) H
noncomputable def X.iw (sp : Sp) : X → List V → AH → (List V → (AH → Prop) → (AH → AH) → AH → Prop) → Prop
  | .rng a b, m, H, K => a.ev sp m H fun v H => b.ev sp m H fun w H => ifS v.i? fun i => ifS w.i? fun j => -big ≤ i ∧ i < big ∧ -big ≤ j ∧ j < big ∧ K (rngL i j) (fun _ => True) (fun H => H) H
  | .src x, m, H, K => x.ev sp m H fun v H => itW H v K
  | _, _, _, _ => False
noncomputable def X.cw (sp : Sp) : X → List V → AH → List V → (List V → AH → Prop) → Prop
  | .cfor it cond b, m, H, acc, Q => X.iw sp it m H fun items chk thaw H =>
      cloop chk (fun x H acc K => cond.ev sp (m ++ [x]) H fun v H => ifB v (X.cw sp b (m ++ [x]) H acc K) (K acc H)) items H acc fun acc H => Q acc (thaw H)
  | .emit x, m, H, acc, Q => x.ev sp m H fun v H => acc.length < sz ∧ Q (acc ++ [v]) H
  | _, _, _, _, _ => False
end
noncomputable def putsN : List Nat → List V → List V → List V
  | j :: js, v :: vs, m => putsN js vs (m.set j v)
  | _, _, m => m
noncomputable def setO (H : AH) (a : Addr) (k w : V) (Q : AH → Prop) (o : O) : Prop := o.el False (lst := fun l => ifS k.i? fun n => ifS (idxN l n) fun i => Q (H.set a (.lst (l.set i w)))) (dct := fun es => ifS k.i? fun n => es.length < sz ∧ Q (H.set a (.dct (put es n w))))
  (att := fun es => ifS k.s? fun s => es.length < 900 ∧ Q (H.set a (.att (put es s w))))
noncomputable def setIW (H : AH) (v k w : V) (Q : AH → Prop) : Prop := ifS v.r? fun a => ifS (H a) (setO H a k w Q)
noncomputable def floop (chk : AH → Prop) (body : V → List V → AH → (List V → AH → Prop) → (V → AH → Prop) → Prop) : List V → List V → AH → (List V → AH → Prop) → (V → AH → Prop) → Prop
  | [], m, H, Q, R => chk H ∧ Q m H
  | v :: vs, m, H, Q, R => chk H ∧ body v m H (fun m H => floop chk body vs m H Q R) R
noncomputable def S.wp (sp : Sp) : S → List V → AH → (List V → AH → Prop) → (V → AH → Prop) → Prop
  | .asg i x, m, H, Q, R => x.ev sp m H fun v H => Q (m.set i v) H
  | .asgN js xs, m, H, Q, R => X.evs sp xs m H fun vs H => vs.length = js.length ∧ Q (putsN js vs m) H
  | .setA o f x, m, H, Q, R => x.ev sp m H fun v H => o.ev sp m H fun ov H => ifS (insV H ov) fun p => p.2.length < 900 ∧ Q m (H.set p.1 (.att (put p.2 f v)))
  | .setI o i x, m, H, Q, R => x.ev sp m H fun w H => o.ev sp m H fun v H => i.ev sp m H fun k H => setIW H v k w fun H => Q m H
  | .swap o1 i1 o2 i2 x1 x2, m, H, Q, R => x1.ev sp m H fun w1 H => x2.ev sp m H fun w2 H =>
      o1.ev sp m H fun v H => i1.ev sp m H fun k H => setIW H v k w1 fun H =>
      o2.ev sp m H fun v H => i2.ev sp m H fun k H => setIW H v k w2 fun H => Q m H
  | .ex x, m, H, Q, R => x.ev sp m H fun _ H => Q m H
  | .ite c s t, m, H, Q, R => c.ev sp m H fun v H => ifB v (s.wp sp m H Q R) (t.wp sp m H Q R)
  | .whl c s, m, H, Q, R => ∃ (I : Nat → List V → AH → Prop) (n : Nat), I n m H ∧ ∀ n m H, I n m H → c.ev sp m H fun v H => ifB v (s.wp sp m H (fun m H => ∃ k, k < n ∧ I k m H) R) (Q m H)
  | .for_ i it s, m, H, Q, R => X.iw sp it m H fun items chk thaw H =>
      floop chk (fun v m H Q R => s.wp sp (m.set i v) H Q R) items m H (fun m H => Q m (thaw H)) (fun v H => chk H ∧ R v (thaw H))
  | .ret x, m, H, Q, R => x.ev sp m H R
  | .seq s t, m, H, Q, R => s.wp sp m H (fun m H => t.wp sp m H Q R) R
  | .skip, m, H, Q, R => Q m H
  | .fail, m, H, Q, R => False
structure Tb where
  globs : List (Str × Nat)
  meths : List (Str × Nat)
  consts : List (Str × Int)
  cls : Str
  initF : Nat
  supF : Nat
  keyN : Str
  keyF : Nat
inductive Kd where | loc | cel | glb | no
  deriving DecidableEq
noncomputable def kdK : NameKind → Kd
  | .local => .loc
  | .cell => .cel
  | .free => .cel
  | .globalExplicit => .no
  | .globalImplicit => .glb
noncomputable def kd (sc : Scope) (n : Str) : Kd := (sc.names.lookup n).elim .no kdK
noncomputable abbrev Sl := List (Option Str)
noncomputable def slot (sl : Sl) (n : Str) : Option Nat := if n == ("__classdict__" : Str) || n == ("__debug__" : Str) then none else sl.idxOf? (some n)
noncomputable def trOp : Operator → Option Op
  | .Add => some .add
  | .Sub => some .sub
  | .Mult => some .mul
  | .FloorDiv => some .fdiv
  | .Mod => some .mod
  | .Pow => some .pow
  | _ => none
noncomputable def trCm : CmpOp → Option Cm
  | .Eq => some .eq
  | .NotEq => some .ne
  | .Lt => some .lt
  | .LtE => some .le
  | .Gt => some .gt
  | .GtE => some .ge
  | .Is => some .is
  | .IsNot => some .isNot
  | .In => some .mem
  | .NotIn => some .notMem
noncomputable def constStr (e : Expr) : Option Str := (constOf e).bind strK
noncomputable def boTab : List (Str × Nat × B) := [("abs", 1, .abs), ("len", 1, .len), ("list", 1, .toList), ("tuple", 1, .toTuple), ("int", 1, .toInt)]
noncomputable def bmTab : List (Str × Nat × B) := [("append", 1, .append), ("get", 1, .dget1), ("get", 2, .dget2), ("pop", 0, .pop), ("pop", 1, .dpop1), ("pop", 2, .dpop2), ("extend", 1, .extend), ("setdefault", 2, .setdef), ("update", 1, .update)]
noncomputable def bFind (t : List (Str × Nat × B)) (f : Str) (n : Nat) : Option B := (t.find? fun x => f == x.1 && n == x.2.1).map fun x => x.2.2
noncomputable def biOf (f : Str) (n : Nat) : Option B := bFind boTab f n
noncomputable def biMeth (f : Str) (n : Nat) : Option B := bFind bmTab f n
theorem bFind_eq {t : List (Str × Nat × B)} {f : Str} {n : Nat} {b : B} (h : bFind t f n = some b) : (f, n, b) ∈ t := by
  obtain ⟨⟨f', n', b'⟩, h1, rfl⟩ := Option.map_eq_some_iff.mp h
  have h2 := List.find?_some h1
  rw [Bool.and_eq_true, beq_iff_eq, beq_iff_eq] at h2
  rw [h2.1, h2.2]
  exact List.mem_of_find?_eq_some h1
theorem allC {α : Type} {P : α → Prop} {a : α} {l : List α} (h : P a) (h' : ∀ x ∈ l, P x) : ∀ x ∈ a :: l, P x := List.forall_mem_cons.mpr ⟨h, h'⟩
theorem allN {α : Type} {P : α → Prop} : ∀ x ∈ ([] : List α), P x := fun _ h => nomatch h
noncomputable def glb (sc : Scope) (n : Str) : Bool := kd sc n == .glb && n != ("__debug__" : Str)
noncomputable def plainBase (e : Expr) : Bool := (vw e).el false (nm := fun _ => true) (at_ := fun _ _ _ => true) (sub := fun _ _ => true) (call := fun f _ _ _ => (atOf f).isSome)
noncomputable def maskOf (sc : Scope) (sl : Sl) : List Bool := sl.map fun o => match o with
  | some n => kd sc n == .cel && sc.names.lookup n == some .free
  | none => false
noncomputable def slIn (sc : Scope) (sl : Sl) (v : Str) : Sl := (List.zipWith (fun o b => if b then o else none) sl (maskOf sc sl)) ++ [some v]
noncomputable def varOK (s : Scope) (v : Str) : Bool := s.names.lookup v == some .local || s.names.lookup v == some .cell
noncomputable def compChk (sc s : Scope) (v : Str) : Bool := s.kind == .function && decide (s.names.map (·.1)).Nodup && s.names.all (fun x => x.2 != .free || kd sc x.1 == .cel) && varOK s v
end Mine
end
section
open PySem PySem.W
namespace Mine
section
variable (prog : Program) (w : World) (C : Addr)
noncomputable def Real (h : Heap) (a : Addr) : O → Prop
  | .lst l => ∃ xs, h.PlainList a xs ∧ xs.toList.map av = l ∧ l.length ≤ sz
  | .tup l => ∃ xs n, h.get? a = some (PyProof.Rows.seqObj "tuple" xs n) ∧ xs.toList.map av = l ∧ l.length ≤ sz
  | .dct es => ∃ kvs : List (Int × Value), h.DictOf (intKind prog w) a kvs ∧ kvs.map (fun e => (e.1, av e.2)) = es ∧ es.length ≤ sz
  | .att es => ∃ kvs : List (Str × Value), h.DictOf (strKind prog w) a kvs ∧ kvs.map (fun e => (nmOf e.1, av e.2)) = es.map (fun e => (some e.1, e.2)) ∧ es.length ≤ 900
  | .inst d => h.get? a = some (instObj C d)
  | .froz x o => h.get? a = some o ∧ Real h a x
variable {prog w C}
theorem Real.congr {h h' : Heap} {a : Addr} (e : h'.get? a = h.get? a) : ∀ {x : O}, Real prog w C h a x → Real prog w C h' a x
  | .lst l, ⟨xs, ⟨n, p⟩, q⟩ => ⟨xs, ⟨n, e.trans p⟩, q⟩
  | .tup l, ⟨xs, n, p, q⟩ => ⟨xs, n, e.trans p, q⟩
  | .dct es, ⟨kvs, ⟨o, es', ep, p, q⟩, r⟩ => ⟨kvs, ⟨o, es', ep, e.trans p, q⟩, r⟩
  | .att es, ⟨kvs, ⟨o, es', ep, p, q⟩, r⟩ => ⟨kvs, ⟨o, es', ep, e.trans p, q⟩, r⟩
  | .inst d, p => e.trans p
  | .froz x o, ⟨p, q⟩ => ⟨e.trans p, Real.congr e q⟩
theorem Real.get {h : Heap} {a : Addr} : ∀ {x : O}, Real prog w C h a x → ∃ o, h.get? a = some o
  | .lst l, ⟨xs, ⟨n, p⟩, q⟩ => ⟨_, p⟩
  | .tup l, ⟨xs, n, p, q⟩ => ⟨_, p⟩
  | .dct es, ⟨kvs, ⟨o, es', ep, p, q⟩, r⟩ => ⟨_, p⟩
  | .att es, ⟨kvs, ⟨o, es', ep, p, q⟩, r⟩ => ⟨_, p⟩
  | .inst d, p => ⟨_, p⟩
  | .froz x o, ⟨p, q⟩ => ⟨_, p⟩
end
structure Cx where
  prog : Program
  w : World
  K : Frag
  C : Addr
  T : Tb
  h₀ : Heap
  os : OsState
noncomputable abbrev Bs := Addr → Option Obj
structure Hp (c : Cx) (B : Bs) (H : AH) (s : Shared) : Prop where
  gens : s.gens = #[] ∧ s.os = c.os
  base : ∀ b o, c.h₀.get? b = some o → B b = some o
  keep : ∀ b o, B b = some o → s.heap.get? b = some o
  real : ∀ a x, H a = some x → Real c.prog c.w c.C s.heap a x
  apart : ∀ a x, H a = some x → B a = none
noncomputable def baseOf (h : Heap) (H : AH) : Bs := fun a => (H a).elim (h.get? a) fun _ => none
theorem baseOf_get {h : Heap} {H : AH} {a : Addr} {o : Obj} (e : baseOf h H a = some o) : H a = none ∧ h.get? a = some o := by
  unfold baseOf at e
  cases q : H a with
  | none => rw [q] at e; exact ⟨rfl, e⟩
  | some x => rw [q] at e; exact nsm e
section
variable {c : Cx} {B : Bs} {H : AH} {s : Shared}
theorem Hp.grow (R : Hp c B H s) {h' : Heap} {t : Nat} (k : ∀ b o, s.heap.get? b = some o → h'.get? b = some o) : Hp c B H { s with heap := h', toks := t } :=
  ⟨R.gens, R.base, fun b o e => k _ _ (R.keep b o e), fun a x e => by
      obtain ⟨o, ho⟩ := (R.real a x e).get
      exact (R.real a x e).congr ((k _ _ ho).trans ho.symm), R.apart⟩
theorem Hp.tok (R : Hp c B H s) {t : Nat} : Hp c B H { s with toks := t } := R.grow fun _ _ e => e
theorem Hp.fresh (R : Hp c B H s) {a : Addr} (ha : s.heap.get? a = none) : H a = none := by
  cases e : H a with
  | none => rfl
  | some x => obtain ⟨o, ho⟩ := (R.real _ _ e).get; rw [ha] at ho; cases ho
theorem Hp.freshB (R : Hp c B H s) {a : Addr} (ha : s.heap.get? a = none) : B a = none := by
  cases e : B a with
  | none => rfl
  | some x => have := R.keep _ _ e; rw [ha] at this; cases this
theorem Hp.add (R : Hp c B H s) {h' : Heap} {t : Nat} {a : Addr} {x : O} (k : ∀ b o, s.heap.get? b = some o → h'.get? b = some o)
    (ha : s.heap.get? a = none) (hx : Real c.prog c.w c.C h' a x) : Hp c B (H.set a x) { s with heap := h', toks := t } := by
  have hB := R.freshB ha
  have R' := R.grow (t := t) k
  refine ⟨R'.gens, R'.base, R'.keep, fun b y e => ?_, fun b y e => ?_⟩
  · unfold AH.set at e
    by_cases hb : b = a
    · subst hb; rw [if_pos rfl] at e; cases e; exact hx
    · rw [if_neg hb] at e; exact R'.real b y e
  · unfold AH.set at e
    by_cases hb : b = a
    · subst hb; exact hB
    · rw [if_neg hb] at e; exact R'.apart b y e
theorem Hp.upd (R : Hp c B H s) {h' : Heap} {t : Nat} {a : Addr} {x x' : O} (hx : H a = some x) (hs : Heap.SameBut a s.heap h') (hx' : Real c.prog c.w c.C h' a x') :
    Hp c B (H.set a x') { s with heap := h', toks := t } := by
  have hB := R.apart a x hx
  refine ⟨R.gens, R.base, fun b o e => (hs.2 b (by rintro rfl; rw [hB] at e; cases e)).trans (R.keep b o e), fun b y e => ?_, fun b y e => ?_⟩
  · unfold AH.set at e
    by_cases hb : b = a
    · subst hb; rw [if_pos rfl] at e; cases e; exact hx'
    · rw [if_neg hb] at e; exact (R.real b y e).congr (hs.2 b hb)
  · unfold AH.set at e
    by_cases hb : b = a
    · subst hb; exact hB
    · rw [if_neg hb] at e; exact R.apart b y e
theorem Hp.see (R : Hp c B H s) {a : Addr} {x : O} (h : H.see a = some x) : Real c.prog c.w c.C s.heap a x := by
  obtain ⟨y, e, rfl⟩ := b1_eq h
  cases y <;> first | exact R.real _ _ e | exact (R.real _ _ e).2
theorem Hp.seeB (R : Hp c B H s) {a : Addr} {x : O} (h : H.see a = some x) : B a = none := by
  obtain ⟨y, e, _⟩ := b1_eq h
  exact R.apart _ _ e
theorem Hp.base_ne (R : Hp c B H s) {a b : Addr} {x : O} {o : Obj} (h : H.see a = some x) (hb : c.h₀.get? b = some o) : a ≠ b := by
  rintro rfl
  have := R.seeB h
  rw [R.base _ _ hb] at this; cases this
theorem Hp.whole (R : Hp c B H s) : Hp c (baseOf s.heap H) H s := by
  refine ⟨R.gens, fun b o e => ?_, fun b o e => ?_, R.real, fun a x e => ?_⟩
  · have e1 := R.base _ _ e
    unfold baseOf
    cases q : H b with
    | none => exact R.keep _ _ e1
    | some x => have := R.apart _ _ q; rw [e1] at this; cases this
  · exact (baseOf_get e).2
  · unfold baseOf; rw [e]; rfl
theorem Hp.back (R : Hp c B H s) {H' : AH} {s' : Shared} (R' : Hp c (baseOf s.heap H) H' s') : Hp c B H' s' := by
  have inB : ∀ b o, B b = some o → baseOf s.heap H b = some o := fun b o e => by
    unfold baseOf
    cases q : H b with
    | none => exact R.keep _ _ e
    | some x => have := R.apart _ _ q; rw [e] at this; cases this
  refine ⟨R'.gens, R.base, fun b o e => R'.keep _ _ (inB _ _ e), R'.real, fun a x e => ?_⟩
  cases q : B a with
  | none => rfl
  | some o => have := R'.apart _ _ e; rw [inB _ _ q] at this; cases this
theorem Hp.weaken (R : Hp c B H s) {H' : AH} (h : ∀ a x, H' a = some x → H a = some x) : Hp c B H' s :=
  ⟨R.gens, R.base, R.keep, fun a x e => R.real a x (h a x e), fun a x e => R.apart a x (h a x e)⟩
end
structure EnvOK (env : Env) : Prop where
  kind : env.scope.kind = .function
  glob : env.globals = mainGlobals
  bi : env.builtins = builtinsNs
  inj : ∀ n n' c, env.cells.lookup n = some c → env.cells.lookup n' = some c → n = n'
  loc : ∀ n c, env.cells.lookup n = some c → c ≠ env.locals
  has : ∀ n, kd env.scope n = .cel → ∃ c, env.cells.lookup n = some c
inductive ReadOK (env : Env) (n : Str) (v : V) (h : Heap) : Prop
  | loc (e : kd env.scope n = .loc) (x : Value) (mm : Str → Option Value) (a : h.Ns env.locals mm) (b : mm n = some x) (d : av x = v)
  | cel (e : kd env.scope n = .cel) (c : Addr) (x : Value) (a : env.cells.lookup n = some c) (b : h.IsCell c (some x)) (d : av x = v)
structure Fm (B : Bs) (env : Env) (own : List Str) (sl : Sl) (m : List V) (H : AH) (s : Shared) : Prop where
  eok : EnvOK env
  len : m.length = sl.length
  nd : ∀ (i j : Nat) (n : Str), sl[i]? = some (some n) → sl[j]? = some (some n) → i = j
  ownK : ∀ n, n ∈ own → env.scope.names.lookup n = some .local ∨ env.scope.names.lookup n = some .cell
  ns : ∃ mm, s.heap.Ns env.locals mm
  locB : B env.locals = none
  locH : H env.locals = none
  celH : ∀ n c, env.cells.lookup n = some c → H c = none
  celA : ∀ n c, env.cells.lookup n = some c → ∃ o, s.heap.get? c = some o
  celB : ∀ n c, n ∈ own → env.cells.lookup n = some c → B c = none
  cell : ∀ n, n ∈ own → kd env.scope n = .cel → ∃ c v, env.cells.lookup n = some c ∧ s.heap.IsCell c v
  read : ∀ (i : Nat) (n : Str) (v : V), sl[i]? = some (some n) → m[i]? = some v → v ≠ .un → ReadOK env n v s.heap
structure Rep (c : Cx) (B : Bs) (env : Env) (own : List Str) (sl : Sl) (m : List V) (H : AH) (s : Shared) : Prop where
  hp : Hp c B H s
  fm : Fm B env own sl m H s
theorem kd_loc {sc : Scope} {n : Str} : kd sc n = .loc ↔ sc.names.lookup n = some .local := by
  unfold kd; cases sc.names.lookup n with | none => simp | some k => cases k <;> simp [kdK]
theorem kd_glb {sc : Scope} {n : Str} : kd sc n = .glb ↔ sc.names.lookup n = some .globalImplicit := by
  unfold kd; cases sc.names.lookup n with | none => simp | some k => cases k <;> simp [kdK]
theorem kd_cel {sc : Scope} {n : Str} : kd sc n = .cel ↔ sc.names.lookup n = some .cell ∨ sc.names.lookup n = some .free := by
  unfold kd; cases sc.names.lookup n with | none => simp | some k => cases k <;> simp [kdK]
theorem IsCell.keeps {h h' : Heap} {c : Addr} {v : Option Value} (x : h.IsCell c v) (e : h'.get? c = h.get? c) : h'.IsCell c v :=
  let ⟨o, ho, hd⟩ := x; ⟨o, e.trans ho, hd⟩
theorem Ns.keeps1 {h h' : Heap} {a : Addr} {m : Str → Option Value} (x : h.Ns a m) (e : h'.get? a = h.get? a) : h'.Ns a m :=
  let ⟨o, es, ep, ho, r⟩ := x; ⟨o, es, ep, e.trans ho, r⟩
theorem ReadOK.mono {env : Env} {n : Str} {v : V} {h h' : Heap} (x : ReadOK env n v h) (k1 : h'.get? env.locals = h.get? env.locals)
    (k2 : ∀ c, env.cells.lookup n = some c → h'.get? c = h.get? c) : ReadOK env n v h' := by
  cases x with
  | loc e y mm a b d => exact .loc e y mm (Ns.keeps1 a k1) b d
  | cel e c y a b d => exact .cel e c y a (IsCell.keeps b (k2 _ a)) d
section
variable {c : Cx} {B B' : Bs} {env : Env} {own : List Str} {sl : Sl} {m : List V} {H H' : AH} {s s' : Shared}
theorem Fm.alive (R : Fm B env own sl m H s) : ∃ o, s.heap.get? env.locals = some o := let ⟨_, o, _, _, h, _⟩ := R.ns; ⟨o, h⟩
theorem Fm.keep (R : Fm B env own sl m H s) (k1 : s'.heap.get? env.locals = s.heap.get? env.locals) (k2 : ∀ n c, env.cells.lookup n = some c → s'.heap.get? c = s.heap.get? c)
    (hL : H' env.locals = none) (hc : ∀ n c, env.cells.lookup n = some c → H' c = none) : Fm B env own sl m H' s' :=
  ⟨R.eok, R.len, R.nd, R.ownK, let ⟨mm, x⟩ := R.ns; ⟨mm, Ns.keeps1 x k1⟩, R.locB, hL, hc, fun n c e => let ⟨o, h⟩ := R.celA n c e; ⟨o, (k2 n c e).trans h⟩, R.celB,
    fun n a b => let ⟨c, v, x, y⟩ := R.cell n a b; ⟨c, v, x, IsCell.keeps y (k2 n c x)⟩, fun i n v a b d => (R.read i n v a b d).mono k1 fun c e => k2 n c e⟩
theorem Rep.back (R : Rep c B env own sl m H s) (R' : Hp c (baseOf s.heap H) H' s') : Rep c B env own sl m H' s' := by
  have kp : ∀ a o, H a = none → s.heap.get? a = some o → s'.heap.get? a = some o ∧ H' a = none := fun a o e h => by
    have hb : baseOf s.heap H a = some o := by unfold baseOf; rw [e]; exact h
    refine ⟨R'.keep _ _ hb, ?_⟩
    cases q : H' a with
    | none => rfl
    | some x => have := R'.apart _ _ q; rw [hb] at this; cases this
  obtain ⟨oL, hL⟩ := R.fm.alive
  have kL := kp _ _ R.fm.locH hL
  refine ⟨R.hp.back R', R.fm.keep (kL.1.trans hL.symm) (fun n c e => ?_) kL.2 fun n c e => ?_⟩
  · obtain ⟨o, h⟩ := R.fm.celA n c e
    exact (kp _ _ (R.fm.celH n c e) h).1.trans h.symm
  · obtain ⟨o, h⟩ := R.fm.celA n c e
    exact (kp _ _ (R.fm.celH n c e) h).2
theorem Rep.tok (R : Rep c B env own sl m H s) {t : Nat} : Rep c B env own sl m H { s with toks := t } := R.back R.hp.whole.tok
end
noncomputable abbrev PH (c : Cx) (B : Bs) (Q : V → AH → Prop) (v : Value) (s' : Shared) : Prop := ∃ H', Hp c B H' s' ∧ Q (av v) H'
noncomputable abbrev PE (c : Cx) (B : Bs) (env : Env) (own : List Str) (sl : Sl) (m : List V) (Q : V → AH → Prop) (v : Value) (s' : Shared) : Prop := ∃ H', Rep c B env own sl m H' s' ∧ Q (av v) H'
theorem lift {c : Cx} {B : Bs} {env : Env} {own : List Str} {sl : Sl} {m : List V} {H : AH} {s : Shared} {M : Model} {A : Around} {t : Sem Value} {Q : V → AH → Prop} {E : Value → Shared → Prop}
    (R : Rep c B env own sl m H s) (h : Hp c (baseOf s.heap H) H s → wpAny M A t (PH c (baseOf s.heap H) Q) E s) : wpAny M A t (PE c B env own sl m Q) E s :=
  wpAny_mono (h R.hp.whole) (fun v s' ⟨H', a, b⟩ => ⟨H', R.back a, b⟩) fun _ _ x => x
end Mine
end
section
open PySem PySem.W PyProof.Rows
namespace Mine
theorem sz_line : sz ≤ sizeLine := by decide
theorem sz_line' {n : Nat} (h : n ≤ sz) : n ≤ sizeLine := Nat.le_trans h sz_line
theorem sz63 {n : Nat} (h : n ≤ sz) : (n : Int) < 2 ^ 63 := by unfold sz at h; lia
theorem av_s {o : Option Nat} {w : V} {P : Prop} (h : o.elim .un .str = w) (h1 : w ≠ .un) (h2 : ∀ k, w ≠ .str k) : P := by
  cases o with
  | none => exact absurd h.symm h1
  | some k => exact absurd h.symm (h2 k)
theorem av_int {v : Value} {i : Int} (h : av v = .int i) : ∃ t, v = .int i t := by
  cases v <;> first | (cases h; exact ⟨_, rfl⟩) | cases h | exact av_s h nofun nofun
theorem av_bool {v : Value} {b : Bool} (h : av v = .bool b) : v = .bool b := by
  cases v <;> first | (cases h; rfl) | cases h | exact av_s h nofun nofun
theorem av_none {v : Value} (h : av v = .none) : v = .none := by
  cases v <;> first | rfl | cases h | exact av_s h nofun nofun
theorem av_ref {v : Value} {a : Addr} (h : av v = .ref a) : v = .ref a := by
  cases v <;> first | (cases h; rfl) | cases h | exact av_s h nofun nofun
theorem av_str {v : Value} {k : Nat} (h : av v = .str k) : Ex2 fun x t => v = .str x t ∧ nmOf x = some k := by
  cases v <;> first | cases h | skip
  rename_i x t
  cases q : nmOf x with
  | none => rw [show av (.str x t) = (nmOf x).elim .un .str from rfl, q] at h; cases h
  | some j => rw [show av (.str x t) = (nmOf x).elim .un .str from rfl, q] at h; cases h; exact ⟨_, _, rfl, q⟩
theorem map_av {xs : Array Value} {l : List V} (h : xs.toList.map av = l) : xs.size = l.length := by
  rw [← h, List.length_map, Array.length_toList]
theorem map_av_get {xs : Array Value} {l : List V} (h : xs.toList.map av = l) {i : Nat} {v : V} (e : l[i]? = some v) : ∃ x, xs[i]? = some x ∧ av x = v := by
  subst h
  rw [List.getElem?_map] at e
  obtain ⟨x, a, b⟩ := Option.map_eq_some_iff.mp e
  exact ⟨x, by rw [← Array.getElem?_toList]; exact a, b⟩
section
variable {c : Cx} {B : Bs} {H : AH} {s : Shared} {A : Around} {E : Value → Shared → Prop} {Q : V → AH → Prop}
theorem plainL {h : Heap} {a : Addr} {xs : Array Value} (x : h.PlainList a xs) : h.IsList a xs := let ⟨n, e⟩ := x; ⟨_, e, rfl, n, rfl⟩
theorem tupI {h : Heap} {a : Addr} {xs : Array Value} {n : Nat} (e : h.get? a = some (seqObj "tuple" xs n)) : IsTup h a xs := ⟨_, e, rfl, n, rfl⟩
theorem freshA (s : Shared) : s.heap.get? s.heap.objs.size = none := by
  cases e : s.heap.get? s.heap.objs.size with
  | none => rfl
  | some o => exact absurd (Heap.lt_size e) (Nat.lt_irrefl _)
theorem Hp.push (R : Hp c B H s) {o : Obj} {x : O} {t : Nat} (hx : Real c.prog c.w c.C (s.heap.push o) s.heap.objs.size x)
    (h : ∀ a, H a = none → Q (.ref a) (H.set a x)) : PH c B Q (.ref s.heap.objs.size) { s with heap := s.heap.push o, toks := t } :=
  ⟨_, R.add (fun b o' e => Heap.get?_push_of_some _ e) (freshA s) hx, h _ (R.fresh (freshA s))⟩
theorem o_newList {vs : List Value} (R : Hp c B H s) (hl : vs.length ≤ sz) (h : ∀ a, H a = none → Q (.ref a) (H.set a (.lst (vs.map av)))) :
    wpAny (model c.prog c.w) A (newList vs) (PH c B Q) E s :=
  wpAny_newList (R.push (x := .lst (vs.map av)) (t := s.toks) ⟨vs.toArray, ⟨0, Heap.get?_push_size _ rfl⟩, by simp, by rw [List.length_map]; exact hl⟩ h) (sz_line' hl)
theorem o_newTuple {vs : List Value} (R : Hp c B H s) (hl : vs.length ≤ sz) (h : ∀ a, H a = none → Q (.ref a) (H.set a (.tup (vs.map av)))) :
    wpAny (model c.prog c.w) A (newTuple vs) (PH c B Q) E s :=
  wpAny_newTuple (R.push (x := .tup (vs.map av)) (t := s.toks) ⟨vs.toArray, 0, Heap.get?_push_size _ rfl, by simp, by rw [List.length_map]; exact hl⟩ h) (sz_line' hl)
theorem idx_some {l : List V} {n : Int} {v : V} (hl : l.length ≤ sz) (h : idx l n = some v) :
    (0 ≤ n ∧ n < 2 ^ 63 ∧ l[n.toNat]? = some v) ∨ (n < 0 ∧ -(l.length : Int) ≤ n ∧ -(2 ^ 63) ≤ n ∧ l[(n + l.length).toNat]? = some v) := by
  unfold idx at h
  have := sz63 hl
  split at h
  · rename_i h0
    refine .inl ⟨h0, ?_, h⟩
    obtain ⟨hh, _⟩ := List.getElem?_eq_some_iff.mp h
    lia
  · rename_i h0
    split at h
    · exact .inr ⟨by lia, by lia, by lia, h⟩
    · cases h
theorem map_pairs_find {K : Type} [DecidableEq K] (kvs : List (K × Value)) (k : K) : get (kvs.map fun e => (e.1, av e.2)) k = (valueAt kvs k).map av := by
  unfold get valueAt
  induction kvs with
  | nil => rfl
  | cons e r ih =>
    simp only [List.map_cons, List.find?_cons]
    by_cases q : e.1 = k
    · simp [q]
    · simp only [q, decide_false]; exact ih
theorem nmOf_inj {x y : Str} {k : Nat} (h : nmOf x = some k) (h' : nmOf y = some k) : x = y := by
  unfold nmOf List.idxOf? at h h'
  rw [List.findIdx?_eq_some_iff_getElem] at h h'
  obtain ⟨a, b, _⟩ := h
  obtain ⟨a', b', _⟩ := h'
  rw [← beq_iff_eq.mp b, ← beq_iff_eq.mp b']
theorem att_get {kvs : List (Str × Value)} {es : List (Nat × V)} (h : kvs.map (fun e => (nmOf e.1, av e.2)) = es.map (fun e => (some e.1, e.2))) {x : Str} {k : Nat} (hx : nmOf x = some k) :
    get es k = (valueAt kvs x).map av := by
  unfold get valueAt
  induction kvs generalizing es with
  | nil => cases es with
    | nil => rfl
    | cons _ _ => cases h
  | cons e r ih => cases es with
    | nil => cases h
    | cons f r' =>
      simp only [List.map_cons, List.cons.injEq, Prod.mk.injEq] at h
      obtain ⟨⟨h1, h2⟩, h3⟩ := h
      simp only [List.find?_cons]
      by_cases q : e.1 = x
      · have : f.1 = k := by rw [q, hx] at h1; exact (Option.some.inj h1).symm
        simp [q, this, h2]
      · have : f.1 ≠ k := fun z => q (nmOf_inj (h1.trans (congrArg some z)) hx)
        simp only [q, this, decide_false]
        exact ih h3
theorem o_getItem {v k : Value} {x : V} (R : Hp c B H s) (h : subV H (av v) (av k) = some x) (q : Q x H) :
    wpAny (model c.prog c.w) A (getItem v k) (PH c B Q) E s := by
  obtain ⟨a, hv, h2⟩ := bb_eq h
  obtain ⟨o, e, h3⟩ := bb_eq h2
  clear h h2
  obtain rfl := av_ref (V.r_eq hv)
  clear hv
  cases o with
    | lst l =>
      obtain ⟨n, hk, h⟩ := bb_eq h3
      clear h3
      obtain ⟨t, rfl⟩ := av_int (V.i_eq hk)
      obtain ⟨xs, p, e1, e2⟩ := R.see e
      rcases idx_some e2 h with ⟨a1, a2, a3⟩ | ⟨a1, a2, a3, a4⟩
      · obtain ⟨y, b1, b2⟩ := map_av_get e1 a3
        exact wpAny_getItem_list (plainL p) a1 a2 b1 ⟨H, R, by rw [b2]; exact q⟩
      · obtain ⟨y, b1, b2⟩ := map_av_get e1 a4
        have := map_av e1
        exact wpAny_getItem_list_neg (plainL p) a1 (by rw [this]; exact a2) a3 (by rw [this]; exact b1) ⟨H, R, by rw [b2]; exact q⟩
    | tup l =>
      obtain ⟨n, hk, h⟩ := bb_eq h3
      clear h3
      obtain ⟨t, rfl⟩ := av_int (V.i_eq hk)
      obtain ⟨xs, np, p, e1, e2⟩ := R.see e
      have sz' := map_av e1
      rcases idx_some e2 h with ⟨a1, a2, a3⟩ | ⟨a1, a2, a3, a4⟩
      · obtain ⟨y, b1, b2⟩ := map_av_get e1 a3
        obtain ⟨hh, _⟩ := List.getElem?_eq_some_iff.mp a3
        refine getItem_tuple (j := n.toNat) (tupI p) (by lia) a2 ?_ b1 ⟨H, R, by rw [b2]; exact q⟩
        rw [sz']; unfold seqIndex?; simp; lia
      · obtain ⟨y, b1, b2⟩ := map_av_get e1 a4
        exact getItem_tuple (tupI p) a3 (by lia) (by rw [sz']; exact seqIndex_neg a1 (by lia)) b1 ⟨H, R, by rw [b2]; exact q⟩
    | dct es =>
      obtain ⟨n, hk, h⟩ := bb_eq h3
      clear h3
      obtain ⟨t, rfl⟩ := av_int (V.i_eq hk)
      obtain ⟨kvs, p, e1, e2⟩ := R.see e
      rw [← e1, map_pairs_find] at h
      obtain ⟨y, b1, b2⟩ := Option.map_eq_some_iff.mp h
      exact wpAny_getItem_of (intKind_is _ _ _ _) p.mapOf b1 ⟨H, R.tok, by rw [b2]; exact q⟩
    | att es =>
      refine nn fun hC => ?_
      obtain ⟨n, hk, h⟩ := bb_eq h3
      clear h3
      obtain ⟨x, t, rfl, hx⟩ := av_str (V.s_eq hk)
      obtain ⟨kvs, p, e1, e2⟩ := R.see e
      refine hC ?_
      rw [att_get e1 hx] at h
      obtain ⟨y, b1, b2⟩ := Option.map_eq_some_iff.mp h
      exact wpAny_getItem_of (strKind_is _ _ _ _) p.mapOf b1 ⟨H, R.tok, by rw [b2]; exact q⟩
    | _ => exact nsm h3
end
end Mine
end
section
open PySem PySem.W PyProof.Rows
namespace Mine
theorem map_stored {K : Type} [DecidableEq K] (kvs : List (K × Value)) (k : K) (v : Value) :
    (stored kvs k v).map (fun e => (e.1, av e.2)) = put (kvs.map fun e => (e.1, av e.2)) k (av v) := by
  unfold stored put
  have e : ((kvs.map fun e => (e.1, av e.2)).any fun e => decide (e.1 = k)) = kvs.any fun e => decide (e.1 = k) := by
    rw [List.any_map]; rfl
  rw [e]
  split
  · rw [List.map_map, List.map_map]
    refine List.map_congr_left fun x _ => ?_
    simp only [Function.comp]
    split <;> rfl
  · rw [List.map_append]; rfl
theorem map_without {K : Type} [DecidableEq K] (kvs : List (K × Value)) (k : K) :
    (without kvs k).map (fun e => (e.1, av e.2)) = rem (kvs.map fun e => (e.1, av e.2)) k := by
  unfold without rem
  rw [List.filter_map]; rfl
theorem map_merged (kvs more : List (Int × Value)) :
    (merged kvs more).map (fun e => (e.1, av e.2)) = putAll (kvs.map fun e => (e.1, av e.2)) (more.map fun e => (e.1, av e.2)) := by
  unfold merged
  induction more generalizing kvs with
  | nil => rfl
  | cons e r ih => rw [List.foldl_cons, ih, map_stored]; rfl
theorem put_length {K : Type} [DecidableEq K] (es : List (K × V)) (k : K) (v : V) : (put es k v).length ≤ es.length + 1 := by
  unfold put; split <;> simp
theorem rem_length {K : Type} [DecidableEq K] (es : List (K × V)) (k : K) : (rem es k).length ≤ es.length := List.length_filter_le ..
theorem putAll_length (es fs : List (Int × V)) : (putAll es fs).length ≤ es.length + fs.length := by
  induction fs generalizing es with
  | nil => simp [putAll]
  | cons e r ih =>
    have := ih (put es e.1 e.2)
    have := put_length es e.1 e.2
    simp only [putAll, List.length_cons]; lia
theorem att_put {kvs : List (Str × Value)} {es : List (Nat × V)} (h : kvs.map (fun e => (nmOf e.1, av e.2)) = es.map (fun e => (some e.1, e.2))) {x : Str} {k : Nat} (hx : nmOf x = some k) (v : Value) :
    (stored kvs x v).map (fun e => (nmOf e.1, av e.2)) = (put es k (av v)).map (fun e => (some e.1, e.2)) := by
  have key : ∀ (kvs : List (Str × Value)) (es : List (Nat × V)), kvs.map (fun e => (nmOf e.1, av e.2)) = es.map (fun e => (some e.1, e.2)) →
      (kvs.any (fun e => decide (e.1 = x)) = es.any (fun e => decide (e.1 = k))) ∧
      (kvs.map (fun e => if e.1 = x then (e.1, v) else e)).map (fun e => (nmOf e.1, av e.2)) = (es.map fun e => if e.1 = k then (e.1, av v) else e).map (fun e => (some e.1, e.2)) := by
    intro kvs
    induction kvs with
    | nil => intro es h; cases es with
      | nil => exact ⟨rfl, rfl⟩
      | cons _ _ => cases h
    | cons e r ih => intro es h; cases es with
      | nil => cases h
      | cons f r' =>
        simp only [List.map_cons, List.cons.injEq, Prod.mk.injEq] at h
        refine nn fun hC => ?_
        obtain ⟨⟨h1, h2⟩, h3⟩ := h
        obtain ⟨i1, i2⟩ := ih r' h3
        refine hC ?_
        simp only [List.any_cons, List.map_cons, i1]
        by_cases q : e.1 = x
        · have : f.1 = k := by rw [q, hx] at h1; exact (Option.some.inj h1).symm
          refine ⟨by simp [q, this], ?_⟩
          rw [if_pos q, if_pos this, i2]; simp [h1]
        · have : f.1 ≠ k := fun z => q (nmOf_inj (h1.trans (congrArg some z)) hx)
          refine ⟨by simp [q, this], ?_⟩
          rw [if_neg q, if_neg this, i2]; simp [h1, h2]
  obtain ⟨i1, i2⟩ := key kvs es h
  unfold stored put
  by_cases q : (kvs.any fun e => decide (e.1 = x)) = true
  · rw [if_pos q, if_pos (i1 ▸ q)]; exact i2
  · rw [if_neg q, if_neg (i1 ▸ q), List.map_append, List.map_append, h]; simp [hx]
section
variable {c : Cx} {B : Bs} {H : AH} {s : Shared} {A : Around} {E : Value → Shared → Prop} {Q : V → AH → Prop}
theorem dct_len {a : Addr} {kvs : List (Int × Value)} {es : List (Int × V)} (h : kvs.map (fun e => (e.1, av e.2)) = es) : kvs.length = es.length := by rw [← h, List.length_map]
theorem att_len {kvs : List (Str × Value)} {es : List (Nat × V)} (h : kvs.map (fun e => (nmOf e.1, av e.2)) = es.map (fun e => (some e.1, e.2))) : kvs.length = es.length := by
  have := congrArg List.length h; simpa using this
theorem plain_mapSeq {h : Heap} {a : Addr} {xs : Array Value} {n : Nat} (p : h.get? a = some { cls := .type "list", data := .seq xs n }) (f : Array Value → Array Value) :
    (h.update a (Obj.mapSeq f)).PlainList a (f xs) :=
  ⟨if (f xs).size == xs.size then n else n + 1, Heap.get?_update_self (Obj.mapSeq f) p rfl⟩
theorem setItem_plain {l : Addr} {items : Array Value} {k : Int} {t : Tok} {v : Value} {Q : Unit → Shared → Prop} (hl : s.heap.PlainList l items)
    (h0 : 0 ≤ k) (hfit : k < 2 ^ 63) (hn : k < items.size)
    (hQ : ∀ h', h'.PlainList l (items.setIfInBounds k.toNat v) → Heap.SameBut l s.heap h' → Q () { s with heap := h' }) :
    wpAny (model c.prog c.w) A (setItem (.ref l) (.int k t) v) Q E s := by
  have hl' := plainL hl
  obtain ⟨ne, ho⟩ := id hl
  unfold setItem
  try with_reducible refine wpAny_holding ?_
  first | refine wpAny_bind (wpAny_pure ?_) | skip
  refine wpAny_bind (wpAny_sequenceKey hl'.typeIs (by decide) ?_)
  refine wpAny_bind (wpAny_callSpecial?_slot (name := Str.ofString "__setitem__") hl'.typeIs slot_list_setitem
    (wpAny_call_entry slot_list_setitem hl'.typeIs entry_list_setitem ?_ (args_list_setitem _ _ _)))
  show wpAny _ _ (Builtin.List.listSubscript? (.int k t) >>= _) _ _ s
  refine wpAny_bind (wpAny_listSubscript_int (fitsIndex_of h0 hfit) ?_)
  clear hfit
  obtain ⟨j, rfl⟩ := Int.eq_ofNat_of_zero_le h0
  have hj : j < items.size := by lia
  have hx' : items[j]? = some items[j] := Array.getElem?_eq_getElem hj
  show wpAny _ _ ((seqItemAt l j >>= fun r => pure (r.map (j, ·))) >>= _) _ _ s
  refine wpAny_bind (wpAny_bind (wpAny_seqItemAt ho rfl (wpAny_pure ?_)))
  rw [hx']
  show wpAny _ _ (setSeqItemAt l j v >>= _) _ _ s
  have hfin : (s.heap.update l (Obj.mapSeq (·.setIfInBounds j v))).PlainList l (items.setIfInBounds j v) :=
    plain_mapSeq ho _
  refine wpAny_bind (wpAny_setSeqItemAt ho rfl ?_)
  first
    | exact wpAny_bind (wpAny_pure (wpAny_pure ⟨.none, rfl, wpAny_pure (hQ _ hfin (Heap.SameBut.update ..))⟩))
    | exact wpAny_pure ⟨.none, rfl, wpAny_pure (hQ _ hfin (Heap.SameBut.update ..))⟩
theorem o_setItem {v k x : Value} {P : AH → Prop} (R : Hp c B H s) (h : setIW H (av v) (av k) (av x) P) :
    wpAny (model c.prog c.w) A (setItem v k x) (fun _ s' => ∃ H', Hp c B H' s' ∧ P H') E s := by
  obtain ⟨a, h1, h⟩ := ifS_eq h
  obtain ⟨o, e, h⟩ := ifS_eq h
  rw [av_ref (V.r_eq h1)]
  clear h1
  cases o with
  | lst l =>
    obtain ⟨n, hk, h⟩ := ifS_eq h
    obtain ⟨i, q, h⟩ := ifS_eq h
    obtain ⟨t, rfl⟩ := av_int (V.i_eq hk)
    obtain ⟨xs, p, e1, e2⟩ := R.real _ _ e
    have hsz := map_av e1
    obtain ⟨q', rfl⟩ := gdP_eq q
    have := sz63 e2
    refine setItem_plain p q'.1 (by lia) (by lia) fun h' p' hs => ⟨_, R.upd (t := s.toks) e hs ?_, h⟩
    exact ⟨_, p', by rw [Array.toList_setIfInBounds, List.map_set, e1], by simpa using e2⟩
  | dct es =>
    obtain ⟨n, hk, h⟩ := ifS_eq h
    obtain ⟨t, rfl⟩ := av_int (V.i_eq hk)
    obtain ⟨kvs, p, e1, e2⟩ := R.real _ _ e
    have hl := dct_len (a := a) e1
    refine wpAny_setItem_pairs (intKind_is _ _ _ _) p (fun h' p' hs => ⟨_, R.upd e hs ?_, h.2⟩) (sz_line' (by lia))
    have := put_length es n (av x)
    exact ⟨_, p', by rw [map_stored, e1], by lia⟩
  | att es =>
    obtain ⟨n, hk, hh⟩ := ifS_eq h
    clear h
    obtain ⟨y, t, rfl, hy⟩ := av_str (V.s_eq hk)
    obtain ⟨kvs, p, e1, e2⟩ := R.real _ _ e
    have hl := att_len e1
    refine wpAny_setItem_pairs (strKind_is _ _ _ _) p (fun h' p' hs => ⟨_, R.upd e hs ?_, hh.2⟩) (sz_line' (by unfold sz; lia))
    have := put_length es n (av x)
    exact ⟨_, p', att_put e1 hy x, by lia⟩
  | _ => exact h.elim
theorem o_append {a : Addr} {v : Value} {l : List V} (R : Hp c B H s) (e : H a = some (.lst l)) (hl : l.length < sz) (q : Q .none (H.set a (.lst (l ++ [av v])))) :
    wpAny (model c.prog c.w) A (call (.builtin "list.append") [.ref a, v]) (PH c B Q) E s := by
  refine nn fun hC => ?_
  obtain ⟨xs, p, e1, e2⟩ := R.real _ _ e
  refine hC ?_
  have hsz := map_av e1
  refine wpAny_list_append_plain p (fun h' p' hs => ⟨_, R.upd (t := s.toks) e hs ?_, q⟩) (sz_line' (by lia))
  exact ⟨_, p', by rw [Array.toList_push, List.map_append, e1]; rfl, by simp; lia⟩
theorem o_pop {a : Addr} {l : List V} {v : V} (R : Hp c B H s) (e : H a = some (.lst l)) (hv : l.getLast? = some v) (q : Q v (H.set a (.lst l.dropLast))) :
    wpAny (model c.prog c.w) A (call (.builtin "list.pop") [.ref a]) (PH c B Q) E s := by
  obtain ⟨xs, ⟨n, p⟩, e1, e2⟩ := R.real _ _ e
  have hsz := map_av e1
  rw [List.getLast?_eq_getElem?] at hv
  obtain ⟨y, b1, b2⟩ := map_av_get e1 hv
  rw [← hsz] at b1
  refine call_meetsIn PySem.F.slot_list_pop ⟨_, p, rfl⟩ PySem.F.entry_list_pop (PySem.F.args_list_pop_1 _) ((PySem.MeetsSeq.list_pop_last a xs n y b1 (sz_line' (by lia))).inModel _ _) ⟨p, ?_⟩
  refine ⟨_, R.upd (t := s.toks) e (Heap.SameBut.update ..) ?_, by rw [b2]; exact q⟩
  refine ⟨xs.eraseIdxIfInBounds (xs.size - 1), plain_mapSeq p _, ?_, by rw [List.length_dropLast]; lia⟩
  · rw [← e1]
    obtain ⟨zs⟩ := xs
    simp only [List.eraseIdxIfInBounds_toArray, List.size_toArray]
    rw [List.eraseIdx_length_sub_one, List.map_dropLast]
theorem o_extend {a b : Addr} {l r : List V} (R : Hp c B H s) (e : H a = some (.lst l)) (e' : H.see b = some (.lst r)) (hab : a ≠ b) (hl : l.length + r.length ≤ sz)
    (q : Q .none (H.set a (.lst (l ++ r)))) : wpAny (model c.prog c.w) A (call (.builtin "list.extend") [.ref a, .ref b]) (PH c B Q) E s := by
  refine nn fun hC => ?_
  obtain ⟨xs, ⟨n, p⟩, e1, e2⟩ := R.real _ _ e
  obtain ⟨ys, ⟨n', p'⟩, e1', e2'⟩ := R.see e'
  refine hC ?_
  have hsz := map_av e1
  have hsz' := map_av e1'
  refine wpAny_call (codeAny_call_builtin PySem.F.slot_list_extend.plain PySem.F.entry_list_extend (PySem.F.slot_list_extend.check _ _ _ _ _ _ _ _ ⟨_, p, rfl⟩ (PySem.F.args_list_extend_2 _ _) ?_))
  show wpAny _ A.in1 (Builtin.List.listExtendWith (.ref a) (.ref b) .none) _ _ s
  unfold Builtin.List.listExtendWith
  refine wpAny_bind (wpAny_typeOf ⟨_, p', rfl⟩ ?_)
  simp only [beq_self_eq_true, Bool.or_true, Bool.true_or, if_true]
  refine wpAny_bind ?_
  unfold Builtin.List.listItems
  refine wpAny_bind (wpAny_seqItems p' rfl (wpAny_pure ?_))
  refine wpAny_bind ?_
  refine wpAny_bind (wpAny_seqItems p rfl (wpAny_pure ?_))
  have hlong : Builtin.List.listTooLong (xs.size + ys.size) = false := by
    unfold Builtin.List.listTooLong
    simp only [decide_eq_false_iff_not, gt_iff_lt, Nat.not_lt]
    have := @sz_line' (xs.size + ys.size) (by lia)
    lia
  show wpAny _ A.in1 (if (!xs.isEmpty && Builtin.List.listTooLong (xs.size + ys.size)) = true then _ else _) _ _ s
  rw [hlong, Bool.and_false, if_neg Bool.false_ne_true]
  have hz : (xs ++ ys).size ≤ sizeLine + 1 := by rw [Array.size_append]; have := @sz_line' (xs.size + ys.size) (by lia); lia
  show wpAny _ A.in1 (updateSeq a (· ++ ys) >>= fun _ => ret .none) _ _ s
  refine wpAny_bind (wpAny_updateSeq p rfl (wpAny_pure ?_) (hz := sz_line' (by lia)) (_hz' := hz))
  refine ⟨_, R.upd (t := s.toks) e (Heap.SameBut.update ..) ?_, q⟩
  exact ⟨xs ++ ys, plain_mapSeq p _, by rw [Array.toList_append, List.map_append, e1, e1'], by rw [List.length_append]; exact hl⟩
end
end Mine
end
section
open PySem PySem.W PyProof.Rows
set_option tactic.hygienic false
namespace Mine
section
variable {c : Cx} {B : Bs} {H : AH} {s : Shared} {A : Around} {E : Value → Shared → Prop} {Q : V → AH → Prop}
structure Gd (c : Cx) : Prop where
  kin : c.K.In c.h₀
  nolimit : c.h₀.NoLimit
  mods : ∃ o, c.h₀.get? sysModules = some o
  mg : ∃ mg, c.h₀.Ns mainGlobals mg
  mb : ∃ mb, c.h₀.Ns builtinsNs mb ∧ ∀ x : Str, x ≠ "__name__" → mb x = bootBuiltins x
theorem Hp.h0 (R : Hp c B H s) : ∀ b o, c.h₀.get? b = some o → s.heap.get? b = some o := fun b o e => R.keep _ _ (R.base _ _ e)
theorem Hp.noMods (G : Gd c) (R : Hp c B H s) {a : Addr} {x : O} (h : H.see a = some x) : (a == sysModules) = false := by
  obtain ⟨o, ho⟩ := G.mods
  exact beq_eq_false_iff_ne.mpr (R.base_ne h ho)
theorem see_of {a : Addr} {es : List (Int × V)} (e : H a = some (.dct es)) : H.see a = some (.dct es) := congrArg (Option.map O.un) e
theorem o_dget1 (G : Gd c) {a : Addr} {k : Int} {t : Tok} {es : List (Int × V)} (R : Hp c B H s) (e : H.see a = some (.dct es)) (q : Q ((get es k).getD .none) H) :
    wpAny (model c.prog c.w) A (call (.builtin "dict.get") [.ref a, .int k t]) (PH c B Q) E s := by
  refine nn fun hC => ?_
  obtain ⟨kvs, p, e1, e2⟩ := R.see e
  refine hC ?_
  refine call_meetsIn PySem.F.slot_dict_get p.typeIs PySem.F.entry_dict_get (PySem.F.args_dict_get_2 _ _) (meets_dict_get (intKind _ _) a (intKind_is _ _ _ _) (R.noMods G e)) ⟨_, p.mapOf, ?_⟩
  refine ⟨H, R.tok, ?_⟩
  rw [← e1, map_pairs_find] at q
  cases hv : valueAt kvs k with
  | none => rw [hv] at q; exact q
  | some v => rw [hv] at q; exact q
theorem o_dget2 (G : Gd c) {a : Addr} {k : Int} {t : Tok} {d : Value} {es : List (Int × V)} (R : Hp c B H s) (e : H.see a = some (.dct es)) (q : Q ((get es k).getD (av d)) H) :
    wpAny (model c.prog c.w) A (call (.builtin "dict.get") [.ref a, .int k t, d]) (PH c B Q) E s := by
  obtain ⟨kvs, p, e1, e2⟩ := R.see e
  refine call_meetsIn PySem.F.slot_dict_get p.typeIs PySem.F.entry_dict_get (PySem.F.args_dict_get_3 _ _ _) (meets_dict_get_default (intKind _ _) a (intKind_is _ _ _ _) (R.noMods G e) d) ⟨_, p.mapOf, ?_⟩
  refine ⟨H, R.tok, ?_⟩
  rw [← e1, map_pairs_find] at q
  cases hv : valueAt kvs k with
  | none => rw [hv] at q; exact q
  | some v => rw [hv] at q; exact q
theorem o_dpop (G : Gd c) {a : Addr} {k : Int} {t : Tok} {rest : List Value} {es : List (Int × V)} {v : V} (R : Hp c B H s) (hr : rest = [] ∨ ∃ d, rest = [d]) (e : H a = some (.dct es)) (hv : get es k = some v)
    (q : Q v (H.set a (.dct (rem es k)))) : wpAny (model c.prog c.w) A (call (.builtin "dict.pop") (.ref a :: .int k t :: rest)) (PH c B Q) E s := by
  obtain ⟨kvs, p, e1, e2⟩ := R.real _ _ e
  have hl := dct_len (a := a) e1
  rw [← e1, map_pairs_find] at hv
  obtain ⟨y, b1, b2⟩ := Option.map_eq_some_iff.mp hv
  have args : argsOk "dict.pop" ⟨.ref a :: .int k t :: rest, []⟩ := by
    rcases hr with rfl | ⟨d, rfl⟩
    · exact PySem.F.args_dict_pop_2 _ _
    · exact PySem.F.args_dict_pop_3 _ _ _
  refine call_meetsIn PySem.F.slot_dict_pop p.typeIs PySem.F.entry_dict_pop args (meets_dict_pop_there (intKind _ _) a (intKind_is _ _ _ _) rest hr rfl)
    ⟨kvs, y, p, sz_line' (by lia), b1, fun h' p' hs => ⟨_, R.upd e hs ?_, by rw [b2]; exact q⟩⟩
  have := rem_length es k
  exact ⟨_, p', by rw [map_without, e1], by lia⟩
theorem o_dpop2_none (G : Gd c) {a : Addr} {k : Int} {t : Tok} {d : Value} {es : List (Int × V)} (R : Hp c B H s) (e : H a = some (.dct es)) (hv : get es k = none) (q : Q (av d) H) :
    wpAny (model c.prog c.w) A (call (.builtin "dict.pop") [.ref a, .int k t, d]) (PH c B Q) E s := by
  obtain ⟨kvs, p, e1, e2⟩ := R.real _ _ e
  have hl := dct_len (a := a) e1
  rw [← e1, map_pairs_find] at hv
  have hv' : valueAt kvs k = none := by cases q : valueAt kvs k with
    | none => rfl
    | some y => rw [q] at hv; cases hv
  refine wpAny_call (codeAny_call_builtin PySem.F.slot_dict_pop.plain PySem.F.entry_dict_pop (PySem.F.slot_dict_pop.check _ _ _ _ _ _ _ _ p.typeIs (PySem.F.args_dict_pop_3 _ _ _) ?_))
  unfold Builtin.«dict.pop»
  refine wpAny_bind ?_
  unfold Builtin.Dict.keyAndDefault
  refine wpAny_bind (wpAny_notOrdered_dict p.typeIs ?_)
  show wpAny _ _ (pure (a, Value.int k t, some d)) _ _ s
  refine wpAny_pure ?_
  have hpart : (keyPart (.int k t)).isSome = true := rfl
  simp only [hpart, if_true]
  refine wpAny_bind (wpAny_pure ?_)
  simp only [Bool.false_eq_true, if_false]
  refine wpAny_bind (wpAny_takeOut_pairs (hsz := sz_line' (by lia)) (intKind_is _ _ _ _) p (fun _ => ?_) fun e h1 h2 => by rw [hv'] at h2; cases h2)
  simp only [Option.isNone_none, if_true]
  exact wpAny_bind (wpAny_missedRemoval_other (R.noMods G (see_of e)) (wpAny_bind (wpAny_rule (wpAny_pure ⟨H, R.tok, q⟩))))
theorem dictSetDefault_pairs {K : Type} [DecidableEq K] {prog : Program} {w : World} {knd : KeyKind prog w K} {d : Addr} {kvs : List (K × Value)} {k : K} {key dflt : Value} {Q : Value → Shared → Prop} (hkey : knd.is k key = true) (hm : s.heap.DictOf knd d kvs)
    (hthere : ∀ v, valueAt kvs k = some v → Q v { s with toks := s.toks + 1 })
    (hnew : valueAt kvs k = none → ∀ h', h'.DictOf knd d (stored kvs k dflt) → Heap.SameBut d s.heap h' → Q dflt { s with heap := h', toks := s.toks + 1 })
    (hsz : kvs.length ≤ sizeLine) :
    wpAny (model prog w) A (dictSetDefault d key dflt) Q E s := by
  refine nn fun hC => ?_
  obtain ⟨o, es, ep, ho, hc, hd, hk, hp, hn⟩ := id hm
  refine hC ?_
  have hes : es.size ≤ sizeLine := by have e1 := hp.length; have e2 : es.toList.length = es.size := by simp
                                      lia
  have hf : ∀ x, findBy knd.is es x = valueAt kvs x := fun x => by
    rw [← hp.find x]; unfold findBy; rw [← Array.find?_toList]
  have hidx : (es.findIdx? fun e => knd.is k e.key) = kvs.findIdx? fun kv => decide (kv.1 = k) := by
    rw [← hp.findIdx k]; obtain ⟨l⟩ := es; simp
  unfold dictSetDefault
  try with_reducible refine wpAny_holding ?_
  refine wpAny_bind (knd.pyHash hkey ?_)
  refine wpAny_bind (wpAny_dictFind_of (s := { s with toks := s.toks + 1 }) hkey ho hd hk ?_)
  cases hi : es.findIdx? fun e => knd.is k e.key with
  | some i =>
    have hfk : valueAt kvs k = (es[i]?).map (·.val) := by rw [← hf k, findBy_of_findIdx?, hi]
    refine wpAny_bind (wpAny_dictEntries (s := { s with toks := s.toks + 1 }) ho hd ?_)
    cases he : es[i]? with
    | none =>
      exfalso
      have := Array.findIdx?_eq_some_iff_findIdx_eq.mp hi
      have hlt : i < es.size := this.1
      rw [Array.getElem?_eq_getElem hlt] at he
      exact nomatch he
    | some e =>
      rw [he] at hfk
      exact wpAny_bind (wpAny_rule (wpAny_pure (hthere e.val hfk)))
  | none =>
    have hfk : valueAt kvs k = none := by rw [← hf k, findBy_of_findIdx?, hi]
    have hnot : k ∉ kvs.map (·.1) := not_mem_of_findIdx_none (hidx ▸ hi)
    have hany : ¬ (kvs.any fun kv => decide (kv.1 = k)) = true := by
      rw [List.any_eq_true]; rintro ⟨kv, hkv, he⟩
      exact hnot (List.mem_map.mpr ⟨kv, hkv, of_decide_eq_true he⟩)
    refine wpAny_bind (wpAny_rule (wpAny_bind (wpAny_updateDictKeys (hz := hes) (s := { s with toks := s.toks + 1 }) ho hd (wpAny_pure (hnew hfk _ ⟨_, _, ep + 1, Heap.get?_update_self _ ho (Obj.isFreed_of_dict (Obj.data_mapDictKeys hd _)),
      hc.mapDictKeys _, Obj.data_mapDictKeys hd _, hk.push hkey _, ?_, ?_⟩ (Heap.SameBut.update ..))))))
    · rw [stored, if_neg hany]
      have := hp.append hkey (knd.hash k) dflt
      obtain ⟨l⟩ := es
      simpa using this
    · rw [stored, if_neg hany, List.map_append, List.nodup_append]
      refine ⟨hn, by simp, ?_⟩
      intro a ha b hb
      simp only [List.map_cons, List.map_nil, List.mem_singleton] at hb
      subst hb
      exact fun e => hnot (e ▸ ha)
theorem o_setdef (G : Gd c) {a : Addr} {k : Int} {t : Tok} {d : Value} {es : List (Int × V)} (R : Hp c B H s) (e : H a = some (.dct es))
    (q : match get es k with | some v => Q v H | none => es.length < sz ∧ Q (av d) (H.set a (.dct (put es k (av d))))) :
    wpAny (model c.prog c.w) A (call (.builtin "dict.setdefault") [.ref a, .int k t, d]) (PH c B Q) E s := by
  refine nn fun hC => ?_
  obtain ⟨kvs, p, e1, e2⟩ := R.real _ _ e
  refine hC ?_
  have hl := dct_len (a := a) e1
  have hg : get es k = (valueAt kvs k).map av := by rw [← e1, map_pairs_find]
  refine wpAny_call (codeAny_call_builtin PySem.F.slot_dict_setdefault.plain PySem.F.entry_dict_setdefault (PySem.F.slot_dict_setdefault.check _ _ _ _ _ _ _ _ p.typeIs (PySem.F.args_dict_setdefault_3 _ _ _) ?_))
  unfold Builtin.«dict.setdefault»
  refine wpAny_bind ?_
  unfold Builtin.Dict.keyAndDefault
  refine wpAny_bind (wpAny_notOrdered_dict p.typeIs ?_)
  show wpAny _ _ (pure (a, Value.int k t, some d)) _ _ s
  refine wpAny_pure ?_
  show wpAny _ _ (if (a == sysModules) = true then _ else (dictSetDefault a (.int k t) d >>= _)) _ _ s
  rw [if_neg (by rw [R.noMods G (see_of e)]; exact Bool.false_ne_true)]
  refine wpAny_bind (dictSetDefault_pairs (intKind_is _ _ _ _) p (fun v hv => wpAny_pure ?_) (fun hn h' p' hs => wpAny_pure ?_) (sz_line' (by lia)))
  · rw [hg, hv] at q; exact ⟨H, R.tok, q⟩
  · rw [hg, hn] at q
    obtain ⟨q1, q2⟩ := q
    refine ⟨_, R.upd e hs ?_, q2⟩
    have := put_length es k (av d)
    exact ⟨_, p', by rw [map_stored, e1], by lia⟩
theorem o_update (G : Gd c) {a b : Addr} {es fs : List (Int × V)} (R : Hp c B H s) (e : H a = some (.dct es)) (e' : H.see b = some (.dct fs)) (hab : a ≠ b) (hl : es.length + fs.length ≤ sz)
    (q : Q .none (H.set a (.dct (putAll es fs)))) : wpAny (model c.prog c.w) A (call (.builtin "dict.update") [.ref a, .ref b]) (PH c B Q) E s := by
  refine nn fun hC => ?_
  obtain ⟨kvs, p, e1, e2⟩ := R.real _ _ e
  obtain ⟨more, p', e1', e2'⟩ := R.see e'
  refine hC ?_
  have l1 := dct_len (a := a) e1
  have l2 := dct_len (a := a) e1'
  refine call_meetsIn PySem.F.slot_dict_update p.typeIs PySem.F.entry_dict_update (PySem.F.args_dict_update_2 _ _) (meets_dict_update (intKind _ _) a b hab (R.noMods G e'))
    ⟨kvs, more, p, p', sz_line' (by lia), fun h' p'' _ hs => ⟨_, R.upd (t := s.toks) e hs ?_, q⟩⟩
  have := putAll_length es fs
  exact ⟨_, p'', by rw [map_merged, e1, e1'], by lia⟩
end
end Mine
end
section
open PySem PySem.W PyProof.Rows
namespace Mine
theorem allSome_map {α β : Type} {f : α → Option β} : ∀ {l : List α} {r : List β}, allSome (l.map f) = some r → r.length = l.length ∧ ∀ (i : Nat) (x : α), l[i]? = some x → ∃ y, f x = some y ∧ r[i]? = some y
  | [], r, h => by cases h; exact ⟨rfl, fun i x e => by simp at e⟩
  | a :: l, r, h => by
    simp only [List.map_cons] at h
    cases q : f a with
    | none => rw [q] at h; cases h
    | some y =>
      rw [q] at h
      obtain ⟨r', h', rfl⟩ := Option.map_eq_some_iff.mp h
      obtain ⟨h1, h2⟩ := allSome_map h'
      refine ⟨by simp [h1], fun i x e => ?_⟩
      cases i with
      | zero => simp at e; subst e; exact ⟨y, q, rfl⟩
      | succ i => simp at e; obtain ⟨z, a, b⟩ := h2 i x e; exact ⟨z, a, by simpa using b⟩
section
variable {c : Cx} {B : Bs} {H : AH} {s : Shared} {A : Around} {E : Value → Shared → Prop} {Q : V → AH → Prop}
noncomputable def RdOK (s : Shared) (n : Nat) (v : Value) (d : PyData) : Prop := An3 (∃ as, Reads s.heap v d as) (d.canLay0 = true) (d.depth ≤ n)
theorem lit_reads {n : Nat} {v : Value} {d : PyData} (h : litV (av v) = some d) : RdOK s n v d := by
  cases hv : av v with
  | none => rw [hv] at h; cases h; rw [av_none hv]; exact ⟨⟨_, .none⟩, rfl, Nat.zero_le n⟩
  | bool b => rw [hv] at h; cases h; rw [av_bool hv]; exact ⟨⟨_, .bool b⟩, rfl, Nat.zero_le n⟩
  | int i => rw [hv] at h; cases h; obtain ⟨t, rfl⟩ := av_int hv; exact ⟨⟨_, .int i t⟩, rfl, Nat.zero_le n⟩
  | _ => rw [hv] at h; exact nsm h
theorem all_reads {n : Nat} (ih : ∀ v d, rd H n (av v) = some d → RdOK s n v d) : ∀ (xs : List Value) (ds : List PyData), allSome ((xs.map av).map (rd H n)) = some ds → An3 (∃ as, ReadsAll s.heap xs ds as) (PyData.canLayAll0 ds = true) (PyData.depthAll ds ≤ n)
  | [], ds, h => by cases h; exact ⟨⟨_, .nil⟩, by simp [PyData.canLayAll0], by simp [PyData.depthAll]⟩
  | x :: r, ds, h => by
    simp only [List.map_cons] at h
    cases q : rd H n (av x) with
    | none => rw [q] at h; exact nsm h
    | some y =>
      rw [q] at h
      obtain ⟨ds', h', rfl⟩ := b1_eq h
      obtain ⟨⟨as, a1⟩, a2, a3⟩ := all_reads ih r ds' h'
      obtain ⟨⟨bs, b1⟩, b2, b3⟩ := ih x y q
      refine ⟨⟨_, .cons b1 a1⟩, ?_, ?_⟩
      · simp only [PyData.canLayAll0]; rw [b2, a2]; rfl
      · simp only [PyData.depthAll]; lia
theorem rd_reads (R : Hp c B H s) : ∀ (n : Nat) (v : Value) (d : PyData), rd H n (av v) = some d → RdOK s n v d
  | 0, v, d, h => lit_reads h
  | n + 1, v, d, h => by
    have h : (av v).r?.elim (litV (av v)) (fun a => (H.see a).bind (seqD fun l => allSome (l.map (rd H n)))) = some d := h
    cases hr : (av v).r? with
    | none => rw [hr] at h; exact lit_reads h
    | some a =>
      rw [hr] at h
      rw [av_ref (V.r_eq hr)]
      obtain ⟨o, e, h⟩ := bb_eq h
      cases o with
      | lst l =>
        obtain ⟨ds, h', rfl⟩ := b1_eq h
        obtain ⟨xs, ⟨k, p⟩, e1, e2⟩ := R.see e
        rw [← e1] at h'
        obtain ⟨⟨as, a1⟩, a2, a3⟩ := all_reads (rd_reads R n) _ _ h'
        exact ⟨⟨_, Reads.list p rfl rfl a1⟩, by simp only [PyData.canLay0]; exact a2, by simp only [PyData.depth]; lia⟩
      | tup l =>
        obtain ⟨ds, h', rfl⟩ := b1_eq h
        obtain ⟨xs, k, p, e1, e2⟩ := R.see e
        rw [← e1] at h'
        obtain ⟨⟨as, a1⟩, a2, a3⟩ := all_reads (rd_reads R n) _ _ h'
        exact ⟨⟨_, Reads.tuple p rfl rfl a1⟩, by simp only [PyData.canLay0]; exact a2, by simp only [PyData.depth]; lia⟩
      | _ => exact nsm h
theorem rd_shaped {d : PyData} {n : Nat} (h1 : d.canLay0 = true) (h2 : d.depth ≤ n) (hn : n ≤ 64) : SeqAt.shaped d = true := by
  unfold SeqAt.shaped; rw [h1, Bool.true_and]; exact decide_eq_true (Nat.le_trans h2 hn)
theorem o_eq {v w : Value} {b : Bool} (R : Hp c B H s) (hu : A.units + 80 < cLine) (h : eqV H (av v) (av w) = some b) (q : Q (.bool b) H) :
    wpAny (model c.prog c.w) A (compareOp .Eq v w) (PH c B Q) E s := by
  obtain ⟨d, h1, h⟩ := bb_eq h
  obtain ⟨e, h2, rfl⟩ := b1_eq h
  obtain ⟨⟨as, a1⟩, a2, a3⟩ := rd_reads R _ _ _ h1
  obtain ⟨⟨bs, b1⟩, b2, b3⟩ := rd_reads R _ _ _ h2
  exact eq_dataH a1 b1 (rd_shaped a2 a3 (by decide)) (rd_shaped b2 b3 (by decide)) (by lia) ⟨H, R, q⟩
theorem o_ne {v w : Value} {b : Bool} (R : Hp c B H s) (hu : A.units + 80 < cLine) (h : eqV H (av v) (av w) = some b) (q : Q (.bool (!b)) H) :
    wpAny (model c.prog c.w) A (compareOp .NotEq v w) (PH c B Q) E s := by
  obtain ⟨d, h1, h⟩ := bb_eq h
  obtain ⟨e, h2, rfl⟩ := b1_eq h
  obtain ⟨⟨as, a1⟩, a2, a3⟩ := rd_reads R _ _ _ h1
  obtain ⟨⟨bs, b1⟩, b2, b3⟩ := rd_reads R _ _ _ h2
  exact ne_dataH a1 b1 (rd_shaped a2 a3 (by decide)) (rd_shaped b2 b3 (by decide)) (by lia) ⟨H, R, q⟩
inductive MemR (c : Cx) (H : AH) (s : Shared) (v w : Value) (b : Bool) : Prop
  | lst (a : Addr) (ds : List PyData) (d : PyData) (as bs : List Addr) (ew : w = .ref a) (h1 : Reads s.heap (.ref a) (.list ds) as) (h2 : Reads s.heap v d bs) (h3 : PyData.canLayAll0 ds = true) (h4 : d.canLay0 = true) (h5 : d.depth ≤ 2) (hb : (ds.any fun y => PyData.eqv y d) = b)
  | tup (a : Addr) (ds : List PyData) (d : PyData) (as bs : List Addr) (ew : w = .ref a) (h1 : Reads s.heap (.ref a) (.tuple ds) as) (h2 : Reads s.heap v d bs) (h3 : PyData.canLayAll0 ds = true) (h4 : d.canLay0 = true) (h5 : d.depth ≤ 2) (hb : (ds.any fun y => PyData.eqv y d) = b)
  | dct (a : Addr) (i : Int) (t : Tok) (es : List (Int × V)) (ew : w = .ref a) (ev : v = .int i t) (e : H.see a = some (.dct es)) (hb : (get es i).isSome = b)
theorem mem_r {v w : Value} {b : Bool} (R : Hp c B H s) (h : memV H (av v) (av w) = some b) : MemR c H s v w b := by
  obtain ⟨a, h1, h⟩ := bb_eq h
  obtain ⟨o, e, h⟩ := bb_eq h
  have hw := av_ref (V.r_eq h1)
  clear h1
  cases o with
  | lst l =>
    obtain ⟨ds, h2, h⟩ := bb_eq (show (allSome (l.map (rd H 2))).bind _ = _ from h)
    obtain ⟨d, h3, rfl⟩ := b1_eq h
    obtain ⟨xs, ⟨k, p⟩, e1, e2⟩ := R.see e
    obtain ⟨⟨as, a1⟩, a2, a3⟩ := rd_reads R _ _ _ h3
    rw [← e1] at h2
    obtain ⟨⟨bs, b1⟩, b2, b3⟩ := all_reads (rd_reads R 2) _ _ h2
    exact .lst a ds d _ _ hw (Reads.list p rfl rfl b1) a1 b2 a2 a3 rfl
  | tup l =>
    obtain ⟨ds, h2, h⟩ := bb_eq (show (allSome (l.map (rd H 2))).bind _ = _ from h)
    obtain ⟨d, h3, rfl⟩ := b1_eq h
    obtain ⟨xs, k, p, e1, e2⟩ := R.see e
    obtain ⟨⟨as, a1⟩, a2, a3⟩ := rd_reads R _ _ _ h3
    rw [← e1] at h2
    obtain ⟨⟨bs, b1⟩, b2, b3⟩ := all_reads (rd_reads R 2) _ _ h2
    exact .tup a ds d _ _ hw (Reads.tuple p rfl rfl b1) a1 b2 a2 a3 rfl
  | dct es =>
    obtain ⟨i, h2, h3⟩ := b1_eq (show (av v).i?.map _ = _ from h)
    obtain ⟨t, ht⟩ := av_int (V.i_eq h2)
    exact .dct a i t es hw ht e h3
  | _ => exact nsm h
theorem o_mem (G : Gd c) {v w : Value} {b : Bool} (R : Hp c B H s) (hu : A.units + 80 < cLine) (h : memV H (av v) (av w) = some b) (q : Q (.bool b) H) :
    wpAny (model c.prog c.w) A (compareOp .In v w) (PH c B Q) E s := by
  cases mem_r R h with
  | lst a ds d as bs ew h1 h2 h3 h4 h5 hb =>
    have dmin := Nat.min_le_right (PyData.depthAll ds) d.depth
    rw [ew]
    exact SeqAt.in_list_reads h1 h2 h3 h4 (by lia) ⟨H, R, by rw [hb]; exact q⟩
  | tup a ds d as bs ew h1 h2 h3 h4 h5 hb =>
    have dmin := Nat.min_le_right (PyData.depthAll ds) d.depth
    rw [ew]
    exact SeqAt.in_tuple_reads h1 h2 h3 h4 (by lia) ⟨H, R, by rw [hb]; exact q⟩
  | dct a i t es ew ev e hb =>
    obtain ⟨kvs, p, e1, e2⟩ := R.see e
    rw [ew, ev]
    refine wpAny_in_of (intKind_is _ _ _ _) (R.noMods G e) p.mapOf ⟨H, R.tok, ?_⟩
    rw [← hb, ← e1, map_pairs_find] at q
    simpa [av] using q
theorem o_notMem (G : Gd c) {v w : Value} {b : Bool} (R : Hp c B H s) (hu : A.units + 80 < cLine) (h : memV H (av v) (av w) = some b) (q : Q (.bool (!b)) H) :
    wpAny (model c.prog c.w) A (compareOp .NotIn v w) (PH c B Q) E s := by
  cases mem_r R h with
  | lst a ds d as bs ew h1 h2 h3 h4 h5 hb =>
    have dmin := Nat.min_le_right (PyData.depthAll ds) d.depth
    rw [ew]
    exact SeqAt.notIn_list_reads h1 h2 h3 h4 (by lia) ⟨H, R, by rw [hb]; exact q⟩
  | tup a ds d as bs ew h1 h2 h3 h4 h5 hb =>
    have dmin := Nat.min_le_right (PyData.depthAll ds) d.depth
    rw [ew]
    exact SeqAt.notIn_tuple_reads h1 h2 h3 h4 (by lia) ⟨H, R, by rw [hb]; exact q⟩
  | dct a i t es ew ev e hb =>
    obtain ⟨kvs, p, e1, e2⟩ := R.see e
    rw [ew, ev]
    refine wpAny_notIn_of (intKind_is _ _ _ _) (R.noMods G e) p.mapOf ⟨H, R.tok, ?_⟩
    rw [← hb, ← e1, map_pairs_find] at q
    simpa [av] using q
inductive LtR (v w : Value) (b : Bool) : Prop
  | mk (i j : Int) (t u : Tok) (e1 : v = .int i t) (e2 : w = .int j u) (e : decide (i < j) = b)
theorem lt_r {v w : Value} {b : Bool} (h : ltV (av v) (av w) = some b) : LtR v w b := by
  unfold ltV at h
  cases h1 : (av v).i? with
  | none => rw [h1] at h; exact nsm h
  | some i =>
    rw [h1] at h
    cases h2 : (av w).i? with
    | none => rw [h2] at h; exact nsm h
    | some j =>
      rw [h2] at h
      obtain ⟨t, e1⟩ := av_int (V.i_eq h1)
      obtain ⟨u, e2⟩ := av_int (V.i_eq h2)
      exact ⟨i, j, t, u, e1, e2, Option.some.inj h⟩
theorem o_lt {v w : Value} {b : Bool} (R : Hp c B H s) (h : ltV (av v) (av w) = some b) (q : Q (.bool b) H) : wpAny (model c.prog c.w) A (compareOp .Lt v w) (PH c B Q) E s := by
  obtain ⟨i, j, t, u, rfl, rfl, rfl⟩ := lt_r h
  exact lt_int ⟨H, R, q⟩
theorem nlt {i j : Int} : decide (i ≥ j) = !decide (i < j) := by by_cases z : i < j <;> simp [z] <;> lia
theorem o_ge {v w : Value} {b : Bool} (R : Hp c B H s) (h : ltV (av v) (av w) = some b) (q : Q (.bool (!b)) H) : wpAny (model c.prog c.w) A (compareOp .GtE v w) (PH c B Q) E s := by
  obtain ⟨i, j, t, u, rfl, rfl, rfl⟩ := lt_r h
  exact ge_int ⟨H, R, by rw [nlt]; exact q⟩
theorem o_le {v w : Value} {b : Bool} (R : Hp c B H s) (h : ltV (av w) (av v) = some b) (q : Q (.bool (!b)) H) : wpAny (model c.prog c.w) A (compareOp .LtE v w) (PH c B Q) E s := by
  obtain ⟨i, j, t, u, rfl, rfl, rfl⟩ := lt_r h
  exact le_int ⟨H, R, by rw [show decide (j ≤ i) = _ from nlt]; exact q⟩
inductive IsR (v w : Value) (b : Bool) : Prop
  | mk (hw : w = .none) (hv : plainIs v .none = true) (hb : (v == Value.none) = b)
theorem is_r {v w : Value} {b : Bool} (h : isV (av v) (av w) = some b) : IsR v w b := by
  cases hw : av w with
  | none =>
    rw [hw] at h
    obtain ⟨u, h1, rfl⟩ := b1_eq h
    obtain ⟨rfl, h2⟩ := nun_eq h1
    refine ⟨av_none hw, ?_, ?_⟩
    · cases v <;> first | rfl | (exact absurd rfl h2)
    · by_cases z : av v = .none
      · rw [av_none z]; rfl
      · rw [decide_eq_false z]; exact beq_eq_false_iff_ne.mpr fun e => z (by rw [e]; rfl)
  | _ => rw [hw] at h; exact nsm h
theorem o_is {v w : Value} {b : Bool} (R : Hp c B H s) (h : isV (av v) (av w) = some b) (q : Q (.bool b) H) : wpAny (model c.prog c.w) A (compareOp .Is v w) (PH c B Q) E s := by
  obtain ⟨rfl, hv, rfl⟩ := is_r h
  exact wpAny_is_plain hv ⟨H, R, q⟩
theorem o_isNot {v w : Value} {b : Bool} (R : Hp c B H s) (h : isV (av v) (av w) = some b) (q : Q (.bool (!b)) H) : wpAny (model c.prog c.w) A (compareOp .IsNot v w) (PH c B Q) E s := by
  obtain ⟨rfl, hv, rfl⟩ := is_r h
  exact wpAny_isNot_plain hv ⟨H, R, q⟩
end
end Mine
end
section
open PySem PySem.W PyProof.Rows
namespace Mine
section
variable {c : Cx} {B : Bs} {H : AH} {s : Shared} {A : Around} {E : Value → Shared → Prop} {Q : V → AH → Prop}
theorem bits_big {a : Int} (h : -big ≤ a ∧ a ≤ big) : Builtin.Int.intBits a ≤ 64 := by
  unfold Builtin.Int.intBits
  obtain ⟨h1, h2⟩ := h
  have : a.natAbs ≤ 4611686018427387904 := by unfold big at h1 h2; lia
  split
  · lia
  · rename_i hz
    have h3 : a.natAbs < 2 ^ 63 := by lia
    have hz' : a.natAbs ≠ 0 := by simpa using hz
    have := (Nat.log2_lt hz').mpr h3
    lia
noncomputable def opOf : Op → Operator
  | .add => .Add
  | .sub => .Sub
  | .mul => .Mult
  | .fdiv => .FloorDiv
  | .mod => .Mod
  | .pow => .Pow
theorem o_int {op : Op} {a b r : Int} {t u : Tok} (R : Hp c B H s) (h : intBin op a b = some r) (q : Q (.int r) H) :
    wpAny (model c.prog c.w) A (binaryOp (opOf op) (.int a t) (.int b u)) (PH c B Q) E s := by
  cases op with
  | add => cases h; exact add_int ⟨H, R.tok, q⟩
  | sub => cases h; exact sub_int ⟨H, R.tok, q⟩
  | mul =>
    obtain ⟨hb, rfl⟩ := gdP_eq h
    exact mul_int ⟨H, R.tok, q⟩ (IntMulOk.of_left (bits_big ⟨hb.1, hb.2.1⟩))
  | fdiv =>
    obtain ⟨hb, rfl⟩ := gdP_eq h
    refine floordiv_int (by lia) ⟨H, R.tok, ?_⟩ (Or.inl (PyProof.noPylong_small (by lia)))
    rw [Int.fdiv_eq_ediv_of_nonneg _ (by lia)]; exact q
  | mod =>
    obtain ⟨hb, rfl⟩ := gdP_eq h
    refine mod_int' (by lia) ⟨H, R.tok, ?_⟩
    rw [Int.fmod_eq_emod_of_nonneg _ (by lia)]; exact q
  | pow =>
    obtain ⟨hb, rfl⟩ := gdP_eq h
    obtain ⟨rfl, h0, h1⟩ := hb
    by_cases hz : b = 0
    · subst hz
      exact PySem.AutoIntOps.pow_0 (by decide) rfl ⟨H, R.tok, q⟩
    · refine PySem.AutoIntOps.pow_4 h0 (by simpa using hz) (by decide) (by decide) ?_ ⟨H, R.tok, q⟩
      unfold Builtin.Int.intTooBig bitsLine
      have : Builtin.Int.intBits 2 = 2 := by decide +kernel
      rw [this]
      simp only [decide_eq_true_eq, gt_iff_lt, Int.not_lt]
      lia
theorem set_self {a : Addr} {x : O} (h : H a = some x) : H.set a x = H := by
  funext b
  unfold AH.set
  split
  · rename_i e; rw [e, h]
  · rfl
theorem o_addT {a b : Addr} {l r : List V} (R : Hp c B H s) (ha : H a = some (.tup l)) (hb : H b = some (.tup r)) (h1 : l.length + r.length ≤ sz) (h2 : ∀ x, H x = none ∨ H x = some (.tup (l ++ r)) → Q (.ref x) (H.set x (.tup (l ++ r)))) :
    wpAny (model c.prog c.w) A (binaryOp .Add (.ref a) (.ref b)) (PH c B Q) E s := by
  obtain ⟨xs, n, p, e1, e2⟩ := R.real _ _ ha
  obtain ⟨ys, n', p', e1', e2'⟩ := R.real _ _ hb
  have s1 := map_av e1
  have s2 := map_av e1'
  by_cases z1 : xs.isEmpty = true
  · have zl : l = [] := by
      have : xs.size = 0 := by simpa using z1
      exact List.eq_nil_of_length_eq_zero (by lia)
    subst zl
    have hx : xs = #[] := by simpa using z1
    subst hx
    have q := h2 b (.inr hb)
    rw [List.nil_append, set_self hb] at q
    exact concat_meets ⟨_, p, rfl⟩ ⟨_, p', rfl⟩ noFill_tuple_add seq_tuple_add PySem.F.slot_tuple_add PySem.F.entry_tuple_add (PySem.F.args_tuple_add_2 _ _) (tuple_addW0 a b #[] ys n n' none none #[] #[] rfl) ⟨p, p', ⟨H, R, q⟩⟩
  · by_cases z2 : ys.isEmpty = true
    · have zr : r = [] := by
        have : ys.size = 0 := by simpa using z2
        exact List.eq_nil_of_length_eq_zero (by lia)
      subst zr
      have hy : ys = #[] := by simpa using z2
      subst hy
      have q := h2 a (.inr (by rw [List.append_nil]; exact ha))
      rw [List.append_nil, set_self ha] at q
      exact concat_meets ⟨_, p, rfl⟩ ⟨_, p', rfl⟩ noFill_tuple_add seq_tuple_add PySem.F.slot_tuple_add PySem.F.entry_tuple_add (PySem.F.args_tuple_add_2 _ _) (tuple_addW1 a b xs #[] n n' none none #[] #[] z1 rfl) ⟨p, p', ⟨H, R, q⟩⟩
    · refine PySem.P.add_tuple p p' z1 z2 (R.push (t := s.toks) (x := .tup (l ++ r)) ⟨xs ++ ys, 0, Heap.get?_push_size _ rfl, ?_, by rw [List.length_append]; exact h1⟩ fun a q => h2 a (.inl q)) (sz_line' (by lia))
      rw [Array.toList_append, List.map_append, e1, e1']
theorem o_bin {op : Op} {v w : Value} (R : Hp c B H s) (h : binW H op (av v) (av w) Q) : wpAny (model c.prog c.w) A (binaryOp (opOf op) v w) (PH c B Q) E s := by
  unfold binW at h
  cases hv : (av v).i? with
  | some a =>
    rw [hv] at h
    obtain ⟨b, hw, h⟩ := ifS_eq h
    obtain ⟨r, q, h⟩ := ifS_eq h
    obtain ⟨t, e⟩ := av_int (V.i_eq hv)
    obtain ⟨u, e'⟩ := av_int (V.i_eq hw)
    rw [e, e']
    exact o_int R q h
  | none =>
    rw [hv] at h
    cases op with
    | add =>
      obtain ⟨a, h1, h⟩ := ifS_eq (show addR H (av v) (av w) Q from h)
      obtain ⟨b, h2, h⟩ := ifS_eq h
      obtain ⟨o, ha, h⟩ := ifS_eq h
      obtain ⟨o', hb, h⟩ := ifS_eq h
      rw [av_ref (V.r_eq h1), av_ref (V.r_eq h2)]
      cases o with
      | lst l =>
        obtain ⟨r, q, h⟩ := ifS_eq h
        rw [O.l_eq q] at hb
        obtain ⟨xs, ⟨n, p⟩, e1, e2⟩ := R.real _ _ ha
        obtain ⟨ys, ⟨n', p'⟩, e1', e2'⟩ := R.real _ _ hb
        have s1 := map_av e1
        have s2 := map_av e1'
        refine PySem.P.add_list p p' (R.push (t := s.toks) (x := .lst (l ++ r)) ⟨xs ++ ys, ⟨0, Heap.get?_push_size _ rfl⟩, ?_, by rw [List.length_append]; exact h.1⟩ h.2) (sz_line' (by lia))
        rw [Array.toList_append, List.map_append, e1, e1']
      | tup l =>
        obtain ⟨r, q, h⟩ := ifS_eq h
        rw [O.t_eq q] at hb
        exact o_addT R ha hb h.1 h.2
      | _ => exact h.elim
    | _ => exact h.elim
theorem clip_of {n i : Nat} {j : Int} (h : clip n j = some i) : (clipAt n) j = i ∧ i ≤ n := by
  obtain ⟨h0, rfl⟩ := gdP_eq h
  obtain ⟨k, rfl⟩ := Int.eq_ofNat_of_zero_le h0
  exact ⟨by simp [clipAt_nat], Nat.min_le_right ..⟩
theorem isPart_of {v : Value} {n i : Nat} (h : clampLo n (av v) = some i) : ∃ k, IsPart v k ∧ k.elim 0 (clipAt n) = i := by
  cases e : av v with
  | none => rw [e] at h; cases h; rw [av_none e]; exact ⟨none, .none, rfl⟩
  | int j => rw [e] at h; obtain ⟨t, rfl⟩ := av_int e; exact ⟨some j, .int _ _, (clip_of h).1⟩
  | _ => rw [e] at h; exact nsm h
theorem isPart_of' {v : Value} {n i : Nat} (h : clampHi n (av v) = some i) : ∃ k, An3 (IsPart v k) (k.elim n (clipAt n) = i) (i ≤ n) := by
  cases e : av v with
  | none => rw [e] at h; cases h; rw [av_none e]; exact ⟨none, .none, rfl, Nat.le_refl _⟩
  | int j => rw [e] at h; obtain ⟨t, rfl⟩ := av_int e; exact ⟨some j, .int _ _, (clip_of h).1, (clip_of h).2⟩
  | _ => rw [e] at h; exact nsm h
theorem drop_take_swap {α : Type} (l : List α) (i j : Nat) : (l.drop i).take (j - i) = (l.take j).drop i := by
  rw [List.drop_take]
theorem o_slice {a sl : Addr} {vl vh : Value} {xs : List V} {i j : Nat} (R : Hp c B H s) (e : H.see a = some (.lst xs)) (hs : s.heap.IsSliceOf sl vl vh .none)
    (h1 : clampLo xs.length (av vl) = some i) (h2 : clampHi xs.length (av vh) = some j) (q : ∀ x, H x = none → Q (.ref x) (H.set x (.lst ((xs.take j).drop i)))) :
    wpAny (model c.prog c.w) A (getItem (.ref a) (.ref sl)) (PH c B Q) E s := by
  refine nn fun hC => ?_
  obtain ⟨ys, p, e1, e2⟩ := R.see e
  refine hC ?_
  have s1 := map_av e1
  rw [← s1] at h1 h2
  refine nn fun hC => ?_
  obtain ⟨k1, p1, r1⟩ := isPart_of h1
  obtain ⟨k2, p2, r2, r3⟩ := isPart_of' h2
  refine hC ?_
  refine wpAny_getItem_list_slice (plainL p) hs p1 p2 .none (by simp) (R.push (t := s.toks) (x := .lst ((xs.take j).drop i)) ⟨_, ⟨0, Heap.get?_push_size _ rfl⟩, ?_, ?_⟩ q) (sz_line' (by lia))
  · rw [slicePick_plain, r1, r2]
    show List.map av (((ys.toList.drop i).take (j - i))) = _
    rw [drop_take_swap, List.map_drop, List.map_take, e1]
  · rw [List.length_drop, List.length_take]; lia
theorem o_rev {a sl : Addr} {vk : Value} {xs : List V} (R : Hp c B H s) (e : H.see a = some (.lst xs)) (hs : s.heap.IsSliceOf sl .none .none vk) (hk : ∃ t, vk = .int (-1) t)
    (q : ∀ x, H x = none → Q (.ref x) (H.set x (.lst xs.reverse))) :
    wpAny (model c.prog c.w) A (getItem (.ref a) (.ref sl)) (PH c B Q) E s := by
  refine nn fun hC => ?_
  obtain ⟨ys, p, e1, e2⟩ := R.see e
  refine hC ?_
  have s1 := map_av e1
  obtain ⟨t, rfl⟩ := hk
  refine wpAny_getItem_list_slice (st := some (-1)) (plainL p) hs .none .none (.int _ _) (by decide) (R.push (t := s.toks) (x := .lst xs.reverse) ⟨_, ⟨0, Heap.get?_push_size _ rfl⟩, ?_, ?_⟩ q) (sz_line' (by lia))
  · rw [krv_pick]
    show List.map av ys.toList.reverse = _
    rw [List.map_reverse, e1]
  · rw [List.length_reverse]; exact e2
end
end Mine
end
section
open PySem PySem.W PyProof.Rows
namespace Mine
section
variable {c : Cx} {B : Bs} {H : AH} {s : Shared} {A : Around} {E : Value → Shared → Prop} {Q : V → AH → Prop}
theorem o_abs {i : Int} {t : Tok} (R : Hp c B H s) (q : Q (.int i.natAbs) H) : wpAny (model c.prog c.w) A (call (.builtin "abs") [.int i t]) (PH c B Q) E s := by
  refine call_abs_int fun u tk => ⟨H, R.tok, ?_⟩
  have : (if i < 0 then -i else i) = (i.natAbs : Int) := by split <;> lia
  rw [this]; exact q
theorem o_len (G : Gd c) {a : Addr} (R : Hp c B H s) (h : biW .len [.ref a] H Q) : wpAny (model c.prog c.w) A (call (.builtin "len") [.ref a]) (PH c B Q) E s := by
  refine nn fun hC => ?_
  obtain ⟨o, e, h⟩ := ifS_eq (show ifS (H.see a) _ from h)
  obtain ⟨n, e3, h⟩ := ifS_eq h
  refine hC ?_
  cases o <;> cases e3
  · obtain ⟨xs, p, e1, e2⟩ := R.see e
    have hs := map_av e1
    have := sz63 e2
    exact len_list (plainL p) (by lia) ⟨H, R.tok, by rw [hs]; exact h⟩
  · obtain ⟨xs, n, p, e1, e2⟩ := R.see e
    have hs := map_av e1
    have := sz63 e2
    exact len_tuple (tupI p) (by lia) ⟨H, R.tok, by rw [hs]; exact h⟩
  · obtain ⟨kvs, p, e1, e2⟩ := R.see e
    have hs := dct_len (a := a) e1
    have := sz63 e2
    refine Calls.call_function_entry kind_len plain_len entry_len (args_len1 _) (wpAny_len_body_dict (R.noMods G e) p (by lia) ⟨H, R.tok, ?_⟩)
    rw [hs]; exact h
theorem o_toList {v : Value} {l : List V} (R : Hp c B H s) (hl : seqOf H (av v) = some l) (q : ∀ x, H x = none → Q (.ref x) (H.set x (.lst l))) :
    wpAny (model c.prog c.w) A (call (.type "list") [v]) (PH c B Q) E s := by
  obtain ⟨a, hv, h2⟩ := bb_eq hl
  obtain ⟨o, e, h3⟩ := bb_eq h2
  clear hl h2
  rw [av_ref (V.r_eq hv)]
  clear hv
  cases o with
    | lst l' =>
      cases h3
      obtain ⟨xs, ⟨n, p⟩, e1, e2⟩ := R.see e
      have hs := map_av e1
      refine call_list_seq a (.inl rfl) p rfl rfl (fun h' c' hk hn => ⟨_, R.add (t := s.toks) hk (freshA s) (x := .lst l) ?_, q _ (R.fresh (freshA s))⟩) (sz_line' (by lia))
      exact ⟨xs, ⟨_, hn⟩, e1, e2⟩
    | tup l' =>
      cases h3
      obtain ⟨xs, n, p, e1, e2⟩ := R.see e
      have hs := map_av e1
      refine call_list_seq a (.inr rfl) p rfl rfl (fun h' c' hk hn => ⟨_, R.add (t := s.toks) hk (freshA s) (x := .lst l) ?_, q _ (R.fresh (freshA s))⟩) (sz_line' (by lia))
      exact ⟨xs, ⟨_, hn⟩, e1, e2⟩
    | _ => exact nsm h3
theorem o_toTuple {a : Addr} {l : List V} (R : Hp c B H s) (e : H.see a = some (.lst l)) (q : ∀ x, H x = none → Q (.ref x) (H.set x (.tup l))) :
    wpAny (model c.prog c.w) A (call (.type "tuple") [.ref a]) (PH c B Q) E s := by
  refine nn fun hC => ?_
  obtain ⟨xs, p, e1, e2⟩ := R.see e
  refine hC ?_
  have hs := map_av e1
  refine call_tuple_list (plainL p) (fun h' hk => ?_) (sz_line' (by lia))
  have hn : s.heap.get? h'.objs.size = none := by
    cases q : s.heap.get? h'.objs.size with
    | none => rfl
    | some o => exact absurd (Heap.lt_size (hk _ _ q)) (Nat.lt_irrefl _)
  refine ⟨_, R.add (t := s.toks) (fun b o e => Heap.get?_push_of_some _ (hk b o e)) hn (x := .tup l) ⟨xs, 0, Heap.get?_push_size _ rfl, e1, e2⟩, q _ (R.fresh hn)⟩
theorem o_toInt {i : Int} {t : Tok} (R : Hp c B H s) (q : Q (.int i) H) : wpAny (model c.prog c.w) A (call (.type "int") [.int i t]) (PH c B Q) E s := call_int_int ⟨H, R, q⟩
theorem o_isBool {b : Bool} (R : Hp c B H s) (q : Q (.bool true) H) : wpAny (model c.prog c.w) A (call (.builtin "isinstance") [.bool b, .type "bool"]) (PH c B Q) E s :=
  call_isinstance_yes (Tx := "bool") rfl (by show typeOf _ = _; with_unfolding_all rfl) (by rw [isSubtype_type]; kernel_rfl) ⟨H, R, q⟩
theorem eqb_int {a b : Int} {t u : Tok} {Q : Bool → Shared → Prop} (h : Q (a == b) s) : wpAny (model c.prog c.w) A (eqBool (.int a t) (.int b u)) Q E s := wpAny_eqBool_int (by
  first | exact h | (rw [← Bool.beq_eq_decide_eq] ; exact h) | simpa using h)
theorem two_of {xs : List Value} {p q : Int} (h : xs.map av = [.int p, .int q]) : ∃ t u, xs = [.int p t, .int q u] := by
  cases xs with
  | nil => simp at h
  | cons x r => cases r with
    | nil => simp at h
    | cons y r => cases r with
      | nil =>
        simp only [List.map_cons, List.map_nil, List.cons.injEq, and_true] at h
        obtain ⟨t, rfl⟩ := av_int h.1
        obtain ⟨u, rfl⟩ := av_int h.2
        exact ⟨t, u, rfl⟩
      | cons z r => simp at h
theorem gt_tup {a b : Addr} {p q' r s' : Int} {t1 t2 t3 t4 : Tok} {n n' : Nat} (P : s.heap.get? a = some (seqObj "tuple" (List.toArray [.int p t1, .int q' t2]) n)) (P' : s.heap.get? b = some (seqObj "tuple" (List.toArray [.int r t3, .int s' t4]) n')) (hu : A.units + 80 < cLine)
    {k : Value → Shared → Prop} (q : k (.bool (decide (r < p ∨ (p = r ∧ s' < q')))) s) : wpAny (model c.prog c.w) A (compareOp .Gt (.ref a) (.ref b)) k E s := by
  show wpAny _ _ (richCompare .Gt (.ref a) (.ref b)) _ _ _
  refine wpAny_richCompare_same_room (op := .Gt) (T := "tuple") ⟨_, P, rfl⟩ ⟨_, P', rfl⟩ PySem.F.slot_tuple_gt
    (wpAny_call_entry PySem.F.slot_tuple_gt ⟨_, P, rfl⟩ PySem.F.entry_tuple_gt ?_ (PySem.F.args_tuple_gt_2 _ _)) (by lia)
  show wpAny _ _ (isInstance (.ref b) (.type "tuple") >>= _) _ _ s
  refine wpAny_bind (wpAny_isInstance ⟨_, P', rfl⟩ isSubtype_tuple_tuple ?_)
  simp only [Bool.not_true, Bool.false_eq_true, if_false]
  refine wpAny_bind (wpAny_tupleItemsOf P rfl ?_)
  refine wpAny_bind (wpAny_tupleItemsOf P' rfl ?_)
  simp only [List.zip_cons_cons, List.zip_nil_right, List.forIn_cons, List.forIn_nil]
  refine wpAny_bind (wpAny_bind (wpAny_bind (eqb_int ?_)))
  by_cases k1 : p = r
  · subst k1
    simp only [beq_self_eq_true, Bool.not_true, Bool.false_eq_true, if_false]
    refine wpAny_pure ?_
    refine wpAny_bind (wpAny_bind (eqb_int ?_))
    by_cases k2 : q' = s'
    · subst k2
      simp only [beq_self_eq_true, Bool.not_true, Bool.false_eq_true, if_false]
      refine wpAny_pure (wpAny_pure (wpAny_pure ?_))
      refine ⟨_, rfl, by simp [Builtin.Tuple.tupleCompareSizes], ?_⟩
      simpa [Builtin.Tuple.tupleCompareSizes] using q
    · have : (q' == s') = false := by simpa using k2
      rw [this]
      simp only [Bool.not_false, if_true]
      refine wpAny_bind (wpAny_rule (wpAny_bind (gt_int ?_)))
      refine wpAny_bind (wpAny_pure (wpAny_pure (wpAny_pure (wpAny_pure ?_))))
      refine ⟨_, rfl, by simp, ?_⟩
      simpa using q
  · have : (p == r) = false := by simpa using k1
    rw [this]
    simp only [Bool.not_false, if_true]
    refine wpAny_bind (wpAny_rule (wpAny_bind (gt_int ?_)))
    refine wpAny_bind (wpAny_pure (wpAny_pure (wpAny_pure ?_)))
    refine wpAny_pure ?_
    refine ⟨_, rfl, by simp, ?_⟩
    simpa [k1] using q
theorem p_see {a : Addr} {p q' : Int} (R : Hp c B H s) (e : H.see a = some (.tup [.int p, .int q'])) : Ex3 fun (t1 t2 : Tok) (n : Nat) => s.heap.get? a = some (seqObj "tuple" (List.toArray [.int p t1, .int q' t2]) n) := by
  obtain ⟨xs, n, P, e1, e2⟩ := R.see e
  obtain ⟨xs⟩ := xs
  obtain ⟨t1, t2, rfl⟩ := two_of e1
  exact ⟨t1, t2, n, P⟩
theorem o_gt {v w : Value} {b : Bool} (R : Hp c B H s) (hu : A.units + 80 < cLine) (h : gtV H (av v) (av w) = some b) (q : Q (.bool b) H) : wpAny (model c.prog c.w) A (compareOp .Gt v w) (PH c B Q) E s := by
  unfold gtV at h
  cases hv : (av v).i? with
  | some a =>
    rw [hv] at h
    obtain ⟨b', hw, rfl⟩ := b1_eq h
    obtain ⟨t, rfl⟩ := av_int (V.i_eq hv)
    obtain ⟨u, rfl⟩ := av_int (V.i_eq hw)
    exact gt_int ⟨H, R, q⟩
  | none =>
    rw [hv] at h
    clear hv
    obtain ⟨a, h1, h⟩ := bb_eq h
    obtain ⟨a', h2, h⟩ := bb_eq h
    obtain ⟨o, h3, h⟩ := bb_eq h
    obtain ⟨o', h4, h⟩ := bb_eq h
    obtain ⟨p, h5, h⟩ := bb_eq h
    obtain ⟨p', h6, h⟩ := bb_eq h
    obtain ⟨i1, k1, h⟩ := bb_eq h
    obtain ⟨i2, k2, h⟩ := bb_eq h
    obtain ⟨i3, k3, h⟩ := bb_eq h
    obtain ⟨i4, k4, h⟩ := b1_eq h
    rw [O.p_eq h5, V.i_eq k1, V.i_eq k2] at h3
    rw [O.p_eq h6, V.i_eq k3, V.i_eq k4] at h4
    obtain ⟨t1, t2, n, P⟩ := p_see R h3
    obtain ⟨t3, t4, n', P'⟩ := p_see R h4
    rw [av_ref (V.r_eq h1), av_ref (V.r_eq h2)]
    refine gt_tup P P' hu ⟨H, R, ?_⟩
    rw [← h] at q
    exact q
end
end Mine
end
section
open PySem PySem.W PyProof.Rows
namespace Mine
noncomputable def attrChk (K : Frag) (C : Addr) : Bool :=
  hasDictIn K C && plainOver K C && (findIn K (.ref C) "__setattr__" == some (some (.builtin "object.__setattr__"))) &&
  nmT.all fun f => plainGet K C f && (findIn K (.ref C) f == some none) && (takerIn K C f == some none)
theorem nmOf_mem {f : Str} {k : Nat} (h : nmOf f = some k) : f ∈ nmT := by
  unfold nmOf List.idxOf? at h
  rw [List.findIdx?_eq_some_iff_getElem] at h
  obtain ⟨a, b, _⟩ := h
  rw [← beq_iff_eq.mp b]
  exact List.getElem_mem a
section
variable {c : Cx} {B : Bs} {H : AH} {s : Shared} {A : Around} {E : Value → Shared → Prop} {Q : V → AH → Prop}
theorem Hp.kin (G : Gd c) (R : Hp c B H s) : c.K.In s.heap := fun a o e => R.h0 _ _ (G.kin a o e)
theorem dictOf_obj {K : Type} [DecidableEq K] {prog : Program} {w : World} {knd : KeyKind prog w K} {h : Heap} {a : Addr} {kvs : List (K × Value)} (p : h.DictOf knd a kvs) :
    Ex2 fun es n => An4 (h.get? a = some (dictOf es n)) (KeysOf knd es.toArray) (Pairs knd es kvs) ((kvs.map (·.1)).Nodup) := by
  refine nn fun hC => ?_
  obtain ⟨o, es, ep, ho, ⟨h1, h2, h3⟩, hd, hk, hp, hn⟩ := p
  obtain ⟨oc, od, oda, osl⟩ := o
  refine hC ?_
  dsimp only at h1 h2 h3 hd
  subst h1 h2 h3 hd
  exact ⟨es.toList, ep, by simpa [dictOf] using ho, by simpa using hk, hp, hn⟩
theorem getL_of {prog : Program} {w : World} {es : List DictEntry} {kvs : List (Str × Value)} (hk : KeysOf (strKind prog w) es.toArray) (hp : Pairs (strKind prog w) es kvs) (f : Str) :
    getL f es = some (valueAt kvs f) := by
  have e : (fun x : DictEntry => x.key.isStr f) = fun x => (strKind prog w).is f x.key := funext fun x => isStr_of f x.key
  have hf := hp.find f
  unfold getL
  rw [e]
  cases q : es.find? fun x => (strKind prog w).is f x.key with
  | some y => rw [q] at hf; rw [← hf]; rfl
  | none =>
    rw [q] at hf
    rw [← hf]
    dsimp only
    rw [if_neg]
    · rfl
    · intro z
      obtain ⟨y, hy, hr⟩ := List.any_eq_true.mp z
      obtain ⟨k, h1, _⟩ := hk y (by simpa using hy)
      obtain ⟨t, h2⟩ := Value.isStrOf_shape h1
      simp [DictEntry.refKey, h2] at hr
theorem handed_av {v : Value} (h : av v ≠ .un) : handedIn v = true := by
  cases v <;> first | rfl | (exact absurd rfl h)
theorem inst_at {a d : Addr} {es : List (Nat × V)} (R : Hp c B H s) (ha : H a = some (.inst d)) (hd : H d = some (.att es)) :
    Ex3 fun l n kvs => An7 (InstAt s.heap a (instObj c.C d) c.C (some (dictOf l n))) (s.heap.get? d = some (dictOf l n)) (KeysOf (strKind c.prog c.w) l.toArray) (Pairs (strKind c.prog c.w) l kvs) ((kvs.map (·.1)).Nodup) (kvs.map (fun e => (nmOf e.1, av e.2)) = es.map (fun e => (some e.1, e.2))) (es.length ≤ 900) := by
  have hi : s.heap.get? a = some (instObj c.C d) := R.real _ _ ha
  refine nn fun hC => ?_
  obtain ⟨kvs, p, e1, e2⟩ := R.real _ _ hd
  obtain ⟨l, n, ho, hk, hp, hn⟩ := dictOf_obj p
  refine hC ?_
  exact ⟨l, n, kvs, ⟨hi, rfl, rfl, ho⟩, ho, hk, hp, hn, e1, e2⟩
theorem o_attr (G : Gd c) (hK : attrChk c.K c.C = true) {v : Value} {f : Str} {k : Nat} {x : V} {ex : Bool} (R : Hp c B H s) (hf : nmOf f = some k) (h : attrV H (av v) k = some x) (q : Q x H) :
    wpAny (model c.prog c.w) A (getAttr v f ex) (PH c B Q) E s := by
  unfold attrChk at hK
  simp only [Bool.and_eq_true, List.all_eq_true] at hK
  refine nn fun hC => ?_
  obtain ⟨⟨⟨k1, k2⟩, k3⟩, k4⟩ := hK
  obtain ⟨⟨k5, k6⟩, k7⟩ := k4 f (nmOf_mem hf)
  refine hC ?_
  obtain ⟨p, h1, h⟩ := bb_eq h
  obtain ⟨u, h2, h⟩ := bb_eq h
  obtain ⟨a, hv, ha, hd⟩ := insV_eq h1
  obtain ⟨rfl, hne⟩ := nun_eq h
  rw [av_ref hv]
  refine nn fun hC => ?_
  obtain ⟨l, n, kvs, I, ho, hk, hp, hn, e1, e2⟩ := inst_at R ha hd
  rw [att_get e1 hf] at h2
  obtain ⟨y, h3, rfl⟩ := b1_eq h2
  refine hC ?_
  exact get_value (R.kin G) I (plainGet_of k5).1 (findObj_own k1 (beq_iff_eq.mp k6) (by rfl) (show lookIn f (dictOf l n) = some (some y) by rw [lookIn_dict, getL_of hk hp, h3])) (handed_av hne) ⟨H, R.tok, q⟩
theorem putL_stored {prog : Program} {w : World} {l : List DictEntry} {kvs : List (Str × Value)} {f : Str} {v : Value} {t : Tok} (hk : KeysOf (strKind prog w) l.toArray) (hp : Pairs (strKind prog w) l kvs) (hn : (kvs.map (·.1)).Nodup) :
    KeysOf (strKind prog w) (putL f (PyData.keyHash w.params f) (.str f t) v l).toArray ∧ Pairs (strKind prog w) (putL f (PyData.keyHash w.params f) (.str f t) v l) (stored kvs f v) ∧ ((stored kvs f v).map (·.1)).Nodup := by
  have hkey := strKind_is prog w f t
  have hidx := hp.findIdx f
  have e : (fun x : DictEntry => x.key.isStr f) = fun x => (strKind prog w).is f x.key := funext fun x => isStr_of f x.key
  rw [← putL_find, e]
  cases hi : l.findIdx? fun x => (strKind prog w).is f x.key with
  | some i =>
    rw [hidx] at hi
    dsimp only
    rw [stored, if_pos (any_of_findIdx_some hi)]
    refine ⟨?_, hp.modify hn (hidx.trans hi) v, by rw [keys_map_store]; exact hn⟩
    have := hk.modify i v
    simpa using this
  | none =>
    rw [hidx] at hi
    have hnot : f ∉ kvs.map (·.1) := not_mem_of_findIdx_none hi
    have hany : ¬ (kvs.any fun kv => decide (kv.1 = f)) = true := by
      rw [List.any_eq_true]; rintro ⟨kv, hkv, he⟩
      exact hnot (List.mem_map.mpr ⟨kv, hkv, of_decide_eq_true he⟩)
    dsimp only
    rw [stored, if_neg hany]
    refine ⟨?_, hp.append hkey _ v, ?_⟩
    · have := hk.push hkey v
      rw [List.push_toArray] at this
      exact this
    · rw [List.map_append, List.nodup_append]
      refine ⟨hn, by simp, ?_⟩
      intro a ha b hb
      simp only [List.map_cons, List.map_nil, List.mem_singleton] at hb
      subst hb
      exact fun e => hnot (e ▸ ha)
theorem o_setA_code (G : Gd c) (hK : attrChk c.K c.C = true) {v : Value} {f : Str} {k : Nat} {a d : Addr} {es : List (Nat × V)} {tk : Tok} {RR : Result → Shared → Prop} (R : Hp c B H s) (hf : nmOf f = some k) (ha : H a = some (.inst d))
    (hd : H d = some (.att es)) (hl : es.length < 900) (q : ∀ s', Hp c B (H.set d (.att (put es k (av v)))) s' → RR (.ok (.ret .none)) s') :
    codeAny (model c.prog c.w) A (.call (.builtin "object.__setattr__") ⟨[.ref a, .str f tk, v], []⟩) RR s := by
  unfold attrChk at hK
  simp only [Bool.and_eq_true, List.all_eq_true] at hK
  refine nn fun hC => ?_
  obtain ⟨⟨⟨k1, k2⟩, k3⟩, k4⟩ := hK
  obtain ⟨⟨k5, k6⟩, k7⟩ := k4 f (nmOf_mem hf)
  obtain ⟨l, n, kvs, I, ho, hk, hp, hn, e1, e2⟩ := inst_at R ha hd
  refine hC ?_
  have X := R.kin G
  refine osa_open X I k2 (beq_iff_eq.mp k7) fun b => ?_
  obtain ⟨cd, hc, hd'⟩ := any_some k1
  have hi : s.heap.get? a = some (instObj c.C d) := R.real _ _ ha
  refine wpAny_bind (wpAny_pure (wpAny_bind (wpAny_bind (wpAny_loadPart hi (wpAny_bind ((looks_clsIn X hc).here ?_))))))
  rw [hd']
  refine wpAny_pure (a := some d) (wpAny_bind (wpAny_pure (wpAny_bind ?_)))
  unfold nsSet
  refine wpAny_bind (wpAny_bind (wpAny_askSetting (wpAny_pure (wpAny_bind (wpAny_mkText (wpAny_bind (wpAny_loadPart ho ?_)))))))
  dsimp only
  have cc : (!l.toArray.any (·.key.isStr f) && l.toArray.any (·.refKey)) = false := by
    have : l.any (·.refKey) = false := by
      rw [List.any_eq_false]
      intro y hy
      obtain ⟨k, h1, _⟩ := hk y (by simpa using hy)
      obtain ⟨t, h2⟩ := Value.isStrOf_shape h1
      simp [DictEntry.refKey, h2]
    simp [this]
  rw [aRefKeyMayBeTheName_at, cc]
  have len := hp.length
  have len2 := att_len e1
  obtain ⟨p1, p2, p3⟩ := putL_stored (v := v) (f := f) (t := s.toks) hk hp hn
  have len3 := p2.length
  have len4 := stored_length_le kvs f v
  have he := putName_dict f (PyData.keyHash c.w.params f) (.str f s.toks) v l n
  have g : (s.heap.update d (Obj.putName f (PyData.keyHash c.w.params f) (.str f s.toks) v)).get? d = some (dictOf (putL f (PyData.keyHash c.w.params f) (.str f s.toks) v l) (putN f l n)) := by
    rw [← he]; exact Heap.get?_update_self _ ho (by rw [he]; rfl)
  refine wpAny_updatePart ho ?_
  refine wpAny_bind (wpAny_lookBehind g (pastItsLine_dict (by rw [List.size_toArray, sizeLine_eq]; lia)) ?_)
  refine wpAny_pure (q _ (R.upd hd (Heap.SameBut.update ..) ?_))
  refine ⟨stored kvs f v, ⟨_, _, _, g, ⟨rfl, rfl, rfl⟩, rfl, p1, by simpa using p2, p3⟩, att_put e1 hf v, ?_⟩
  have := put_length es k (av v)
  lia
theorem o_setA (G : Gd c) (hK : attrChk c.K c.C = true) {v : Value} {f : Str} {k : Nat} {a d : Addr} {es : List (Nat × V)} {P : AH → Prop} (R : Hp c B H s) (hf : nmOf f = some k) (ha : H a = some (.inst d))
    (hd : H d = some (.att es)) (hl : es.length < 900) (q : P (H.set d (.att (put es k (av v))))) :
    wpAny (model c.prog c.w) A (setAttr (.ref a) f v) (fun _ s' => ∃ H', Hp c B H' s' ∧ P H') E s := by
  have hK' := hK
  unfold attrChk at hK
  simp only [Bool.and_eq_true, List.all_eq_true] at hK
  refine nn fun hC => ?_
  obtain ⟨l, n, kvs, I, ho, hk, hp, hn, e1, e2⟩ := inst_at R ha hd
  refine hC ?_
  exact set_plain (R.kin G) I (beq_iff_eq.mp hK.1.2) (o_setA_code G hK' R.tok hf ha hd hl fun s' R' => ⟨_, R', q⟩)
noncomputable def methChk (K : Frag) (C : Addr) (f : Str) (a : Addr) : Bool :=
  plainGet K C f && (findIn K (.ref C) f == some (some (.ref a))) && isFn K (.ref a) && (nmOf f).isNone
theorem o_meth (G : Gd c) {f : Str} {a d g : Addr} {pl : Sem Bool} {es : List (Nat × V)} {P : Value × List Value → Shared → Prop} (hM : methChk c.K c.C f g = true) (R : Hp c B H s) (ha : H a = some (.inst d)) (hd : H d = some (.att es))
    (q : P (.ref g, [.ref a]) s) : wpAny (model c.prog c.w) A (getMethod (.ref a) f pl) P E s := by
  unfold methChk at hM
  simp only [Bool.and_eq_true] at hM
  refine nn fun hC => ?_
  obtain ⟨⟨⟨k1, k2⟩, k3⟩, k4⟩ := hM
  obtain ⟨l, n, kvs, I, ho, hk, hp, hn, e1, e2⟩ := inst_at R ha hd
  refine hC ?_
  refine method_fn (R.kin G) I (plainGet_of k1).1 (plainGet_of k1).2 (beq_iff_eq.mp k2) (beq_iff_eq.mp k3) ?_ q
  show (lookIn f (dictOf l n)).map _ = _
  rw [lookIn_dict, getL_of hk hp]
  have : valueAt kvs f = none := by
    cases hv : valueAt kvs f with
    | none => rfl
    | some y =>
      exfalso
      have hm : f ∈ kvs.map (·.1) := by
        unfold valueAt at hv
        obtain ⟨x, hx, _⟩ := Option.map_eq_some_iff.mp hv
        exact List.mem_map.mpr ⟨x, List.mem_of_find?_eq_some hx, by simpa using List.find?_some hx⟩
      obtain ⟨x, hx, rfl⟩ := List.mem_map.mp hm
      have : (nmOf x.1, av x.2) ∈ es.map (fun e => (some e.1, e.2)) := e1 ▸ List.mem_map.mpr ⟨x, hx, rfl⟩
      obtain ⟨y, _, hy⟩ := List.mem_map.mp this
      have := congrArg Prod.fst hy
      simp only at this
      rw [← this] at k4; cases k4
  rw [this]; rfl
end
end Mine
end
section
open PySem PySem.W PyProof.Rows
set_option tactic.hygienic false
namespace Mine
theorem zip_lookup : ∀ {ns : List Str} {vs : List Value}, ns.Nodup → vs.length = ns.length → (ns.filterMap fun n => ((ns.zip vs).lookup n).map (n, ·)) = ns.zip vs := by
  have key : ∀ (ns : List Str) (vs : List Value) (l : List (Str × Value)), ns.Nodup → vs.length = ns.length → (∀ n v, (n, v) ∈ ns.zip vs → l.lookup n = some v) →
      (ns.filterMap fun n => (l.lookup n).map (n, ·)) = ns.zip vs := by
    intro ns
    induction ns with
    | nil => intro vs l _ _ _; rfl
    | cons n ns ih =>
      intro vs l hn hl h
      cases vs with
      | nil => simp at hl
      | cons v vs =>
        rw [List.nodup_cons] at hn
        rw [List.filterMap_cons, h n v (by simp)]
        simp only [Option.map_some, List.zip_cons_cons]
        rw [ih vs l hn.2 (by simpa using hl) fun n' v' hm => h n' v' (by simp [hm])]
  intro ns vs hn hl
  refine key ns vs _ hn hl ?_
  clear key
  induction ns generalizing vs with
  | nil => intro n v h; simp at h
  | cons n ns ih =>
    intro n' v' h
    cases vs with
    | nil => simp at hl
    | cons v vs =>
      rw [List.nodup_cons] at hn
      simp only [List.zip_cons_cons, List.mem_cons, Prod.mk.injEq] at h
      rw [List.zip_cons_cons, List.lookup_cons]
      rcases h with ⟨rfl, rfl⟩ | h
      · simp
      · have hm : n' ∈ ns := (List.of_mem_zip h).1
        have : (n' == n) = false := beq_eq_false_iff_ne.mpr fun e => hn.1 (e ▸ hm)
        rw [this]
        exact ih hn.2 (by simpa using hl) n' v' h
theorem ifP {α : Type} {c : Prop} [Decidable c] {x y z : α} (h : ¬ c) (h' : y = z) : (if c then x else y) = z := (if_neg h).trans h'
theorem forP {α β γ : Type} {l : List α} {b : β} {f : α → β → Sem (ForInStep β)} {k : β → Sem γ} {z : Sem γ} (h : l = []) (h' : k b = z) : (forIn l b f >>= k) = z := by rw [h]; exact h'
theorem zip_look : ∀ {ns : List Str} {vs : List Value}, vs.length = ns.length → ∀ n ∈ ns, ((ns.zip vs).lookup n).isNone = false
  | n :: ns, v :: vs, hl, n', h => by
    rw [List.zip_cons_cons, List.lookup_cons]
    by_cases e : n' = n
    · rw [e, beq_self_eq_true]; rfl
    · rw [beq_eq_false_iff_ne.mpr e]
      exact zip_look (Nat.succ.inj hl) n' ((List.mem_cons.mp h).resolve_left e)
theorem bind_plain {fd : FuncData} {ps : List Arg} {vals : List Value} (h : fd.params = ⟨[], ps, none, [], [], none, []⟩) (hd : fd.defaults = .none) (hk : fd.kwdefaults = .none)
    (hn : (ps.map (·.arg)).Nodup) (hl : vals.length = ps.length) : bindArgs fd ⟨vals, []⟩ = pure ((ps.map (·.arg)).zip vals) := by
  have hl' : vals.length = (ps.map (·.arg)).length := by rw [List.length_map]; exact hl
  obtain ⟨f1, f2, f3, f4, f5, f6, f7, f8, f9, f10, f11, f12, f13, f14, f15⟩ := fd
  dsimp only at h hd hk
  subst h hd hk
  refine ifP (α := Sem (List (Str × Value))) (fun q => ?_) (ifP (α := Sem (List (Str × Value))) (fun q => ?_) (forP (by show List.zip _ (List.drop _ []) = []; rw [List.drop_nil, List.zip_nil_right]) ?_))
  · have q : (decide (vals.length > (ps.map (·.arg)).length) && true) = true := q
    rw [hl', decide_eq_false (Nat.lt_irrefl _)] at q; cases q
  · have q : (!((((ps.map (·.arg)).take ((ps.map (·.arg)).length - (List.drop (0 - (ps.map (·.arg)).length) ([] : List Value)).length)).filter fun n => (((ps.map (·.arg)).zip vals).lookup n).isNone).isEmpty)) = true := q
    rw [List.drop_nil, List.length_nil, Nat.sub_zero, List.take_length, List.filter_eq_nil_iff.mpr fun n hm z => by rw [zip_look hl' n hm] at z; cases z] at q
    cases q
  · show pure ((ps.map (fun x : Arg => x.arg) ++ []).filterMap fun n => (((ps.map (fun x : Arg => x.arg)).zip vals).lookup n).map (n, ·)) = (pure _ : Sem (List (Str × Value)))
    rw [List.append_nil, zip_lookup hn hl']
structure Fn where
  addr : Addr
  obj : Obj
  fd : FuncData
  body : List Stmt
  ps : List Arg
  code : S
noncomputable def slotsOf (sc : Scope) : Sl := (sc.names.filter fun x => x.2 == .local || x.2 == .cell).map fun x => some x.1
noncomputable def ownOf (sc : Scope) : List Str := (sc.names.filter fun x => x.2 == .local || x.2 == .cell).map fun x => x.1
noncomputable def scopeChk (sc : Scope) : Bool := sc.kind == .function && !sc.isGenerator && !sc.isCoroutine && decide (sc.names.map (·.1)).Nodup
noncomputable def fdChk (fd : FuncData) (ps : List Arg) : Bool :=
  scopeChk fd.scope && decide (ps.map (·.arg)).Nodup && (fd.defaults == .none) && (fd.kwdefaults == .none) && (fd.globals == mainGlobals) && (fd.builtins == builtinsNs) &&
  ((slotsOf fd.scope).take ps.length == ps.map fun a => some a.arg)
noncomputable def cloChk (K : Frag) (fd : FuncData) : Bool :=
  (fd.closure.isEmpty && fd.scope.names.all (fun x => x.2 != .free)) ||
  (fd.scope.names.all (fun x => x.2 != .cell && (x.2 != .free || (fd.closure.lookup x.1).isSome)) && fd.closure.all (fun x => (K.lookup x.2).isSome && fd.scope.names.lookup x.1 == some .free) && decide (fd.closure.map (·.2)).Nodup)
structure FnOK (c : Cx) (f : Fn) : Prop where
  look : c.K.lookup f.addr = some f.obj
  data : f.obj.data = .func f.fd
  body : f.fd.body = .stmts f.body
  params : f.fd.params = ⟨[], f.ps, none, [], [], none, []⟩
  code : codeIn c.K f.fd.code f.fd.qualname = true
  chk : fdChk f.fd f.ps = true
  clo : cloChk c.K f.fd = true
end Mine
end
section
open PySem PySem.W PyProof.Rows
set_option tactic.hygienic false
namespace Mine
theorem bindL_other {ko : Str → Option NameKind} : ∀ {bs : List (Str × Value)} {m : Str → Option Value} {n : Str}, n ∉ bs.map (·.1) → bindL ko bs m n = m n
  | [], m, n, _ => rfl
  | (k, v) :: r, m, n, h => by
    simp only [List.map_cons, List.mem_cons, not_or] at h
    unfold bindL
    rw [bindL_other h.2]
    split
    · exact if_neg h.1
    · rfl
theorem bindL_at {ko : Str → Option NameKind} : ∀ {bs : List (Str × Value)} {m : Str → Option Value} {n : Str} {v : Value}, (bs.map (·.1)).Nodup → (n, v) ∈ bs → ko n = some .local → bindL ko bs m n = some v
  | (k, x) :: r, m, n, v, hn, hm, hk => by
    simp only [List.map_cons, List.nodup_cons] at hn
    unfold bindL
    rcases List.mem_cons.mp hm with e | hm
    · cases e
      rw [bindL_other hn.1, if_pos hk]; exact if_pos rfl
    · exact bindL_at hn.2 hm hk
theorem bindC_other {ko : Str → Option NameKind} : ∀ {bs : List (Str × Value)} {m : Str → Option Value} {n : Str}, n ∉ bs.map (·.1) → bindC ko bs m n = m n
  | [], m, n, _ => rfl
  | (k, v) :: r, m, n, h => by
    simp only [List.map_cons, List.mem_cons, not_or] at h
    unfold bindC
    rw [bindC_other h.2]
    split
    · rfl
    · exact if_neg h.1
theorem bindC_at {ko : Str → Option NameKind} : ∀ {bs : List (Str × Value)} {m : Str → Option Value} {n : Str} {v : Value}, (bs.map (·.1)).Nodup → (n, v) ∈ bs → ko n ≠ some .local → bindC ko bs m n = some v
  | (k, x) :: r, m, n, v, hn, hm, hk => by
    simp only [List.map_cons, List.nodup_cons] at hn
    unfold bindC
    rcases List.mem_cons.mp hm with e | hm
    · cases e
      rw [bindC_other hn.1, if_neg hk]; exact if_pos rfl
    · exact bindC_at hn.2 hm hk
theorem cellsFrom_keeps : ∀ {names : List (Str × NameKind)} {n : Nat} {acc : List (Str × Addr)} {x : Str}, (acc.lookup x).isSome = true → ((cellsFrom n names acc).lookup x).isSome = true
  | [], _, _, _, h => h
  | (name, kind) :: r, n, acc, x, h => by
    unfold cellsFrom
    split
    · refine cellsFrom_keeps ?_
      rw [List.lookup_cons]
      split
      · rfl
      · exact h
    · exact cellsFrom_keeps h
theorem cellsFrom_has : ∀ {names : List (Str × NameKind)} {n : Nat} {acc : List (Str × Addr)} {x : Str}, (x, NameKind.cell) ∈ names → ((cellsFrom n names acc).lookup x).isSome = true
  | (name, kind) :: r, n, acc, x, h => by
    unfold cellsFrom
    rcases List.mem_cons.mp h with e | h
    · cases e
      simp only [beq_self_eq_true, if_true]
      exact cellsFrom_keeps (by simp)
    · split
      · exact cellsFrom_has h
      · exact cellsFrom_has h
theorem lookup_mem {α : Type} : ∀ {l : List (Str × α)} {n : Str} {c : α}, l.lookup n = some c → (n, c) ∈ l := mem_of_lookup
section
variable {c : Cx} {B : Bs} {H : AH} {s : Shared} {A : Around} {E : Value → Shared → Prop} {Q : V → AH → Prop}
noncomputable def m0 (sc : Scope) (vals : List V) : List V := vals ++ List.replicate ((slotsOf sc).length - vals.length) .un
theorem read_param {fd : FuncData} {ps : List Arg} (hc : fdChk fd ps = true) {vals : List Value} (hl : vals.length = ps.length) {i : Nat} {n : Str} {v : V} (h1 : (slotsOf fd.scope)[i]? = some (some n))
    (h2 : (m0 fd.scope (vals.map av))[i]? = some v) (h3 : v ≠ .un) : ∃ x, (n, x) ∈ (ps.map (·.arg)).zip vals ∧ av x = v := by
  unfold fdChk at hc
  simp only [Bool.and_eq_true, beq_iff_eq] at hc
  have ht := hc.2
  unfold m0 at h2
  rw [List.getElem?_append] at h2
  split at h2
  · rename_i hi
    rw [List.length_map] at hi
    rw [List.getElem?_map] at h2
    obtain ⟨x, hx, rfl⟩ := Option.map_eq_some_iff.mp h2
    refine ⟨x, ?_, rfl⟩
    have e : ((slotsOf fd.scope).take ps.length)[i]? = some (some n) := by rw [List.getElem?_take, if_pos (by lia)]; exact h1
    rw [ht, List.getElem?_map] at e
    obtain ⟨a, ha, hn⟩ := Option.map_eq_some_iff.mp e
    have hz : ((ps.map (·.arg)).zip vals)[i]? = some (n, x) := by
      rw [List.getElem?_zip_eq_some]
      exact ⟨by rw [List.getElem?_map, ha]; simpa using hn, hx⟩
    exact List.mem_of_getElem? hz
  · rename_i hi
    exfalso
    have := List.mem_of_getElem? h2
    exact h3 (List.eq_of_mem_replicate this)
theorem own_of {sc : Scope} {n : Str} (h : n ∈ ownOf sc) : ∃ k, (n, k) ∈ sc.names ∧ (k = .local ∨ k = .cell) := by
  unfold ownOf at h
  obtain ⟨x, hx, rfl⟩ := List.mem_map.mp h
  obtain ⟨h1, h2⟩ := List.mem_filter.mp hx
  simp only [Bool.or_eq_true, beq_iff_eq] at h2
  exact ⟨x.2, h1, h2⟩
theorem lookup_of_mem {α : Type} {l : List (Str × α)} (hn : (l.map (·.1)).Nodup) {n : Str} {k : α} (h : (n, k) ∈ l) : l.lookup n = some k := by
  induction l with
  | nil => cases h
  | cons x r ih =>
    obtain ⟨a, b⟩ := x
    simp only [List.map_cons, List.nodup_cons] at hn
    rw [List.lookup_cons]
    rcases List.mem_cons.mp h with e | h
    · cases e; simp
    · have : (n == a) = false := beq_eq_false_iff_ne.mpr fun e => hn.1 (e ▸ List.mem_map.mpr ⟨_, h, rfl⟩)
      rw [this]
      exact ih hn.2 h
theorem code_fn (G : Gd c) {f : Fn} (F : FnOK c f) (hroom : A.depth < recursionLimit) {vals : List Value} (R : Hp c B H s) (hl : vals.length = f.ps.length)
    (h : (∀ env' s₁, env'.scope = f.fd.scope → Rep c (baseOf s.heap H) env' (ownOf f.fd.scope) (slotsOf f.fd.scope) (m0 f.fd.scope (vals.map av)) H s₁ →
      wpAny (model c.prog c.w) (A.deeper env') (execs f.body env') (fun fl s' => PH c (baseOf s.heap H) Q (match fl with | .ret v => v | _ => .none) s') (fun _ _ => False) s₁) ∨
      (f.fd.closure.isEmpty = false ∧ ∀ s₁, Rep c (baseOf s.heap H) (callEnv f.fd s.heap.objs.size f.addr) (ownOf f.fd.scope) (slotsOf f.fd.scope) (m0 f.fd.scope (vals.map av)) H s₁ →
      _root_.PySem.wpAt (model c.prog c.w) (A.deeper (callEnv f.fd s.heap.objs.size f.addr)) (.func f.body (callEnv f.fd s.heap.objs.size f.addr)) (execs f.body (callEnv f.fd s.heap.objs.size f.addr)) (fun fl s' => PH c (baseOf s.heap H) Q (match fl with | .ret v => v | _ => .none) s') (fun _ _ => False) s₁)) :
    codeAny (model c.prog c.w) A (.call (.ref f.addr) ⟨vals, []⟩) (fun r s' => ∃ v, r = .ok (.ret v) ∧ PH c B Q v s') s := by
  have X := R.kin G
  have hc := F.chk
  have hc' := hc
  unfold fdChk at hc'
  simp only [Bool.and_eq_true, beq_iff_eq, decide_eq_true_eq] at hc'
  refine nn fun hC => ?_
  obtain ⟨⟨⟨⟨⟨⟨c1, c2⟩, c3⟩, c4⟩, c5⟩, c6⟩, c7⟩ := hc'
  refine hC ?_
  unfold scopeChk at c1
  simp only [Bool.and_eq_true, beq_iff_eq, decide_eq_true_eq, Bool.not_eq_true'] at c1
  refine nn fun hC => ?_
  obtain ⟨⟨⟨d1, d2⟩, d3⟩, d4⟩ := c1
  refine hC ?_
  have hbind := bind_plain F.params c3 c4 c2 hl
  have hkeys : ((f.ps.map (·.arg)).zip vals).map (·.1) = f.ps.map (·.arg) := by
    rw [List.map_fst_zip]; simp [hl]
  have hB : ∀ a, s.heap.get? a = none → baseOf s.heap H a = none ∧ H a = none := fun a ha => by
    have := R.fresh ha
    exact ⟨by unfold baseOf; rw [this]; exact ha, this⟩
  have hW := R.whole
  have pslot : ∀ n ∈ f.ps.map (·.arg), n ∈ ownOf f.fd.scope := fun n hn => by
    have : (some n) ∈ (slotsOf f.fd.scope).take f.ps.length := by
      rw [c7]; obtain ⟨a, ha, rfl⟩ := List.mem_map.mp hn; exact List.mem_map.mpr ⟨a, ha, rfl⟩
    have := List.mem_of_mem_take this
    unfold slotsOf at this
    obtain ⟨x, hx, e⟩ := List.mem_map.mp this
    unfold ownOf
    cases e
    exact List.mem_map.mpr ⟨x, hx, rfl⟩
  have pkind : ∀ x ∈ (f.ps.map (·.arg)).zip vals, f.fd.scope.names.lookup x.1 = some .local ∨ f.fd.scope.names.lookup x.1 = some .cell := fun x hx => by
    have hx' : x.1 ∈ f.ps.map (·.arg) := by rw [← hkeys]; exact List.mem_map.mpr ⟨x, hx, rfl⟩
    obtain ⟨k, h1, h2⟩ := own_of (pslot _ hx')
    rw [lookup_of_mem d4 h1]
    rcases h2 with rfl | rfl
    · exact .inl rfl
    · exact .inr rfl
  have fin : ∀ (env' : Env) (s₁ : Shared) (RR : Result → Shared → Prop), (∀ env' s₁, env'.scope = f.fd.scope → Rep c (baseOf s.heap H) env' (ownOf f.fd.scope) (slotsOf f.fd.scope) (m0 f.fd.scope (vals.map av)) H s₁ →
      wpAny (model c.prog c.w) (A.deeper env') (execs f.body env') (fun fl s' => PH c (baseOf s.heap H) Q (match fl with | .ret v => v | _ => .none) s') (fun _ _ => False) s₁) → (∀ v s', PH c (baseOf s.heap H) Q v s' → RR (.ok (.ret v)) s') →
      env'.scope = f.fd.scope → Rep c (baseOf s.heap H) env' (ownOf f.fd.scope) (slotsOf f.fd.scope) (m0 f.fd.scope (vals.map av)) H s₁ →
      wpAny (model c.prog c.w) (A.deeper env') (execs f.body env') (fun fl s' => RR (.ok (.ret (match fl with | .ret v => v | _ => .none))) s')
        (fun e s' => wpAny (model c.prog c.w) (A.deeper env') (leaving env' e) (fun _ s'' => RR (.error e) s'') (fun e' s'' => RR (.error e') s'') s') s₁ :=
    fun env' s₁ RR h hR he hr => wpAny_mono (h env' s₁ he hr) (fun fl s' x => hR _ _ x) fun _ _ x => x.elim
  have hlen0 : (m0 f.fd.scope (vals.map av)).length = (slotsOf f.fd.scope).length := by
    have := congrArg List.length c7
    rw [List.length_take, List.length_map] at this
    unfold m0
    rw [List.length_append, List.length_replicate, List.length_map]
    lia
  have nd : ∀ (i j : Nat) (n : Str), (slotsOf f.fd.scope)[i]? = some (some n) → (slotsOf f.fd.scope)[j]? = some (some n) → i = j := fun i j n h1 h2 => by
    have hn : (slotsOf f.fd.scope).Nodup := by
      have e : slotsOf f.fd.scope = ((f.fd.scope.names.filter fun x => x.2 == .local || x.2 == .cell).map (·.1)).map some := by unfold slotsOf; rw [List.map_map]; rfl
      rw [e]
      exact List.Pairwise.map _ (fun a b q z => q (Option.some.inj z)) (d4.sublist ((List.filter_sublist ..).map _))
    obtain ⟨a1, a2⟩ := List.getElem?_eq_some_iff.mp h1
    obtain ⟨b1, b2⟩ := List.getElem?_eq_some_iff.mp h2
    rcases Nat.lt_trichotomy i j with q | q | q
    · exact absurd (a2.trans b2.symm) (List.pairwise_iff_getElem.mp hn i j a1 b1 q)
    · exact q
    · exact absurd (b2.trans a2.symm) (List.pairwise_iff_getElem.mp hn j i b1 a1 q)
  have ownK : ∀ n, n ∈ ownOf f.fd.scope → f.fd.scope.names.lookup n = some .local ∨ f.fd.scope.names.lookup n = some .cell := fun n hn => by
    obtain ⟨k, h1, h2⟩ := own_of hn
    rw [lookup_of_mem d4 h1]
    rcases h2 with rfl | rfl
    · exact .inl rfl
    · exact .inr rfl
  have hRR : ∀ v s', PH c (baseOf s.heap H) Q v s' → (fun (r : Result) s' => ∃ v, r = .ok (.ret v) ∧ PH c B Q v s') (.ok (.ret v)) s' :=
    fun v s' ⟨H', x, y⟩ => ⟨v, rfl, H', R.back x, y⟩
  have hclo := F.clo
  unfold cloChk at hclo
  rw [Bool.or_eq_true] at hclo
  rcases hclo with hclo | hclo
  · simp only [Bool.and_eq_true, List.isEmpty_iff, List.all_eq_true, bne_iff_ne, ne_eq] at hclo
    obtain ⟨k1, k2⟩ := hclo
    rcases h with h | h
    rotate_left
    · rw [k1] at h; exact Bool.noConfusion h.1
    have nofree : ∀ n, f.fd.scope.names.lookup n ≠ some .free := fun n hn => k2 _ (lookup_mem hn) rfl
    refine codeAny_call_cells hroom (X _ _ F.look) F.data ((G.nolimit).keeps R.h0) (codeRec_of X F.code) F.body hbind k1 (fun x hx => ?_) (fun s₁ I => ?_) d3 d2 d1
    · rcases pkind x hx with e | e
      · exact .inl e
      · exact .inr ⟨e, cellsFrom_has (lookup_mem e)⟩
    · refine fin (callEnvC f.fd s.heap.objs.size f.addr) _ (fun (r : Result) s' => ∃ v, r = .ok (.ret v) ∧ PH c B Q v s') h hRR rfl ?_
      obtain ⟨⟨⟨h', tk, rfl⟩, hns, hkp, hfr⟩, hcell, hap, hab⟩ := I
      have up : ∀ n a, (callEnvC f.fd s.heap.objs.size f.addr).cells.lookup n = some a → s.heap.get? a = none := fun n a e => by
        have := hab n a (mem_of_lookup e)
        cases q : s.heap.get? a with
        | none => rfl
        | some o =>
          exact absurd (Nat.lt_trans this (Heap.lt_size q)) (Nat.lt_irrefl s.heap.objs.size)
      have upL : s.heap.get? (callEnvC f.fd s.heap.objs.size f.addr).locals = none := freshA s
      refine ⟨hW.grow hkp, ⟨⟨d1, c5, c6, fun n n' a e e' => name_of_addr hap (mem_of_lookup e) (mem_of_lookup e'), fun n a e => ?_, fun n hk => ?_⟩, hlen0, nd, ownK, ⟨_, hns⟩, (hB _ upL).1, (hB _ upL).2,
        fun n a e => (hB _ (up n a e)).2, fun n a e => let ⟨o, ho, _⟩ := hcell n a e; ⟨o, ho⟩, fun n a _ e => (hB _ (up n a e)).1, fun n hn hk => ?_, fun i n v h1 h2 h3 => ?_⟩⟩
      · have := hab n a (mem_of_lookup e); exact Ne.symm (Nat.ne_of_lt this)
      · rcases kd_cel.mp hk with e | e
        · exact Option.isSome_iff_exists.mp (cellsFrom_has (n := s.heap.objs.size + 1) (acc := []) (lookup_mem e))
        · exact absurd e (nofree n)
      · rcases kd_cel.mp hk with e | e
        · obtain ⟨a, ha⟩ := Option.isSome_iff_exists.mp (cellsFrom_has (n := s.heap.objs.size + 1) (acc := []) (lookup_mem e))
          exact ⟨a, _, ha, hcell n a ha⟩
        · exact absurd e (nofree n)
      · obtain ⟨x, hx, rfl⟩ := read_param hc hl h1 h2 h3
        rcases pkind _ hx with e | e
        · exact .loc (kd_loc.mpr e) x _ hns (bindL_at (by rw [hkeys]; exact c2) hx e) rfl
        · obtain ⟨a, ha⟩ := Option.isSome_iff_exists.mp (cellsFrom_has (n := s.heap.objs.size + 1) (acc := []) (lookup_mem e))
          have hv := hcell n a ha
          have e' : (callEnvC f.fd s.heap.objs.size f.addr).kindOf n = some .cell := e
          rw [bindC_at (by rw [hkeys]; exact c2) hx (by rw [e']; simp)] at hv
          exact .cel (kd_cel.mpr (.inl e)) a x ha hv rfl
  · simp only [Bool.and_eq_true, List.all_eq_true, bne_iff_ne, ne_eq, beq_iff_eq, decide_eq_true_eq] at hclo
    obtain ⟨⟨k1, k2⟩, k3⟩ := hclo
    have nocell : ∀ n, f.fd.scope.names.lookup n ≠ some .cell := fun n hn => (k1 _ (lookup_mem hn)).1 rfl
    have pl : ∀ x ∈ (f.ps.map (·.arg)).zip vals, f.fd.scope.names.lookup x.1 = some .local := fun x hx => (pkind x hx).resolve_right (nocell _)
    refine ks_codeAny_call_defAt hroom (X _ _ F.look) F.data ((G.nolimit).keeps R.h0) (codeRec_of X F.code) F.body (BindsTo.of_eq hbind) (fun x hx => (k1 x hx).1) pl (fun h₀ hns hkp => ?_) d3 d2 d1
    have both : Rep c (baseOf s.heap H) (callEnv f.fd s.heap.objs.size f.addr) (ownOf f.fd.scope) (slotsOf f.fd.scope) (m0 f.fd.scope (vals.map av)) H { s with heap := h₀, toks := s.toks + ((f.ps.map (·.arg)).zip vals).length } →
        _root_.PySem.wpAt (model c.prog c.w) (A.deeper (callEnv f.fd s.heap.objs.size f.addr)) (.func f.body (callEnv f.fd s.heap.objs.size f.addr)) (execs f.body (callEnv f.fd s.heap.objs.size f.addr))
          (fun fl s' => ∃ v, (.ok (.ret (match fl with | .ret v => v | _ => .none)) : Result) = .ok (.ret v) ∧ PH c B Q v s')
          (fun e s' => wpAny (model c.prog c.w) (A.deeper (callEnv f.fd s.heap.objs.size f.addr)) (leaving (callEnv f.fd s.heap.objs.size f.addr) e) (fun _ s'' => ∃ v, (.error e : Result) = .ok (.ret v) ∧ PH c B Q v s'') (fun e' s'' => ∃ v, (.error e' : Result) = .ok (.ret v) ∧ PH c B Q v s'') s')
          { s with heap := h₀, toks := s.toks + ((f.ps.map (·.arg)).zip vals).length } := fun Re => by
      rcases h with h | h
      · exact wpAt_of_wpAny (fin (callEnv f.fd s.heap.objs.size f.addr) _ (fun (r : Result) s' => ∃ v, r = .ok (.ret v) ∧ PH c B Q v s') h hRR rfl Re)
      · exact ks_wpAt_mono (h.2 _ Re) (fun fl s' x => hRR _ _ x) fun _ _ x => x.elim
    refine both ?_
    have inK : ∀ n a, (callEnv f.fd s.heap.objs.size f.addr).cells.lookup n = some a → ∃ o, c.h₀.get? a = some o := fun n a e => by
      obtain ⟨o, ho⟩ := Option.isSome_iff_exists.mp (k2 _ (mem_of_lookup e)).1
      exact ⟨o, G.kin _ _ ho⟩
    have notown : ∀ n a, n ∈ ownOf f.fd.scope → (callEnv f.fd s.heap.objs.size f.addr).cells.lookup n = some a → False := fun n a hn e => by
      obtain ⟨k, h1, h2⟩ := own_of hn
      have e1 := (k2 _ (mem_of_lookup e)).2
      simp only at e1
      rw [lookup_of_mem d4 h1] at e1
      cases e1
      rcases h2 with h2 | h2 <;> cases h2
    have upL : s.heap.get? (callEnv f.fd s.heap.objs.size f.addr).locals = none := freshA s
    have hinj : ∀ {l : List (Str × Addr)} {n n' : Str} {a : Addr}, (l.map (·.2)).Nodup → (n, a) ∈ l → (n', a) ∈ l → n = n' := by
      intro l
      induction l with
      | nil => intro n n' a _ h _; cases h
      | cons x r ih =>
        intro n n' a hn h h'
        simp only [List.map_cons, List.nodup_cons] at hn
        rcases List.mem_cons.mp h with e | h <;> rcases List.mem_cons.mp h' with e' | h'
        · rw [← e'] at e; exact (Prod.mk.inj e).1
        · exact absurd (List.mem_map.mpr ⟨_, h', by rw [← e]⟩) hn.1
        · exact absurd (List.mem_map.mpr ⟨_, h, by rw [← e']⟩) hn.1
        · exact ih hn.2 h h'
    refine ⟨hW.grow hkp, ⟨⟨d1, c5, c6, fun n n' a e e' => hinj k3 (mem_of_lookup e) (mem_of_lookup e'), fun n a e => ?_, fun n hk => ?_⟩, hlen0, nd, ownK, ⟨_, hns⟩, (hB _ upL).1, (hB _ upL).2,
      fun n a e => ?_, fun n a e => ?_, fun n a hn e => (notown n a hn e).elim, fun n hn hk => ?_, fun i n v h1 h2 h3 => ?_⟩⟩
    · obtain ⟨o, ho⟩ := inK n a e
      rintro rfl
      rw [R.h0 _ _ ho] at upL; cases upL
    · rcases kd_cel.mp hk with e | e
      · exact absurd e (nocell n)
      · have := (k1 _ (lookup_mem e)).2
        simp only [not_true_eq_false, false_or] at this
        exact Option.isSome_iff_exists.mp this
    · obtain ⟨o, ho⟩ := inK n a e
      cases q : H a with
      | none => rfl
      | some y => have := R.apart _ _ q; rw [R.base _ _ ho] at this; cases this
    · obtain ⟨o, ho⟩ := inK n a e
      exact ⟨o, hkp _ _ (R.h0 _ _ ho)⟩
    · obtain ⟨k, h1, h2⟩ := own_of hn
      have e1 := lookup_of_mem d4 h1
      rcases h2 with rfl | rfl
      · have := kd_loc.mpr e1
        rw [show (callEnv f.fd s.heap.objs.size f.addr).scope = f.fd.scope from rfl, this] at hk; cases hk
      · exact absurd e1 (nocell n)
    · obtain ⟨x, hx, rfl⟩ := read_param hc hl h1 h2 h3
      refine .loc (kd_loc.mpr (pl _ hx)) x _ hns ?_ rfl
      have hn : (((f.ps.map (·.arg)).zip vals).reverse.map (·.1)).Nodup := by rw [List.map_reverse, hkeys]; exact (List.reverse_perm _).nodup_iff.mpr c2
      exact lookup_of_mem hn (List.mem_reverse.mpr hx)
end
end Mine
end
section
open PySem PySem.W PyProof.Rows
set_option tactic.hygienic false
namespace Mine
section
variable {c : Cx} {B : Bs} {env : Env} {own : List Str} {sl : Sl} {m : List V} {H : AH} {s : Shared} {A : Around} {E : Value → Shared → Prop}
theorem slot_spec {n : Str} {i : Nat} (h : slot sl n = some i) : sl[i]? = some (some n) ∧ (n == ("__classdict__" : Str)) = false ∧ (n == ("__debug__" : Str)) = false := by
  unfold slot at h
  split at h
  · cases h
  · rename_i q
    rw [Bool.or_eq_true, not_or] at q
    refine ⟨?_, Bool.eq_false_iff.mpr q.1, Bool.eq_false_iff.mpr q.2⟩
    unfold List.idxOf? at h
    rw [List.findIdx?_eq_some_iff_getElem] at h
    obtain ⟨a, b, _⟩ := h
    rw [List.getElem?_eq_getElem a]
    exact congrArg some (beq_iff_eq.mp b)
theorem load_ok {n : Str} {i : Nat} {v : V} {Q : Value → Shared → Prop} (R : Rep c B env own sl m H s) (hs : slot sl n = some i) (hv : m[i]? = some v) (hu : v ≠ .un) (q : ∀ x, av x = v → Q x s) :
    wpAny (model c.prog c.w) A (loadName env n) Q E s := by
  obtain ⟨h1, h2, h3⟩ := slot_spec hs
  cases R.fm.read i n v h1 hv hu with
  | loc e x mm a b d =>
    exact wpAny_loadName_local R.fm.eok.kind (kd_loc.mp e) a b (q x d)
  | cel e cc x a b d =>
    rcases kd_cel.mp e with k | k
    · exact wpAny_loadName_cell R.fm.eok.kind k a b (q x d)
    · exact wpAny_loadName_free R.fm.eok.kind k a b (q x d) h2
theorem name_ok {n : Str} {pos : Pos} {i : Nat} {v : V} {Q : Value → Shared → Prop} (R : Rep c B env own sl m H s) (hs : slot sl n = some i) (hv : m[i]? = some v) (hu : v ≠ .un) (q : ∀ x, av x = v → Q x s) :
    wpAny (model c.prog c.w) A (eval (.Name n pos) env) Q E s :=
  wpAny_Name (load_ok R hs hv hu q) (slot_spec hs).2.2
theorem store_at {n : Str} {i : Nat} {x : Value} {Q : Unit → Shared → Prop} (R : Rep c B env own sl m H s) (h1 : sl[i]? = some (some n)) (ho : n ∈ own)
    (q : ∀ s', Rep c B env own sl (m.set i (av x)) H s' → Q () s') : wpAny (model c.prog c.w) A (bindName env n x) Q E s := by
  have hk := R.fm.eok.kind
  unfold bindName
  refine wpAny_bind (wpAny_holding (wpAny_point (wpAny_bind ?_)))
  have other : ∀ (j : Nat) (n' : Str) (v : V), sl[j]? = some (some n') → (m.set i (av x))[j]? = some v → v ≠ .un → (j = i ∧ n' = n ∧ v = av x) ∨ (n' ≠ n ∧ m[j]? = some v) := fun j n' v a b d => by
    by_cases hj : j = i
    · subst hj
      rw [h1] at a
      cases a
      rw [List.getElem?_set] at b
      split at b
      · split at b
        · cases b; exact .inl ⟨rfl, rfl, rfl⟩
        · cases b
      · rename_i z; exact absurd rfl z
    · rw [List.getElem?_set_ne (Ne.symm hj)] at b
      refine .inr ⟨?_, b⟩
      rintro rfl
      exact hj (R.fm.nd _ _ _ a h1)
  rcases R.fm.ownK n ho with e | e
  · obtain ⟨mm, hn⟩ := R.fm.ns
    refine wpAny_storeName_local e hn (fun h' hn' hs' => wpAny_point (q _ ?_)) (by rw [hk]; rfl)
    have hL := R.fm.locH
    have hLB := R.fm.locB
    have cl : ∀ n' a, env.cells.lookup n' = some a → a ≠ env.locals := fun n' a z => R.fm.eok.loc n' a z
    refine ⟨⟨R.hp.gens, R.hp.base, fun b o z => (hs'.2 b (by rintro rfl; rw [hLB] at z; cases z)).trans (R.hp.keep b o z), fun a y z => (R.hp.real a y z).congr (hs'.2 a (by rintro rfl; rw [hL] at z; cases z)), R.hp.apart⟩, ?_⟩
    refine ⟨R.fm.eok, by rw [List.length_set]; exact R.fm.len, R.fm.nd, R.fm.ownK, ⟨_, hn'⟩, hLB, hL, R.fm.celH, fun n' a z => ?_, R.fm.celB, fun n' z1 z2 => ?_, fun j n' v a b d => ?_⟩
    · obtain ⟨o, ho⟩ := R.fm.celA n' a z
      exact ⟨o, (hs'.2 a (cl n' a z)).trans ho⟩
    · obtain ⟨a, v, z3, z4⟩ := R.fm.cell n' z1 z2
      exact ⟨a, v, z3, IsCell.keeps z4 (hs'.2 a (cl n' a z3))⟩
    · rcases other j n' v a b d with ⟨_, rfl, rfl⟩ | ⟨hne, b'⟩
      · exact .loc (kd_loc.mpr e) x _ hn' (if_pos rfl) rfl
      · cases R.fm.read j n' v a b' d with
        | loc e' y mm' p1 p2 p3 =>
          refine nn fun hC => ?_
          obtain ⟨o1, es1, ep1, g1, g2, g3, g4⟩ := p1
          obtain ⟨o2, es2, ep2, k1, k2, k3, k4⟩ := hn
          refine hC ?_
          rw [g1] at k1; cases k1
          rw [g2] at k2; cases k2
          refine .loc e' y _ hn' ?_ p3
          show (if n' = n then some x else mm n') = some y
          rw [if_neg hne, ← k4 n', g4 n']; exact p2
        | cel e' a' y p1 p2 p3 => exact .cel e' a' y p1 (IsCell.keeps p2 (hs'.2 a' (cl n' a' p1))) p3
  · have ek : kd env.scope n = .cel := kd_cel.mpr (.inl e)
    obtain ⟨cc, v0, hc, hv⟩ := R.fm.cell n ho ek
    have cH := R.fm.celH n cc hc
    have cB := R.fm.celB n cc ho hc
    have cL := R.fm.eok.loc n cc hc
    refine wpAny_storeName_cell hk e hc hv fun h' hc' hs' => wpAny_point (q _ ?_)
    refine ⟨⟨R.hp.gens, R.hp.base, fun b o z => (hs'.2 b (by rintro rfl; rw [cB] at z; cases z)).trans (R.hp.keep b o z), fun a y z => (R.hp.real a y z).congr (hs'.2 a (by rintro rfl; rw [cH] at z; cases z)), R.hp.apart⟩, ?_⟩
    refine ⟨R.fm.eok, by rw [List.length_set]; exact R.fm.len, R.fm.nd, R.fm.ownK, let ⟨mm, hn⟩ := R.fm.ns; ⟨mm, hn.sameBut hs' (Ne.symm cL)⟩, R.fm.locB, R.fm.locH, R.fm.celH, fun n' a z => ?_, R.fm.celB, fun n' z1 z2 => ?_, fun j n' v a b d => ?_⟩
    · by_cases hac : a = cc
      · subst hac; obtain ⟨o, ho, _⟩ := hc'; exact ⟨o, ho⟩
      · obtain ⟨o, ho⟩ := R.fm.celA n' a z
        exact ⟨o, (hs'.2 a hac).trans ho⟩
    · obtain ⟨a, v, z3, z4⟩ := R.fm.cell n' z1 z2
      by_cases hac : a = cc
      · subst hac; exact ⟨a, _, z3, hc'⟩
      · exact ⟨a, v, z3, IsCell.keeps z4 (hs'.2 a hac)⟩
    · rcases other j n' v a b d with ⟨_, rfl, rfl⟩ | ⟨hne, b'⟩
      · exact .cel ek cc x hc hc' rfl
      · have r := R.fm.read j n' v a b' d
        refine r.mono (hs'.2 _ (Ne.symm cL)) fun a' p1 => hs'.2 a' ?_
        rintro rfl
        exact hne (R.fm.eok.inj _ _ _ p1 hc)
theorem store_ok {n : Str} {i : Nat} {x : Value} {Q : Unit → Shared → Prop} (R : Rep c B env own sl m H s) (hs : slot sl n = some i) (ho : n ∈ own)
    (q : ∀ s', Rep c B env own sl (m.set i (av x)) H s' → Q () s') : wpAny (model c.prog c.w) A (bindName env n x) Q E s := store_at R (slot_spec hs).1 ho q
end
end Mine
end
section
open PySem PySem.W PyProof.Rows
namespace Mine
section
variable {c : Cx} {B : Bs} {env : Env} {own : List Str} {sl : Sl} {m : List V} {H : AH} {s : Shared} {A : Around} {E : Value → Shared → Prop}
structure Out (B : Bs) (env : Env) (H : AH) (a : Addr) : Prop where
  b : B a = none
  h : H a = none
  l : a ≠ env.locals
  c : ∀ n d, env.cells.lookup n = some d → d ≠ a
theorem Rep.out (R : Rep c B env own sl m H s) {a : Addr} (ha : s.heap.get? a = none) : Out B env H a := by
  refine ⟨R.hp.freshB ha, R.hp.fresh ha, ?_, fun n d e => ?_⟩
  · rintro rfl; obtain ⟨o, ho⟩ := R.fm.alive; rw [ha] at ho; cases ho
  · rintro rfl; obtain ⟨o, ho⟩ := R.fm.celA n d e; rw [ha] at ho; cases ho
theorem Rep.grow (R : Rep c B env own sl m H s) {h' : Heap} {t : Nat} (k : ∀ b o, s.heap.get? b = some o → h'.get? b = some o) : Rep c B env own sl m H { s with heap := h', toks := t } := by
  refine ⟨R.hp.grow k, R.fm.keep ?_ (fun n a e => ?_) R.fm.locH R.fm.celH⟩
  · obtain ⟨o, ho⟩ := R.fm.alive; exact (k _ _ ho).trans ho.symm
  · obtain ⟨o, ho⟩ := R.fm.celA n a e; exact (k _ _ ho).trans ho.symm
theorem Rep.away (R : Rep c B env own sl m H s) {a : Addr} {h' : Heap} {t : Nat} (o : Out B env H a) (hs : Heap.ExtBut a s.heap h') : Rep c B env own sl m H { s with heap := h', toks := t } := by
  refine ⟨⟨R.hp.gens, R.hp.base, fun b x e => hs b x (by rintro rfl; rw [o.b] at e; cases e) (R.hp.keep b x e), fun b x e => ?_, R.hp.apart⟩, R.fm.keep ?_ (fun n d e => ?_) R.fm.locH R.fm.celH⟩
  · obtain ⟨y, hy⟩ := (R.hp.real b x e).get
    exact (R.hp.real b x e).congr ((hs b y (by rintro rfl; rw [o.h] at e; cases e) hy).trans hy.symm)
  · obtain ⟨y, hy⟩ := R.fm.alive; exact (hs _ _ (Ne.symm o.l) hy).trans hy.symm
  · obtain ⟨y, hy⟩ := R.fm.celA n d e; exact (hs _ _ (o.c n d e) hy).trans hy.symm
noncomputable def hold (B : Bs) (h : Heap) (as : List Addr) : Bs := fun b => if b ∈ as then h.get? b else B b
theorem Rep.hold (R : Rep c B env own sl m H s) {as : List Addr} (o : ∀ a ∈ as, Out B env H a) : Rep c (hold B s.heap as) env own sl m H s := by
  refine ⟨⟨R.hp.gens, fun b x e => ?_, fun b x e => ?_, R.hp.real, fun a x e => ?_⟩, ⟨R.fm.eok, R.fm.len, R.fm.nd, R.fm.ownK, R.fm.ns, ?_, R.fm.locH, R.fm.celH, R.fm.celA, fun n d hn e => ?_, R.fm.cell, R.fm.read⟩⟩
  · unfold Mine.hold; split
    · exact R.hp.keep _ _ (R.hp.base _ _ e)
    · exact R.hp.base _ _ e
  · unfold Mine.hold at e; split at e
    · exact e
    · exact R.hp.keep _ _ e
  · unfold Mine.hold; split
    · rename_i q; have := (o _ q).h; rw [e] at this; cases this
    · exact R.hp.apart _ _ e
  · unfold Mine.hold; split
    · rename_i q; exact absurd rfl (o _ q).l
    · exact R.fm.locB
  · unfold Mine.hold; split
    · rename_i q; exact absurd rfl ((o _ q).c n d e)
    · exact R.fm.celB n d hn e
theorem Rep.unhold (R : Rep c B env own sl m H s) {as : List Addr} {own' : List Str} {sl' : Sl} {m' : List V} {H' : AH} {s' : Shared} (R' : Rep c (Mine.hold B s.heap as) env own' sl' m' H' s') (o : ∀ a ∈ as, Out B env H a) :
    Rep c B env own' sl' m' H' s' ∧ ∀ a ∈ as, ∀ x, s.heap.get? a = some x → s'.heap.get? a = some x ∧ Out B env H' a := by
  have inB : ∀ b x, B b = some x → Mine.hold B s.heap as b = some x := fun b x e => by
    unfold Mine.hold; split
    · rename_i q; rw [(o _ q).b] at e; cases e
    · exact e
  refine ⟨⟨⟨R'.hp.gens, R.hp.base, fun b x e => R'.hp.keep _ _ (inB _ _ e), R'.hp.real, fun a x e => ?_⟩, ⟨R'.fm.eok, R'.fm.len, R'.fm.nd, R'.fm.ownK, R'.fm.ns, R.fm.locB, R'.fm.locH, R'.fm.celH, R'.fm.celA, fun n d hn e => ?_, R'.fm.cell, R'.fm.read⟩⟩, fun a ha x e => ?_⟩
  · cases q : B a with
    | none => rfl
    | some y => have := R'.hp.apart _ _ e; rw [inB _ _ q] at this; cases this
  · cases q : B d with
    | none => rfl
    | some y => have := R'.fm.celB n d hn e; rw [inB _ _ q] at this; cases this
  · have hb : Mine.hold B s.heap as a = some x := by unfold Mine.hold; rw [if_pos ha]; exact e
    refine ⟨R'.hp.keep _ _ hb, (o a ha).b, ?_, (o a ha).l, (o a ha).c⟩
    cases q : H' a with
    | none => rfl
    | some y => have := R'.hp.apart _ _ q; rw [hb] at this; cases this
structure Iter (c : Cx) (A : Around) (it : Addr) (items : List V) (chk : AH → Prop) (St : Nat → Heap → Prop) : Prop where
  item : ∀ {i : Nat} {v : V} {s : Shared} {H : AH} {B : Bs} {Q : Option Value → Shared → Prop} {E : Value → Shared → Prop}, items[i]? = some v → St i s.heap → Hp c B H s → chk H →
    (∀ x h' tk, av x = v → St (i + 1) h' → Heap.SameBut it s.heap h' → Q (some x) { s with heap := h', toks := tk }) → wpAny (model c.prog c.w) A (pyNext (.ref it)) Q E s
  done : ∀ {s : Shared} {H : AH} {B : Bs} {Q : Option Value → Shared → Prop} {E : Value → Shared → Prop}, St items.length s.heap → Hp c B H s → chk H →
    (∀ h' tk, Heap.ExtBut it s.heap h' → Q none { s with heap := h', toks := tk }) → wpAny (model c.prog c.w) A (pyNext (.ref it)) Q E s
  frame : ∀ {i : Nat} {h h' : Heap}, St i h → h'.get? it = h.get? it → St i h'
  self : ∀ {i : Nat} {s : Shared} {Q : Value → Shared → Prop} {E : Value → Shared → Prop}, St i s.heap → Q (.ref it) s → wpAny (model c.prog c.w) A (pyIter (.ref it)) Q E s
  live : ∀ {i : Nat} {h : Heap}, St i h → ∃ o, h.get? it = some o
theorem Iter.list (hh : A.handled = none) {it a : Addr} {l : List V} : Iter c A it l (fun H => H.see a = some (.lst l)) (fun i h => h.IsListIter it a i) where
  item := fun {i v s H B Q E} hv st R ck k => by
    obtain ⟨xs, p, e1, e2⟩ := R.see ck
    obtain ⟨y, b1, b2⟩ := map_av_get e1 hv
    exact wpAny_pyNext_list_item st (plainL p) b1 fun h' st' hs => k y h' s.toks b2 st' hs
  done := fun {s H B Q E} st R ck k => by
    obtain ⟨xs, p, e1, e2⟩ := R.see ck
    refine wpAny_pyNext_list_end hh st (plainL p) ?_ fun h' he => k h' s.toks he
    rw [Array.getElem?_eq_none]; rw [map_av e1]; exact Nat.le_refl _
  frame := fun ⟨o, ho, r⟩ e => ⟨o, e.trans ho, r⟩
  self := fun st q => wpAny_pyIter_listiter st q
  live := fun ⟨o, ho, _⟩ => ⟨o, ho⟩
theorem Iter.tuple (hh : A.handled = none) {it a : Addr} {l : List V} : Iter c A it l (fun H => H.see a = some (.tup l)) (fun i h => h.IsTupleIter it a i) where
  item := fun {i v s H B Q E} hv st R ck k => by
    obtain ⟨xs, n, p, e1, e2⟩ := R.see ck
    obtain ⟨y, b1, b2⟩ := map_av_get e1 hv
    exact wpAny_pyNext_tuple_item st (tupI p) b1 fun h' st' hs => k y h' s.toks b2 st' hs
  done := fun {s H B Q E} st R ck k => by
    obtain ⟨xs, n, p, e1, e2⟩ := R.see ck
    refine wpAny_pyNext_tuple_end hh st (tupI p) ?_ fun h' he => k h' s.toks he
    rw [Array.getElem?_eq_none]; rw [map_av e1]; exact Nat.le_refl _
  frame := fun ⟨o, ho, r⟩ e => ⟨o, e.trans ho, r⟩
  self := fun st q => wpAny_pyIter_tupleiter st q
  live := fun ⟨o, ho, _⟩ => ⟨o, ho⟩
theorem Iter.dict (hh : A.handled = none) {it a : Addr} {es : List (Int × V)} {o : Obj} {kvs : List (Int × Value)} {ep : Nat} (ho : ∀ h : Heap, h.get? a = some o → h.DictAt (intKind c.prog c.w) a kvs ep) (he : kvs.map (fun e => (e.1, av e.2)) = es) :
    Iter c A it (keysOf es) (fun H => H a = some (.froz (.dct es) o)) (fun i h => h.IsKeyIter it a i kvs.length ep) where
  item := fun {i v s H B Q E} hv st R ck k => by
    have hm := ho _ (R.real _ _ ck).1
    unfold keysOf at hv
    rw [← he, List.map_map, List.getElem?_map] at hv
    obtain ⟨y, b1, b2⟩ := Option.map_eq_some_iff.mp hv
    refine wpAny_pyNext_dict_item st hm (k := y.1) (v := y.2) b1 fun key h' hk st' hs => k key h' s.toks ?_ st' hs
    obtain ⟨t, rfl⟩ := Value.isInt_shape hk
    exact b2
  done := fun {s H B Q E} st R ck k => by
    have hm := ho _ (R.real _ _ ck).1
    refine wpAny_pyNext_dict_end hh st hm ?_ fun h' he => k h' s.toks he
    rw [List.getElem?_eq_none]
    unfold keysOf; rw [← he]; simp
  frame := fun ⟨o, ho, r⟩ e => ⟨o, e.trans ho, r⟩
  self := fun st q => wpAny_pyIter_keyiter st q
  live := fun ⟨o, ho, _⟩ => ⟨o, ho⟩
theorem Iter.range (hh : A.handled = none) {it : Addr} {a b : Int} : Iter c A it (rngL a b) (fun _ => True) (fun i h => IsRangeIter h it (a + (i : Nat)) (((b - a).toNat : Int) - (i : Nat)) 1) where
  item := fun {i v s H B Q E} hv st R ck k => by
    unfold rngL at hv
    rw [List.getElem?_map] at hv
    obtain ⟨y, b1, b2⟩ := Option.map_eq_some_iff.mp hv
    obtain ⟨h1, h2⟩ := List.getElem?_eq_some_iff.mp b1
    rw [List.length_range] at h1
    simp only [List.getElem_range] at h2
    refine wpAny_pyNext_range_item st (by lia) fun h' st' hs => k _ h' _ ?_ ?_ hs
    · rw [← b2, ← h2]; rfl
    · have e1 : a + ((i + 1 : Nat) : Int) = a + (i : Nat) + 1 := by lia
      have e2 : ((b - a).toNat : Int) - ((i + 1 : Nat) : Int) = ((b - a).toNat : Int) - (i : Nat) - 1 := by lia
      rw [e1, e2]; exact st'
  done := fun {s H B Q E} st R ck k => by
    refine wpAny_pyNext_range_end hh st ?_ fun h' he => k h' s.toks he
    unfold rngL; simp
  frame := fun st e => e.trans st
  self := fun st q => wpAny_pyIter_rangeiter st q
  live := fun st => ⟨_, st⟩
noncomputable def Thaw (c : Cx) (chk : AH → Prop) (thaw : AH → AH) : Prop := (∀ B H s, Hp c B H s → chk H → Hp c B (thaw H) s) ∧ ∀ H a, chk H → H a = none → thaw H a = none
structure IterPost (c : Cx) (A : Around) (B : Bs) (env : Env) (own : List Str) (sl : Sl) (m : List V) (K : List V → (AH → Prop) → (AH → AH) → AH → Prop) (I : Addr) (items : List V) (chk : AH → Prop) (thaw : AH → AH) (H' : AH) (St : Nat → Heap → Prop) (s' : Shared) : Prop where
  it : Iter c A I items chk St
  st : St 0 s'.heap
  rep : Rep c B env own sl m H' s'
  out : Out B env H' I
  live : ∃ o, s'.heap.get? I = some o
  tw : Thaw c chk thaw
  k : K items chk thaw H'
noncomputable abbrev PI (c : Cx) (A : Around) (B : Bs) (env : Env) (own : List Str) (sl : Sl) (m : List V) (K : List V → (AH → Prop) → (AH → AH) → AH → Prop) (v : Value) (s' : Shared) : Prop :=
  Ex6 fun I items chk thaw H' St => v = .ref I ∧ IterPost c A B env own sl m K I items chk thaw H' St s'
theorem Hp.frz (R : Hp c B H s) {a : Addr} {x y : O} (e : H a = some x) (h : Real c.prog c.w c.C s.heap a x → Real c.prog c.w c.C s.heap a y) : Hp c B (H.set a y) s := by
  refine ⟨R.gens, R.base, R.keep, fun b z q => ?_, fun b z q => ?_⟩
  · unfold AH.set at q
    by_cases hb : b = a
    · subst hb; rw [if_pos rfl] at q; cases q; exact h (R.real _ _ e)
    · rw [if_neg hb] at q; exact R.real _ _ q
  · unfold AH.set at q
    by_cases hb : b = a
    · subst hb; exact R.apart _ _ e
    · rw [if_neg hb] at q; exact R.apart _ _ q
theorem o_iter (G : Gd c) (hh : A.handled = none) {v : Value} {K : List V → (AH → Prop) → (AH → AH) → AH → Prop} (R : Rep c B env own sl m H s) (h : itW H (av v) K) :
    wpAny (model c.prog c.w) A (pyIter v) (PI c A B env own sl m K) E s := by
  have kp : ∀ (o : Obj) b x, s.heap.get? b = some x → (s.heap.push o).get? b = some x := fun o b x e => Heap.get?_push_of_some _ e
  obtain ⟨a, hv, h⟩ := ifS_eq h
  obtain ⟨o, e, h⟩ := ifS_eq h
  rw [av_ref (V.r_eq hv)]
  clear hv
  have lst : ∀ {l : List V}, H.see a = some (.lst l) → K l (fun H => H.see a = some (.lst l)) (fun H => H) H → wpAny (model c.prog c.w) A (pyIter (.ref a)) (PI c A B env own sl m K) E s := fun e' h => by
    obtain ⟨xs, p, e1, e2⟩ := R.hp.see e'
    exact wpAny_pyIter_list (plainL p) ⟨_, _, _, _, H, _, rfl, Iter.list hh, ⟨_, Heap.get?_push_size _ rfl, rfl, rfl⟩, R.grow (t := s.toks) (kp _), R.out (freshA s), ⟨_, Heap.get?_push_size _ rfl⟩, ⟨fun B H s R _ => R, fun _ _ _ e => e⟩, h⟩
  cases o with
    | lst l => exact lst (congrArg (Option.map O.un) e) h
    | tup l =>
      obtain ⟨xs, n, p, e1, e2⟩ := R.hp.see (x := .tup l) (congrArg (Option.map O.un) e)
      exact wpAny_pyIter_tuple (tupI p) ⟨_, _, _, _, H, _, rfl, Iter.tuple hh, ⟨_, Heap.get?_push_size _ rfl, rfl, rfl⟩, R.grow (t := s.toks) (kp _), R.out (freshA s), ⟨_, Heap.get?_push_size _ rfl⟩, ⟨fun B H s R _ => R, fun _ _ _ e => e⟩, h⟩
    | dct es =>
      refine nn fun hC => ?_
      obtain ⟨kvs, p, e1, e2⟩ := R.hp.real _ _ e
      obtain ⟨ep, o, x1, ho, x2⟩ := p.dictAt
      refine hC ?_
      refine wpAny_pyIter_dict (R.hp.noMods G (see_of e)) ⟨o, x1, ho, x2⟩ ?_
      have R2 : Rep c B env own sl m (H.set a (.froz (.dct es) o)) s := R.back (R.hp.whole.frz e (fun q => ⟨ho, kvs, ⟨_, _, _, ho, x2⟩, e1, e2⟩))
      exact ⟨_, _, _, fun H => H.set a (.dct es), H.set a (.froz (.dct es) o), _, rfl, Iter.dict hh (fun h q => ⟨o, x1, q, x2⟩) e1, ⟨_, Heap.get?_push_size _ rfl, rfl, rfl⟩, R2.grow (t := s.toks) (kp _), R2.out (freshA s), ⟨_, Heap.get?_push_size _ rfl⟩, ⟨fun B H s R ck => R.frz ck And.right, fun H b ck z => (if_neg (by rintro rfl; rw [ck] at z; cases z)).trans z⟩, h o⟩
    | froz x o =>
      obtain ⟨l, q, h⟩ := ifS_eq h
      cases O.l_eq q
      exact lst (congrArg (Option.map O.un) e) h
    | _ => exact h.elim
theorem o_range_at (hh : A.handled = none) {r : Addr} {a b : Int} {t u v : Tok} {K : List V → (AH → Prop) → (AH → AH) → AH → Prop} (R : Rep c B env own sl m H s) (hr : IsRange s.heap r a b 1 t u v)
    (h1 : -big ≤ a) (h2 : a < big) (h3 : -big ≤ b) (h4 : b < big) (h : K (rngL a b) (fun _ => True) (fun H => H) H) :
    wpAny (model c.prog c.w) A (pyIter (.ref r)) (PI c A B env own sl m K) E s := by
  have hb : big = 2 ^ 62 := by decide
  refine wpAny_pyIter_range hr (small_one (by lia) (by lia) (by lia) (by lia)) ?_
  refine ⟨_, _, _, _, H, _, rfl, Iter.range hh (a := a) (b := b), ?_, R.grow (t := s.toks) (fun b x e => Heap.get?_push_of_some _ e), R.out (freshA s), ⟨_, Heap.get?_push_size _ rfl⟩, ⟨fun B H s R _ => R, fun _ _ _ e => e⟩, h⟩
  show IsRangeIter _ _ _ _ _
  rw [rangeSize_nat]
  have e1 : a + ((0 : Nat) : Int) = a := by lia
  have e2 : ((b - a).toNat : Int) - ((0 : Nat) : Int) = ((b - a).toNat : Int) := by lia
  rw [e1, e2]
  exact Heap.get?_push_size _ rfl
theorem o_range2 (hh : A.handled = none) {a b : Int} {t u : Tok} {K : List V → (AH → Prop) → (AH → AH) → AH → Prop} (R : Rep c B env own sl m H s)
    (h1 : -big ≤ a) (h2 : a < big) (h3 : -big ≤ b) (h4 : b < big) (h : K (rngL a b) (fun _ => True) (fun H => H) H) :
    wpAny (model c.prog c.w) A (call (.type "range") [.int a t, .int b u]) (fun v s' => wpAny (model c.prog c.w) A (pyIter v) (PI c A B env own sl m K) E s') E s :=
  call_range_2 (o_range_at hh (R.grow (fun b x e => Heap.get?_push_of_some _ e)) (IsRange.new ..) h1 h2 h3 h4 h)
theorem o_range1 (hh : A.handled = none) {b : Int} {u : Tok} {K : List V → (AH → Prop) → (AH → AH) → AH → Prop} (R : Rep c B env own sl m H s)
    (h3 : -big ≤ b) (h4 : b < big) (h : K (rngL 0 b) (fun _ => True) (fun H => H) H) :
    wpAny (model c.prog c.w) A (call (.type "range") [.int b u]) (fun v s' => wpAny (model c.prog c.w) A (pyIter v) (PI c A B env own sl m K) E s') E s :=
  call_range_1 (o_range_at hh (R.grow (fun b x e => Heap.get?_push_of_some _ e)) (IsRange.new ..) (by decide) (by decide) h3 h4 h)
end
end Mine
end
section
open PySem PySem.W PyProof.Rows
namespace Mine
noncomputable def cloFrom (env : Env) : List (Str × NameKind) → List (Str × Addr) → List (Str × Addr)
  | [], acc => acc
  | (n, k) :: r, acc => if k == .free then (match env.cells.lookup n with
      | some a => cloFrom env r ((n, a) :: acc)
      | none => cloFrom env r acc) else cloFrom env r acc
theorem closureFor_from {sc : Scope} {env : Env} (h : ∀ x ∈ sc.names, x.2 = .free → ∃ a, env.cells.lookup x.1 = some a) : closureFor sc env = pure (cloFrom env sc.names []) := by
  unfold closureFor
  have key : ∀ (names : List (Str × NameKind)) (acc : List (Str × Addr)), (∀ x ∈ names, x.2 = .free → ∃ a, env.cells.lookup x.1 = some a) →
      (forIn names acc fun x r => match x with
        | (name, kind) => if (kind == NameKind.free) = true then do let a ← cellOf env name; pure (ForInStep.yield ((name, a) :: r)) else pure (ForInStep.yield r) : Sem _) = pure (cloFrom env names acc) := by
    intro names
    induction names with
    | nil => intro acc _; rfl
    | cons x r ih =>
      intro acc h
      obtain ⟨n, k⟩ := x
      rw [List.forIn_cons]
      have hr := fun y hy => h y (List.mem_cons_of_mem _ hy)
      unfold cloFrom
      by_cases hk : (k == NameKind.free) = true
      · obtain ⟨a, ha⟩ := h (n, k) List.mem_cons_self (beq_iff_eq.mp hk)
        simp only at ha
        simp only [hk, if_true, cellOf, ha, pure_bind]
        exact ih _ hr
      · simp only [hk, Bool.false_eq_true, if_false, pure_bind]
        exact ih _ hr
  have := key sc.names [] h
  rw [bind_congr (fun _ => rfl)] 
  simpa using this
theorem cloFrom_lookup {env : Env} : ∀ {names : List (Str × NameKind)} {acc : List (Str × Addr)} {n : Str}, (∀ x ∈ names, x.2 = .free → ∃ a, env.cells.lookup x.1 = some a) →
    (cloFrom env names acc).lookup n = if (n, NameKind.free) ∈ names then env.cells.lookup n else acc.lookup n
  | [], acc, n, _ => by simp [cloFrom]
  | (k, kk) :: r, acc, n, h => by
    have hr := fun y hy => h y (List.mem_cons_of_mem _ hy)
    unfold cloFrom
    by_cases hk : (kk == NameKind.free) = true
    · obtain rfl := beq_iff_eq.mp hk
      obtain ⟨a, ha⟩ := h (k, .free) List.mem_cons_self rfl
      simp only at ha
      simp only [hk, if_true, ha]
      rw [cloFrom_lookup hr]
      by_cases hm : (n, NameKind.free) ∈ r
      · rw [if_pos hm, if_pos (List.mem_cons_of_mem _ hm)]
      · rw [if_neg hm, List.lookup_cons]
        by_cases hn : n = k
        · subst hn; simp [ha]
        · have : (n == k) = false := beq_eq_false_iff_ne.mpr hn
          rw [this, if_neg]
          simp [hn, hm]
    · rw [if_neg hk, cloFrom_lookup hr]
      have : ((n, NameKind.free) ∈ (k, kk) :: r) ↔ (n, NameKind.free) ∈ r := by
        constructor
        · intro hm
          rcases List.mem_cons.mp hm with e | hm
          · cases e; simp at hk
          · exact hm
        · exact List.mem_cons_of_mem _
      simp only [this]
theorem cloFrom_mem {env : Env} : ∀ {names : List (Str × NameKind)} {acc : List (Str × Addr)} {n : Str} {a : Addr}, (n, a) ∈ cloFrom env names acc → (n, a) ∈ acc ∨ ((n, NameKind.free) ∈ names ∧ env.cells.lookup n = some a)
  | [], acc, n, a, h => .inl h
  | (k, kk) :: r, acc, n, a, h => by
    unfold cloFrom at h
    split at h
    · rename_i hk
      obtain rfl := beq_iff_eq.mp hk
      split at h
      · rename_i b hb
        rcases cloFrom_mem h with h | h
        · rcases List.mem_cons.mp h with e | h
          · cases e; exact .inr ⟨List.mem_cons_self, hb⟩
          · exact .inl h
        · exact .inr ⟨List.mem_cons_of_mem _ h.1, h.2⟩
      · rcases cloFrom_mem h with h | h
        · exact .inl h
        · exact .inr ⟨List.mem_cons_of_mem _ h.1, h.2⟩
    · rcases cloFrom_mem h with h | h
      · exact .inl h
      · exact .inr ⟨List.mem_cons_of_mem _ h.1, h.2⟩
theorem cloFrom_apart {env : Env} (inj : ∀ n n' a, env.cells.lookup n = some a → env.cells.lookup n' = some a → n = n') : ∀ {names : List (Str × NameKind)} {acc : List (Str × Addr)}, (names.map (·.1)).Nodup →
    acc.Pairwise (fun x y => x.2 ≠ y.2) → (∀ p ∈ acc, env.cells.lookup p.1 = some p.2 ∧ p.1 ∉ names.map (·.1)) → (cloFrom env names acc).Pairwise (fun x y => x.2 ≠ y.2)
  | [], acc, _, h, _ => h
  | (k, kk) :: r, acc, hn, h, hp => by
    simp only [List.map_cons, List.nodup_cons] at hn
    have hp' : ∀ p ∈ acc, env.cells.lookup p.1 = some p.2 ∧ p.1 ∉ r.map (·.1) := fun p hm => ⟨(hp p hm).1, fun q => (hp p hm).2 (by simp only [List.map_cons]; exact List.mem_cons_of_mem _ q)⟩
    unfold cloFrom
    split
    · split
      · rename_i b hb
        refine cloFrom_apart inj hn.2 (List.pairwise_cons.mpr ⟨fun y hy e => ?_, h⟩) fun p hm => ?_
        · have := inj _ _ _ (hp y hy).1 (hb.trans (congrArg some e))
          exact (hp y hy).2 (by rw [this]; simp)
        · rcases List.mem_cons.mp hm with rfl | hm
          · exact ⟨hb, hn.1⟩
          · exact hp' p hm
      · exact cloFrom_apart inj hn.2 h hp'
    · exact cloFrom_apart inj hn.2 h hp'
theorem cellsFrom_other : ∀ {names : List (Str × NameKind)} {n : Nat} {acc : List (Str × Addr)} {x : Str}, (x, NameKind.cell) ∉ names → (cellsFrom n names acc).lookup x = acc.lookup x
  | [], _, _, _, _ => rfl
  | (k, kk) :: r, n, acc, x, h => by
    have hr : (x, NameKind.cell) ∉ r := fun q => h (List.mem_cons_of_mem _ q)
    unfold cellsFrom
    split
    · rename_i hk
      obtain rfl := beq_iff_eq.mp hk
      rw [cellsFrom_other hr, List.lookup_cons]
      have : (x == k) = false := beq_eq_false_iff_ne.mpr fun e => h (by rw [e]; exact List.mem_cons_self)
      rw [this]
    · exact cellsFrom_other hr
theorem cellsFrom_mem : ∀ {names : List (Str × NameKind)} {h : Heap} {acc : List (Str × Addr)} {x : Str} {a : Addr}, (x, a) ∈ cellsFrom h.objs.size names acc →
    (x, a) ∈ acc ∨ ((x, NameKind.cell) ∈ names ∧ h.objs.size ≤ a ∧ (pushCells h names).IsCell a none)
  | [], _, _, _, _, m => .inl m
  | (k, kk) :: r, h, acc, x, a, m => by
    unfold cellsFrom at m
    unfold pushCells
    split at m
    · rename_i hk
      obtain rfl := beq_iff_eq.mp hk
      rw [if_pos hk]
      have e : h.objs.size + 1 = (h.push { cls := .type "cell", data := .cell none }).objs.size := (Heap.size_push ..).symm
      rw [e] at m
      rcases cellsFrom_mem m with m | ⟨m1, m2, m3⟩
      · rcases List.mem_cons.mp m with e | m
        · cases e
          exact .inr ⟨List.mem_cons_self, Nat.le_refl _, _, pushCells_keeps _ _ _ _ (Heap.get?_push_size _ rfl), rfl⟩
        · exact .inl m
      · rw [Heap.size_push] at m2
        exact .inr ⟨List.mem_cons_of_mem _ m1, by lia, m3⟩
    · rename_i hk
      rw [if_neg hk]
      rcases cellsFrom_mem m with m | ⟨m1, m2, m3⟩
      · exact .inl m
      · exact .inr ⟨List.mem_cons_of_mem _ m1, m2, m3⟩
theorem cellsFrom_apart : ∀ {names : List (Str × NameKind)} {n : Nat} {acc : List (Str × Addr)}, acc.Pairwise (fun x y => x.2 ≠ y.2) → (∀ p ∈ acc, p.2 < n) → (cellsFrom n names acc).Pairwise (fun x y => x.2 ≠ y.2)
  | [], _, _, h, _ => h
  | (k, kk) :: r, n, acc, h, hp => by
    unfold cellsFrom
    split
    · refine cellsFrom_apart (List.pairwise_cons.mpr ⟨fun y hy e => ?_, h⟩) fun p hm => ?_
      · have h1 := hp y hy
        have h2 : y.2 = n := Eq.symm e
        have h3 : n < n := Nat.lt_of_le_of_lt (Nat.le_of_eq h2.symm) h1
        exact Nat.lt_irrefl n h3
      · rcases List.mem_cons.mp hm with rfl | hm
        · exact Nat.lt_succ_self _
        · exact Nat.lt_succ_of_lt (hp p hm)
    · exact cellsFrom_apart h hp
theorem lookup_relabel {env : Env} {sc : Scope} {n : Str} : (relabel sc env).names.lookup n = (sc.names.lookup n).map fun k => if (k == .free && env.scope.kind == .function && env.kindOf n == some .cell) then .cell else k := by
  unfold relabel
  dsimp only
  generalize sc.names = l
  induction l with
  | nil => rfl
  | cons x r ih =>
    obtain ⟨k, kk⟩ := x
    have e : (if (kk == NameKind.free && env.scope.kind == .function && env.kindOf k == some .cell) = true then (k, NameKind.cell) else (k, kk)) =
      (k, if (kk == NameKind.free && env.scope.kind == .function && env.kindOf k == some .cell) = true then NameKind.cell else kk) := by split <;> rfl
    simp only [List.map_cons]
    rw [e, List.lookup_cons, List.lookup_cons]
    by_cases hn : n = k
    · subst hn
      rw [beq_self_eq_true]; rfl
    · rw [beq_eq_false_iff_ne.mpr hn]; exact ih
theorem kd_relabel {env : Env} {sc : Scope} {n : Str} : kd (relabel sc env) n = kd sc n := by
  unfold kd
  rw [lookup_relabel]
  cases h : sc.names.lookup n with
  | none => rfl
  | some k =>
    simp only [Option.map_some]
    cases hb : (k == NameKind.free && env.scope.kind == .function && env.kindOf n == some .cell) with
    | false => simp
    | true =>
      simp only [Bool.and_eq_true, beq_iff_eq] at hb
      rw [hb.1.1]; rfl
theorem relabel_own {env : Env} {sc : Scope} {n : Str} (h : sc.names.lookup n = some .local ∨ sc.names.lookup n = some .cell) : (relabel sc env).names.lookup n = sc.names.lookup n := by
  rw [lookup_relabel]
  rcases h with h | h <;> rw [h] <;> rfl
theorem mask_at {sv : Scope} {sl : Sl} {i : Nat} {b : Bool} (h : (maskOf sv sl)[i]? = some b) : ∃ o, sl[i]? = some o ∧ (b = true → ∃ n, o = some n ∧ sv.names.lookup n = some .free) := by
  unfold maskOf at h
  rw [List.getElem?_map] at h
  obtain ⟨o, h1, h2⟩ := Option.map_eq_some_iff.mp h
  refine ⟨o, h1, fun hb => ?_⟩
  subst hb
  cases o with
  | none => cases h2
  | some n =>
    simp only [Bool.and_eq_true, beq_iff_eq] at h2
    exact ⟨n, rfl, h2.2⟩
theorem slIn_at {sv : Scope} {sl : Sl} {v : Str} {i : Nat} {n : Str} (h : (slIn sv sl v)[i]? = some (some n)) : (sl[i]? = some (some n) ∧ i < sl.length ∧ (maskOf sv sl)[i]? = some true ∧ sv.names.lookup n = some .free) ∨ (i = sl.length ∧ n = v) := by
  unfold slIn at h
  have hl : (List.zipWith (fun o b => if b = true then o else none) sl (maskOf sv sl)).length = sl.length := by
    rw [List.length_zipWith]; unfold maskOf; rw [List.length_map]; exact Nat.min_self _
  rw [List.getElem?_append] at h
  split at h
  · rename_i q
    rw [hl] at q
    rw [List.getElem?_zipWith] at h
    have e1 : sl[i]? = some sl[i] := List.getElem?_eq_getElem q
    rw [e1] at h
    cases e2 : (maskOf sv sl)[i]? with
    | none => rw [e2] at h; cases h
    | some b =>
      rw [e2] at h
      simp only [Option.some.injEq] at h
      cases b with
      | false => cases h
      | true =>
        obtain ⟨o, h1, h2⟩ := mask_at e2
        rw [e1] at h1
        cases h1
        obtain ⟨n', hn, hf⟩ := h2 rfl
        simp only [if_true] at h
        rw [h] at hn
        cases hn
        exact .inl ⟨by rw [e1, h], q, rfl, hf⟩
  · rename_i q
    rw [hl] at q h
    have : i - sl.length = 0 := by
      rcases Nat.eq_zero_or_pos (i - sl.length) with z | z
      · exact z
      · rw [List.getElem?_eq_none (show ([some v] : Sl).length ≤ i - sl.length from z)] at h; cases h
    rw [this] at h
    simp only [List.getElem?_cons_zero, Option.some.injEq] at h
    exact .inr ⟨by lia, h.symm⟩
theorem mskd_at {sv : Scope} {sl : Sl} {m : List V} {y : V} {i : Nat} {v : V} (hl : m.length = sl.length) (h : (mskd m (maskOf sv sl) ++ [y])[i]? = some v) (hi : i < sl.length) (hm : (maskOf sv sl)[i]? = some true) : m[i]? = some v := by
  unfold mskd at h
  have hll : (List.zipWith (fun v b => if b = true then v else V.un) m (maskOf sv sl)).length = sl.length := by
    rw [List.length_zipWith]; unfold maskOf; rw [List.length_map, hl]; exact Nat.min_self _
  rw [List.getElem?_append_left (by rw [hll]; exact hi), List.getElem?_zipWith, hm] at h
  cases e : m[i]? with
  | none => rw [e] at h; cases h
  | some x => rw [e] at h; simpa using h
section
variable {c : Cx} {B : Bs} {env : Env} {own : List Str} {sl : Sl} {m : List V} {H : AH} {s : Shared} {A : Around} {E : Value → Shared → Prop}
structure CompOK (sc sv : Scope) (v : Str) : Prop where
  kind : sv.kind = .function
  nd : (sv.names.map (·.1)).Nodup
  free : ∀ n, (n, NameKind.free) ∈ sv.names → kd sc n = .cel
  var : sv.names.lookup v = some .local ∨ sv.names.lookup v = some .cell
theorem compOK_of {sc sv : Scope} {v : Str} (h : compChk sc sv v = true) : CompOK sc sv v := by
  unfold compChk varOK at h
  simp only [Bool.and_eq_true, beq_iff_eq, decide_eq_true_eq, List.all_eq_true, Bool.or_eq_true, bne_iff_ne, ne_eq] at h
  obtain ⟨⟨⟨h1, h2⟩, h3⟩, h4⟩ := h
  exact ⟨h1, h2, fun n hn => by have := h3 _ hn; simpa using this, h4⟩
theorem comp_env {sc sv : Scope} {v : Str} {cl : List (Str × Addr)} {Q : Env → Shared → Prop} (C : CompOK sc sv v) (hsc : ∀ n, kd env.scope n = kd sc n) (R : Rep c B env own sl m H s) {B₁ : Bs} (R₁ : Hp c B₁ H s) (hcl : cl = cloFrom env sv.names [])
    (h : ∀ cells h', (∀ b o, s.heap.get? b = some o → h'.get? b = some o) → (∀ n a, cells.lookup n = some a → (∃ n', env.cells.lookup n' = some a) ∨ s.heap.get? a = none) →
      Rep c B₁ (compEnvC sv cells s.heap.objs.size env) (ownOf sv) (slIn sv sl v) (mskd m (maskOf sv sl) ++ [.un]) H { s with heap := h' } →
      Q { scope := sv, locals := s.heap.objs.size, globals := env.globals, cells := cells, qual := env.qual, func := none, code := env.code, frame := env.frame, builtins := env.builtins } { s with heap := h' }) :
    wpAny (model c.prog c.w) A (newFunctionEnv sv env.globals cl [] env.qual none .none (some env)) Q E s := by
  subst hcl
  simp only [newFunctionEnv, Option.isSome_some, if_true]
  refine wpAny_bind (wpAny_alloc ?_)
  refine wpAny_bind (wpAny_layCells _ (fun name kind cells => by cases hkc : kind == NameKind.cell <;> simp [hkc]) _ _ _ _ ?_)
  rw [show ({ s with heap := s.heap.push { cls := .type "dict", data := .dict #[] } } : Shared).heap.objs.size = s.heap.objs.size + 1 from Heap.size_push ..]
  rw [List.forIn_nil]
  have hk : ∀ b o, s.heap.get? b = some o → (pushCells (s.heap.push { cls := .type "dict", data := .dict #[] }) sv.names).get? b = some o := fun b o e => pushCells_keeps _ _ b o (Heap.get?_push_of_some _ e)
  have hcells : ∀ x ∈ sv.names, x.2 = .free → ∃ a, env.cells.lookup x.1 = some a := fun x hx e => R.fm.eok.has _ (by rw [hsc]; exact C.free x.1 (by rw [← e]; exact hx))
  have fresh : ∀ a, s.heap.objs.size ≤ a → s.heap.get? a = none := fun a ha => by
    cases e : s.heap.get? a with
    | none => rfl
    | some o' => exact absurd (Heap.lt_size e) (Nat.not_lt.mpr ha)
  have freshB : ∀ a, s.heap.objs.size ≤ a → B₁ a = none ∧ H a = none := fun a ha => ⟨R₁.freshB (fresh a ha), R₁.fresh (fresh a ha)⟩
  have cm : ∀ {x a}, (x, a) ∈ cellsFrom (s.heap.objs.size + 1) sv.names (cloFrom env sv.names []) → ((x, NameKind.free) ∈ sv.names ∧ env.cells.lookup x = some a) ∨
      ((x, NameKind.cell) ∈ sv.names ∧ s.heap.objs.size + 1 ≤ a ∧ (pushCells (s.heap.push { cls := .type "dict", data := .dict #[] }) sv.names).IsCell a none) := fun {x a} hm => by
    have e : s.heap.objs.size + 1 = (s.heap.push { cls := .type "dict", data := .dict #[] }).objs.size := (Heap.size_push ..).symm
    rw [e] at hm ⊢
    rcases cellsFrom_mem hm with hm | hm
    · rcases cloFrom_mem hm with hm | hm
      · cases hm
      · exact .inl hm
    · exact .inr hm
  have cl_lt : ∀ p ∈ cloFrom env sv.names [], p.2 < s.heap.objs.size + 1 := fun p hp => by
    rcases cloFrom_mem (n := p.1) (a := p.2) hp with hp | hp
    · cases hp
    · obtain ⟨o, ho⟩ := R.fm.celA _ _ hp.2
      exact Nat.lt_succ_of_lt (Heap.lt_size ho)
  have apart : (cellsFrom (s.heap.objs.size + 1) sv.names (cloFrom env sv.names [])).Pairwise (fun x y => x.2 ≠ y.2) :=
    cellsFrom_apart (cloFrom_apart R.fm.eok.inj C.nd List.Pairwise.nil (fun p hp => nomatch hp)) cl_lt
  have two : ∀ {n k k'}, (n, k) ∈ sv.names → (n, k') ∈ sv.names → k = k' := fun {n k k'} a b => by
    have := lookup_of_mem C.nd a
    rw [lookup_of_mem C.nd b] at this
    exact (Option.some.inj this).symm
  have free_look : ∀ {n a}, (n, NameKind.free) ∈ sv.names → env.cells.lookup n = some a → (cellsFrom (s.heap.objs.size + 1) sv.names (cloFrom env sv.names [])).lookup n = some a := fun {n a} hf ha => by
    rw [cellsFrom_other (fun q => by have := two hf q; cases this), cloFrom_lookup hcells, if_pos hf, ha]
  refine wpAny_bind (wpAny_pure (wpAny_pure (h _ _ (fun b o e => pushCells_keeps _ _ b o (Heap.get?_push_of_some _ e)) ?cells ?_)))
  case cells =>
    intro n a e
    rcases cm (mem_of_lookup e) with ⟨_, q⟩ | ⟨_, q, _⟩
    · exact .inl ⟨n, q⟩
    · exact .inr (fresh a (by lia))
  refine ⟨R₁.grow (t := s.toks) hk, ⟨⟨C.kind, R.fm.eok.glob, R.fm.eok.bi, fun n n' a e e' => name_of_addr apart (mem_of_lookup e) (mem_of_lookup e'), fun n a e => ?_, fun n hn => ?_⟩, ?_, fun i j n e e' => ?_, fun n hn => ?_,
    ⟨_, (Heap.Ns.new s.heap (.type "dict")).keeps (pushCells_keeps _ _)⟩, (freshB _ (Nat.le_refl _)).1, (freshB _ (Nat.le_refl _)).2, fun n a e => ?_, fun n a e => ?_, fun n a hn e => ?_, fun n hn hc => ?_, fun i n x e e' hx => ?_⟩⟩
  · show a ≠ s.heap.objs.size
    rcases cm (mem_of_lookup e) with ⟨_, q⟩ | ⟨_, q, _⟩
    · obtain ⟨o, ho⟩ := R.fm.celA _ _ q; exact Nat.ne_of_lt (Heap.lt_size ho)
    · have q' : s.heap.objs.size < a := q
      exact (Nat.ne_of_lt q').symm
  · show ∃ a, (cellsFrom (s.heap.objs.size + 1) sv.names (cloFrom env sv.names [])).lookup n = some a
    have hn' : kd sv n = .cel := kd_relabel.symm.trans hn
    rcases kd_cel.mp hn' with q | q
    · exact Option.isSome_iff_exists.mp (cellsFrom_has (lookup_mem q))
    · obtain ⟨a, ha⟩ := hcells _ (lookup_mem q) rfl
      exact ⟨a, free_look (lookup_mem q) ha⟩
  · unfold mskd slIn
    rw [List.length_append, List.length_append, List.length_zipWith, List.length_zipWith, R.fm.len]; rfl
  · rcases slIn_at e with ⟨a1, a2, a3, a4⟩ | ⟨a1, a2⟩ <;> rcases slIn_at e' with ⟨b1, b2, b3, b4⟩ | ⟨b1, b2⟩
    · exact R.fm.nd _ _ _ a1 b1
    · rcases C.var with q | q <;> (rw [← b2, a4] at q; cases q)
    · rcases C.var with q | q <;> (rw [← a2, b4] at q; cases q)
    · rw [a1, b1]
  · obtain ⟨k, h1, h2⟩ := own_of hn
    have e1 := lookup_of_mem C.nd h1
    have e2 : sv.names.lookup n = some .local ∨ sv.names.lookup n = some .cell := by rcases h2 with rfl | rfl; exact .inl e1; exact .inr e1
    show (relabel sv env).names.lookup n = _ ∨ (relabel sv env).names.lookup n = _
    rw [relabel_own e2]; exact e2
  · rcases cm (mem_of_lookup e) with ⟨_, q⟩ | ⟨_, q, _⟩
    · exact R.fm.celH _ _ q
    · exact (freshB _ (by lia)).2
  · rcases cm (mem_of_lookup e) with ⟨_, q⟩ | ⟨_, q, ⟨o, ho, _⟩⟩
    · obtain ⟨o, ho⟩ := R.fm.celA _ _ q; exact ⟨o, hk _ _ ho⟩
    · exact ⟨o, ho⟩
  · obtain ⟨k, h1, h2⟩ := own_of hn
    rcases cm (mem_of_lookup e) with ⟨q, _⟩ | ⟨_, q, _⟩
    · have := two q h1; subst this; rcases h2 with h2 | h2 <;> cases h2
    · exact (freshB _ (by lia)).1
  · obtain ⟨k, h1, h2⟩ := own_of hn
    have hc' : kd sv n = .cel := kd_relabel.symm.trans hc
    have hcell : (n, NameKind.cell) ∈ sv.names := by
      rcases h2 with rfl | rfl
      · rw [kd_loc.mpr (lookup_of_mem C.nd h1)] at hc'; cases hc'
      · exact h1
    obtain ⟨a, ha⟩ := Option.isSome_iff_exists.mp (cellsFrom_has (n := s.heap.objs.size + 1) (acc := cloFrom env sv.names []) hcell)
    rcases cm (mem_of_lookup ha) with ⟨q, _⟩ | ⟨_, _, q⟩
    · have := two q hcell; cases this
    · exact ⟨a, none, ha, q⟩
  · rcases slIn_at e with ⟨a1, a2, a3, a4⟩ | ⟨a1, a2⟩
    · have hm := mskd_at R.fm.len e' a2 a3
      have r := R.fm.read i n x a1 hm hx
      have hkd : kd env.scope n = .cel := by rw [hsc]; exact C.free n (lookup_mem a4)
      refine nn fun hC => ?_
      cases r with
      | loc e' => rw [hkd] at e'; cases e'
      | cel e' a y r1 r2 r3 =>
      refine hC ?_
      have : kd (compEnvC sv (cellsFrom (s.heap.objs.size + 1) sv.names (cloFrom env sv.names [])) s.heap.objs.size env).scope n = .cel := kd_relabel.trans (kd_cel.mpr (.inr a4))
      obtain ⟨o, ho, hd⟩ := r2
      exact .cel this a y (free_look (lookup_mem a4) r1) ⟨o, hk _ _ ho, hd⟩ r3
    · exfalso
      apply hx
      unfold mskd at e'
      have hll : (List.zipWith (fun v b => if b = true then v else V.un) m (maskOf sv sl)).length = sl.length := by
        rw [List.length_zipWith]; unfold maskOf; rw [List.length_map, R.fm.len]; exact Nat.min_self _
      rw [List.getElem?_append_right (by rw [hll, a1]; exact Nat.le_refl _), hll, a1, Nat.sub_self] at e'
      simpa using e'.symm
end
end Mine
end
section
open PySem PySem.W PyProof.Rows
set_option tactic.hygienic false
namespace Mine
noncomputable def tailL (elt : PySem.Expr) (gens : List Comprehension) (scope : Scope) (pos : Pos) (d : Nat) (acc : Value) (env : Env) : Sem Unit := match gens[d + 1]? with
  | some g' => do
    let x ← eval g'.iter env
    standAt g'.iter.pos
    let x ← foldedSetIterable g'.iter env x
    let _ ← runOwn (.compStart (.ListComp elt gens scope pos) (d + 1) (← holding [x] (pyIter x)) acc env) env
  | none => do let _ ← call (.builtin "list.append") [acc, ← eval elt env]
noncomputable def tailD (k v : PySem.Expr) (d : Addr) (env : Env) : Sem Unit := do
  let kv ← eval k env
  let vv ← holding [kv] (eval v env)
  standAt { k.pos with endLine := v.pos.endLine, endCol := v.pos.endCol }
  holding [kv, vv] (dictSet d kv vv)
noncomputable abbrev testsOf (ifs : List PySem.Expr) (env : Env) : Sem Bool := forIn ifs true fun c r => if r = true then do let ok ← isTrue c env (eval c env); pure (ForInStep.yield ok) else pure (ForInStep.yield r)
noncomputable def turnOf (e : PySem.Expr) (target iter : PySem.Expr) (ifs : List PySem.Expr) (tail : Sem Unit) (d : Nat) (it acc : Value) (env : Env) : Sem Fin :=
  standAt iter.pos >>= fun _ => pyNext it >>= fun r => match r with
    | none => pure (.done .next)
    | some v => letOwnedTupleGo target it v >>= fun _ => assign target env v >>= fun _ => testsOf ifs env >>= fun ok =>
        if ok = true then tail >>= fun _ => again (.compLoop e d it acc env) else again (.compLoop e d it acc env)
theorem compTurn_gen {elt : PySem.Expr} {gens : List Comprehension} {scope : Scope} {pos : Pos} {d : Nat} {it acc : Value} {env : Env} {target iter : PySem.Expr} {ifs : List PySem.Expr} (hg : gens[d]? = some ⟨target, iter, ifs, 0⟩)
    (ha : ∀ g ∈ gens, g.is_async = 0) :
    compTurn (.ListComp elt gens scope pos) d it acc env = turnOf (.ListComp elt gens scope pos) target iter ifs (tailL elt gens scope pos d acc env) d it acc env := by
  unfold compTurn turnOf tailL testsOf
  simp only [hg]
  cases h : gens[d + 1]? with
  | none => rfl
  | some g =>
    have h0 : g.is_async = 0 := ha g (List.mem_of_getElem? h)
    simp only [bind_assoc, pure_bind, h0, bne_self_eq_false, Bool.false_eq_true, if_false]
    rfl
theorem compTurn_dct {k v : PySem.Expr} {scope : Scope} {pos : Pos} {it : Value} {D : Addr} {env : Env} {target iter : PySem.Expr} {ifs : List PySem.Expr} :
    compTurn (.DictComp k v [⟨target, iter, ifs, 0⟩] scope pos) 0 it (.ref D) env = turnOf (.DictComp k v [⟨target, iter, ifs, 0⟩] scope pos) target iter ifs (tailD k v D env) 0 it (.ref D) env := by
  rfl
section
variable {c : Cx} {B : Bs} {env : Env} {own : List Str} {sl : Sl} {m : List V} {H : AH} {s : Shared} {A : Around} {E : Value → Shared → Prop}
theorem set_last {m : List V} {x0 x : V} {n : Nat} (h : m.length = n) : (m ++ [x0]).set n x = m ++ [x] := by
  subst h
  rw [List.set_append_right _ _ (Nat.le_refl _), Nat.sub_self]; rfl
theorem comp_loop {α : Type} (mk : α → O) {e : PySem.Expr} {d : Nat} {D I : Addr} {v : Str} {pv : Pos} {iter : PySem.Expr} {ifs : List PySem.Expr} {tail : Sem Unit} {items : List V} {chk : AH → Prop} {St : Nat → Heap → Prop}
    (ht : compTurn e d (.ref I) (.ref D) env = turnOf e (.Name v pv) iter ifs tail d (.ref I) (.ref D) env)
    (hu : A.under (.compLoop e d (.ref I) (.ref D) env) = A) (hden : (model c.prog c.w).den (.compLoop e d (.ref I) (.ref D) env) = ((compTurn e d (.ref I) (.ref D) env).onRaise (fun x => do noteFrame x env; theTreesLotGoes x)))
    (it : Iter c A I items chk St) (ho : v ∈ own) (hDI : D ≠ I)
    {body : V → AH → α → (α → AH → Prop) → Prop} {Q : α → AH → Prop}
    (hbody : ∀ (x : V) (B' : Bs) (acc : α) (H : AH) (s : Shared) (Q : α → AH → Prop), Rep c B' env own (sl ++ [some v]) (m ++ [x]) H s → Real c.prog c.w c.C s.heap D (mk acc) → Out B' env H D → body x H acc Q →
      wpAny (model c.prog c.w) A (testsOf ifs env) (fun ok s₁ => wpAny (model c.prog c.w) A (if ok = true then tail else pure ())
        (fun _ s' => Ex2 fun H' acc' => An4 (Rep c B' env own (sl ++ [some v]) (m ++ [x]) H' s') (Real c.prog c.w c.C s'.heap D (mk acc')) (Out B' env H' D) (Q acc' H')) (fun _ _ => False) s₁) (fun _ _ => False) s) :
    ∀ (n i : Nat) (H : AH) (acc : α) (s : Shared) (x0 : V), n = items.length - i → i ≤ items.length → Rep c B env own (sl ++ [some v]) (m ++ [x0]) H s → St i s.heap → Out B env H I → (∃ o, s.heap.get? I = some o) → Out B env H D →
      Real c.prog c.w c.C s.heap D (mk acc) → cloop chk body (items.drop i) H acc Q →
      codeAny (model c.prog c.w) A (.compLoop e d (.ref I) (.ref D) env) (fun r s' => r = .ok .next ∧ Ex3 fun H' acc' x' => An5 (Rep c B env own (sl ++ [some v]) (m ++ [x']) H' s') (chk H') (Real c.prog c.w c.C s'.heap D (mk acc')) (Out B env H' D) (Q acc' H')) s := by
  intro n i H acc s x0 hn hi R st oI aI oD rD hl
  refine codeAny_loop rfl (fun n s => Ex4 fun i H acc x0 => An9 (n = items.length - i) (i ≤ items.length) (Rep c B env own (sl ++ [some v]) (m ++ [x0]) H s) (St i s.heap) (Out B env H I) ((∃ o, s.heap.get? I = some o)) (Out B env H D) (Real c.prog c.w c.C s.heap D (mk acc)) (cloop chk body (items.drop i) H acc Q)) ?_ n ⟨i, H, acc, x0, hn, hi, R, st, oI, aI, oD, rD, hl⟩
  clear hn hi R st oI aI oD rD hl n i H acc s x0
  rintro n s ⟨i, H, acc, x0, rfl, hi, R, st, oI, ⟨w0, aI⟩, oD, rD, hl⟩
  rw [hu, hden]
  refine wpAny_noted ?_
  rw [ht]
  unfold turnOf
  refine wpAny_bind (wpAny_standAt (wpAny_bind ?_))
  have hlen : m.length = sl.length := by have := R.fm.len; simpa using this
  cases hx : items[i]? with
  | none =>
    have hle : items.length ≤ i := by simpa using hx
    obtain rfl : i = items.length := Nat.le_antisymm hi hle
    rw [List.drop_length] at hl
    refine it.done st R.hp hl.1 fun h' tk he => wpAny_pure ⟨rfl, H, acc, x0, R.away oI he, hl.1, ?_, oD, hl.2⟩
    obtain ⟨o, ho⟩ := rD.get
    exact rD.congr ((he D o hDI ho).trans ho.symm)
  | some x =>
    obtain ⟨hlt, hxe⟩ := List.getElem?_eq_some_iff.mp hx
    rw [List.drop_eq_getElem_cons hlt, hxe] at hl
    refine it.item hx st R.hp hl.1 fun y h' tk hy st' hs => ?_
    have R1 := R.away (t := tk) oI hs.extBut
    have rD1 : Real c.prog c.w c.C h' D (mk acc) := rD.congr (hs.2 D hDI)
    have aI1 := it.live st'
    dsimp only
    refine wpAny_bind (wpAny_of_eq (show letOwnedTupleGo (.Name v pv) (.ref I) y = pure () from rfl) (wpAny_bind ?_))
    rw [arm_assign_Name]
    have hold1 : ∀ a ∈ [I, D], Out B env H a := allC oI (allC oD allN)
    refine wpAny_bind (wpAny_standAt ?_)
    refine store_at (i := sl.length) (R1.hold hold1) (by simp) ho fun s2 R2' => ?_
    obtain ⟨R2, k2⟩ := R1.unhold R2' hold1
    rw [set_last hlen, hy] at R2
    refine nn fun hC => ?_
    obtain ⟨w1, aI1⟩ := aI1
    obtain ⟨aI2, oI2⟩ := k2 I (.head _) _ aI1
    obtain ⟨wD, aD1⟩ := rD1.get
    obtain ⟨aD2, oD2⟩ := k2 D (.tail _ (.head _)) _ aD1
    refine hC ?_
    have rD2 : Real c.prog c.w c.C s2.heap D (mk acc) := rD1.congr (aD2.trans aD1.symm)
    have st2 : St (i + 1) s2.heap := it.frame st' (aI2.trans aI1.symm)
    have hold2 : ∀ a ∈ [I], Out B env H a := allC oI2 allN
    have oD2' : Out (Mine.hold B s2.heap [I]) env H D := ⟨by unfold Mine.hold; rw [if_neg (by simpa using hDI)]; exact oD2.b, oD2.h, oD2.l, oD2.c⟩
    have fin : ∀ s', (Ex2 fun H' acc' => An4 (Rep c (Mine.hold B s2.heap [I]) env own (sl ++ [some v]) (m ++ [x]) H' s') (Real c.prog c.w c.C s'.heap D (mk acc')) (Out (Mine.hold B s2.heap [I]) env H' D) (cloop chk body (items.drop (i + 1)) H' acc' Q)) →
        ∃ m', m' < items.length - i ∧ Ex4 fun i H acc x0 => An9 (m' = items.length - i) (i ≤ items.length) (Rep c B env own (sl ++ [some v]) (m ++ [x0]) H s') (St i s'.heap) (Out B env H I) ((∃ o, s'.heap.get? I = some o)) (Out B env H D) (Real c.prog c.w c.C s'.heap D (mk acc)) (cloop chk body (items.drop i) H acc Q) := by
      rintro s' ⟨H', acc', R3, rD3, oD3, q⟩
      obtain ⟨R4, k4⟩ := R2.unhold R3 hold2
      obtain ⟨aI4, oI4⟩ := k4 I (.head _) _ aI2
      exact ⟨items.length - (i + 1), by omega, i + 1, H', acc', x, rfl, hlt, R4, it.frame st2 (aI4.trans aI2.symm), oI4, ⟨_, aI4⟩, ⟨oD2.b, oD3.h, oD2.l, oD2.c⟩, rD3, q⟩
    refine wpAny_bind (wpAny_mono (hbody x _ acc H s2 _ (R2.hold hold2) rD2 oD2' hl.2) (fun ok s3 h3 => ?_) fun _ _ f => f.elim)
    cases ok with
    | true =>
      simp only [if_true] at h3 ⊢
      exact wpAny_bind (wpAny_mono h3 (fun _ s4 h4 => wpAny_pure ⟨rfl, fin s4 h4⟩) fun _ _ f => f.elim)
    | false =>
      simp only [Bool.false_eq_true, if_false] at h3 ⊢
      show wpAny _ _ ((pure () : Sem Unit) >>= fun _ => again (.compLoop e d (.ref I) (.ref D) env)) _ _ s3
      exact wpAny_bind (wpAny_mono h3 (fun _ s4 h4 => wpAny_pure ⟨rfl, fin s4 h4⟩) fun _ _ f => f.elim)
end
end Mine
end
section
open PySem PySem.W PyProof.Rows
set_option tactic.hygienic false
namespace Mine
section
variable {c : Cx} {B : Bs} {env : Env} {own : List Str} {sl : Sl} {m : List V} {H : AH} {s : Shared} {A : Around} {E : Value → Shared → Prop} {sp : Sp}
noncomputable abbrev EvR (c : Cx) (A : Around) (sp : Sp) (sc : Scope) (sl : Sl) (e : PySem.Expr) (x : X) : Prop :=
  ∀ ⦃B : Bs⦄ ⦃env : Env⦄ ⦃own : List Str⦄ ⦃m : List V⦄ ⦃H : AH⦄ ⦃s : Shared⦄ ⦃Q : V → AH → Prop⦄ ⦃E : Value → Shared → Prop⦄, (∀ n, kd env.scope n = kd sc n) → Rep c B env own sl m H s → x.ev sp m H Q →
    wpAny (model c.prog c.w) A (eval e env) (PE c B env own sl m Q) E s
noncomputable abbrev CoR (c : Cx) (A : Around) (sp : Sp) (sc : Scope) (sl : Sl) (e : PySem.Expr) (x : X) : Prop :=
  ∀ ⦃B : Bs⦄ ⦃env : Env⦄ ⦃own : List Str⦄ ⦃m : List V⦄ ⦃H : AH⦄ ⦃s : Shared⦄ ⦃Q : V → AH → Prop⦄ ⦃E : Value → Shared → Prop⦄, (∀ n, kd env.scope n = kd sc n) → (∀ v H, Q v H → ∃ b, v = .bool b) → Rep c B env own sl m H s → x.ev sp m H Q →
    wpAny (model c.prog c.w) A (isTrue e env (eval e env)) (fun b s' => ∃ H', Rep c B env own sl m H' s' ∧ Q (.bool b) H') E s
noncomputable abbrev ItR (c : Cx) (A : Around) (sp : Sp) (sc : Scope) (sl : Sl) (e : PySem.Expr) (x : X) : Prop :=
  ∀ ⦃B : Bs⦄ ⦃env : Env⦄ ⦃own : List Str⦄ ⦃m : List V⦄ ⦃H : AH⦄ ⦃s : Shared⦄ ⦃K : List V → (AH → Prop) → (AH → AH) → AH → Prop⦄ ⦃E : Value → Shared → Prop⦄, (∀ n, kd env.scope n = kd sc n) → Rep c B env own sl m H s → X.iw sp x m H K →
    wpAny (model c.prog c.w) A (eval e env) (fun v s₁ => wpAny (model c.prog c.w) A (pyIter v) (PI c A B env own sl m K) E s₁) E s
noncomputable abbrev IfsR (c : Cx) (A : Around) (sp : Sp) (sc : Scope) (sl : Sl) (ifs : List PySem.Expr) (x : X) : Prop :=
  ∀ ⦃B : Bs⦄ ⦃env : Env⦄ ⦃own : List Str⦄ ⦃m : List V⦄ ⦃H : AH⦄ ⦃s : Shared⦄ ⦃Q : V → AH → Prop⦄ ⦃E : Value → Shared → Prop⦄, (∀ n, kd env.scope n = kd sc n) → (∀ v H, Q v H → ∃ b, v = .bool b) → Rep c B env own sl m H s → x.ev sp m H Q →
    wpAny (model c.prog c.w) A (testsOf ifs env) (fun b s' => ∃ H', Rep c B env own sl m H' s' ∧ Q (.bool b) H') E s
noncomputable abbrev CwR (c : Cx) (A : Around) (sp : Sp) (sc : Scope) (sl : Sl) (gens : List Comprehension) (d : Nat) (elt : PySem.Expr) (scope : Scope) (pos : Pos) (b : X) : Prop :=
  ∀ ⦃B : Bs⦄ ⦃env : Env⦄ ⦃own : List Str⦄ ⦃m : List V⦄ ⦃H : AH⦄ ⦃s : Shared⦄ ⦃D : Addr⦄ ⦃acc : List V⦄ ⦃Q : List V → AH → Prop⦄, (∀ n, kd env.scope n = kd sc n) → (∀ n, varOK sc n = true → n ∈ own) → Rep c B env own sl m H s →
    Real c.prog c.w c.C s.heap D (.lst acc) → Out B env H D → X.cw sp b m H acc Q →
    wpAny (model c.prog c.w) A (tailL elt gens scope pos d (.ref D) env) (fun _ s' => Ex2 fun H' acc' => An4 (Rep c B env own sl m H' s') (Real c.prog c.w c.C s'.heap D (.lst acc')) (Out B env H' D) (Q acc' H')) (fun _ _ => False) s
theorem out_hold {as : List Addr} {h : Heap} {a : Addr} (o : Out (Mine.hold B h as) env H a) (al : ∀ d ∈ as, ∃ x, h.get? d = some x) : a ∉ as ∧ Out B env H a := by
  have hb := o.b
  unfold Mine.hold at hb
  split at hb
  · rename_i q; obtain ⟨x, hx⟩ := al a q; rw [hb] at hx; cases hx
  · rename_i q; exact ⟨q, hb, o.h, o.l, o.c⟩
theorem Rep.take (R : Rep c B env own sl m H s) {a : Addr} {x : O} (o : Out B env H a) (hx : Real c.prog c.w c.C s.heap a x) : Rep c B env own sl m (H.set a x) s := by
  refine ⟨⟨R.hp.gens, R.hp.base, R.hp.keep, fun b y e => ?_, fun b y e => ?_⟩, R.fm.keep rfl (fun _ _ _ => rfl) ?_ fun n d e => ?_⟩
  · unfold AH.set at e
    by_cases q : b = a
    · subst q; rw [if_pos rfl] at e; cases e; exact hx
    · rw [if_neg q] at e; exact R.hp.real _ _ e
  · unfold AH.set at e
    by_cases q : b = a
    · subst q; exact o.b
    · rw [if_neg q] at e; exact R.hp.apart _ _ e
  · show AH.set H a x env.locals = none
    unfold AH.set; rw [if_neg (Ne.symm o.l)]; exact R.fm.locH
  · show AH.set H a x d = none
    unfold AH.set; rw [if_neg (o.c n d e)]; exact R.fm.celH n d e
theorem Rep.thawed (R : Rep c B env own sl m H s) {chk : AH → Prop} {thaw : AH → AH} (T : Thaw c chk thaw) (k : chk H) : Rep c B env own sl m (thaw H) s := R.back (T.1 _ _ _ R.hp.whole k)
theorem Rep.snoc (R : Rep c B env own sl m H s) {v : Str} (hv : sl.contains (some v) = false) : Rep c B env own (sl ++ [some v]) (m ++ [.un]) H s := by
  have nv : ∀ i : Nat, sl[i]? ≠ some (some v) := fun i e => by
    have : (some v) ∈ sl := List.mem_of_getElem? e
    rw [← List.elem_iff] at this
    exact absurd (show sl.contains (some v) = true from this) (by rw [hv]; exact Bool.false_ne_true)
  have at' : ∀ {i : Nat} {n : Str}, (sl ++ [some v])[i]? = some (some n) → (i < sl.length ∧ sl[i]? = some (some n)) ∨ (i = sl.length ∧ n = v) := fun {i n} e => by
    rw [List.getElem?_append] at e
    split at e
    · rename_i q; exact .inl ⟨q, e⟩
    · rename_i q
      have hz : i - sl.length = 0 := by
        rcases Nat.eq_zero_or_pos (i - sl.length) with z | z
        · exact z
        · rw [List.getElem?_eq_none (show ([some v] : Sl).length ≤ i - sl.length from z)] at e; cases e
      rw [hz] at e
      simp only [List.getElem?_cons_zero, Option.some.injEq] at e
      exact .inr ⟨by lia, e.symm⟩
  have F := R.fm
  refine ⟨R.hp, ⟨F.eok, by rw [List.length_append, List.length_append, F.len]; rfl, fun i j n e e' => ?_, F.ownK, F.ns, F.locB, F.locH, F.celH, F.celA, F.celB, F.cell, fun i n x e e' hx => ?_⟩⟩
  · rcases at' e with ⟨a1, a2⟩ | ⟨a1, a2⟩ <;> rcases at' e' with ⟨b1, b2⟩ | ⟨b1, b2⟩
    · exact F.nd _ _ _ a2 b2
    · subst b2; exact absurd a2 (nv _)
    · subst a2; exact absurd b2 (nv _)
    · rw [a1, b1]
  · rcases at' e with ⟨a1, a2⟩ | ⟨a1, a2⟩
    · rw [List.getElem?_append_left (by rw [F.len]; exact a1)] at e'
      exact F.read i n x a2 e' hx
    · rw [List.getElem?_append_right (by rw [F.len, a1]; exact Nat.le_refl _), F.len, a1, Nat.sub_self] at e'
      exact absurd (by simpa using e'.symm) hx
theorem Rep.init {o : Option Str} {x : V} (R : Rep c B env own (sl ++ [o]) (m ++ [x]) H s) : Rep c B env own sl m H s := by
  have F := R.fm
  have hl : m.length = sl.length := by have := F.len; simpa using this
  have up : ∀ {i : Nat} {n : Str}, sl[i]? = some (some n) → (sl ++ [o])[i]? = some (some n) := fun {i n} e => by
    obtain ⟨h, _⟩ := List.getElem?_eq_some_iff.mp e
    rw [List.getElem?_append_left h]; exact e
  refine ⟨R.hp, ⟨F.eok, hl, fun i j n e e' => F.nd i j n (up e) (up e'), F.ownK, F.ns, F.locB, F.locH, F.celH, F.celA, F.celB, F.cell, fun i n x e e' hx => F.read i n x (up e) ?_ hx⟩⟩
  obtain ⟨h, _⟩ := List.getElem?_eq_some_iff.mp e'
  rw [List.getElem?_append_left h]; exact e'
noncomputable def less (B : Bs) (as : List Addr) : Bs := fun b => if b ∈ as then none else B b
theorem Rep.backL (R : Rep c B env own sl m H s) {as : List Addr} {H' : AH} {s' : Shared} (o : ∀ a ∈ as, Out B env H a) (R' : Hp c (less (baseOf s.heap H) as) H' s') : Rep c B env own sl m H' s' := by
  have inB : ∀ b x, b ∉ as → H b = none → s.heap.get? b = some x → less (baseOf s.heap H) as b = some x := fun b x h1 h2 e => by
    unfold less baseOf; rw [if_neg h1, h2]; exact e
  have kp : ∀ a x, a ∉ as → H a = none → s.heap.get? a = some x → s'.heap.get? a = some x ∧ H' a = none := fun a x h1 e h => by
    have hb := inB a x h1 e h
    refine ⟨R'.keep _ _ hb, ?_⟩
    cases q : H' a with
    | none => rfl
    | some y => have := R'.apart _ _ q; rw [hb] at this; cases this
  have bk : ∀ b x, B b = some x → b ∉ as ∧ H b = none := fun b x e => by
    refine ⟨fun q => (by have z := (o b q).b; rw [e] at z; cases z), ?_⟩
    cases q : H b with
    | none => rfl
    | some y => have := R.hp.apart _ _ q; rw [e] at this; cases this
  obtain ⟨oL, hL⟩ := R.fm.alive
  have lL : env.locals ∉ as := fun q => (o _ q).l rfl
  have kL := kp _ _ lL R.fm.locH hL
  have cL : ∀ n d, env.cells.lookup n = some d → d ∉ as := fun n d e q => (o _ q).c n d e rfl
  refine ⟨⟨R'.gens, R.hp.base, fun b x e => R'.keep _ _ (inB b x (bk b x e).1 (bk b x e).2 (R.hp.keep _ _ e)), R'.real, fun a x e => ?_⟩, R.fm.keep (kL.1.trans hL.symm) (fun n d e => ?_) kL.2 fun n d e => ?_⟩
  · cases q : B a with
    | none => rfl
    | some y => have := R'.apart _ _ e; rw [inB a y (bk a y q).1 (bk a y q).2 (R.hp.keep _ _ q)] at this; cases this
  · obtain ⟨x, h⟩ := R.fm.celA n d e
    exact (kp _ _ (cL n d e) (R.fm.celH n d e) h).1.trans h.symm
  · obtain ⟨x, h⟩ := R.fm.celA n d e
    exact (kp _ _ (cL n d e) (R.fm.celH n d e) h).2
theorem body_ok {α : Type} (mk : α → O) {sc : Scope} {ifs : List PySem.Expr} {cond : X} {D : Addr} {tail : Sem Unit} {W : AH → α → (α → AH → Prop) → Prop} {acc : α} {Q : α → AH → Prop} (hifs : IfsR c A sp sc sl ifs cond) (hsc : ∀ n, kd env.scope n = kd sc n)
    (htail : ∀ H acc s Q, Rep c B env own sl m H s → Real c.prog c.w c.C s.heap D (mk acc) → Out B env H D → W H acc Q →
      wpAny (model c.prog c.w) A tail (fun _ s' => Ex2 fun H' acc' => An4 (Rep c B env own sl m H' s') (Real c.prog c.w c.C s'.heap D (mk acc')) (Out B env H' D) (Q acc' H')) (fun _ _ => False) s)
    (R : Rep c B env own sl m H s) (rD : Real c.prog c.w c.C s.heap D (mk acc)) (oD : Out B env H D) (h : cond.ev sp m H fun v H => ifB v (W H acc Q) (Q acc H)) :
    wpAny (model c.prog c.w) A (testsOf ifs env) (fun ok s₁ => wpAny (model c.prog c.w) A (if ok = true then tail else pure ())
        (fun _ s' => Ex2 fun H' acc' => An4 (Rep c B env own sl m H' s') (Real c.prog c.w c.C s'.heap D (mk acc')) (Out B env H' D) (Q acc' H')) (fun _ _ => False) s₁) (fun _ _ => False) s := by
  have ho : ∀ a ∈ [D], Out B env H a := allC oD allN
  refine wpAny_mono (hifs (E := fun _ _ => False) hsc (fun v H h => ifB_b h) (R.hold ho) h) (fun ok s1 h1 => ?_) fun _ _ f => f.elim
  refine nn fun hC => ?_
  obtain ⟨H1, R1, q⟩ := h1
  obtain ⟨R2, k2⟩ := R.unhold R1 ho
  obtain ⟨wD, aD⟩ := rD.get
  obtain ⟨aD2, oD2⟩ := k2 D (by simp) _ aD
  refine hC ?_
  have rD2 : Real c.prog c.w c.C s1.heap D (mk acc) := rD.congr (aD2.trans aD.symm)
  cases ok with
  | true => exact htail _ _ _ _ R2 rD2 oD2 q
  | false => exact wpAny_pure ⟨H1, acc, R2, rD2, oD2, q⟩
theorem ifs_nil {sc : Scope} : IfsR c A sp sc sl [] (.c (.bool true)) := fun _ _ _ _ _ _ _ _ hsc _ R h => wpAny_pure ⟨_, R, h⟩
theorem ifs_one {sc : Scope} {e : PySem.Expr} {x : X} (h : CoR c A sp sc sl e x) : IfsR c A sp sc sl [e] x := fun _ _ _ _ _ _ _ _ hsc hb R q => by
  unfold testsOf
  simp only [List.forIn_cons, List.forIn_nil, if_true]
  exact wpAny_bind (wpAny_bind (wpAny_mono (h hsc hb R q) (fun b s' hb => wpAny_pure (wpAny_pure hb)) fun _ _ x => x))
theorem compStart_L {elt : PySem.Expr} {gens : List Comprehension} {scope : Scope} {pos : Pos} {d : Nat} {I : Addr} {acc : Value} {R : Result → Shared → Prop} {g : Comprehension} (hg : gens[d]? = some g) (ha : g.is_async = 0)
    (h0 : codeAny (model c.prog c.w) A (.compLoop (.ListComp elt gens scope pos) d (.ref I) acc env) R s)
    (hs : ∀ (Q : Value → Shared → Prop) (E : Value → Shared → Prop), Q (.ref I) s → wpAny (model c.prog c.w) A (pyIter (.ref I)) Q E s) : codeAny (model c.prog c.w) A (.compStart (.ListComp elt gens scope pos) d (.ref I) acc env) R s := by
  refine codeAny_of_tree ?_
  show wpAny _ A ((compStart (.ListComp elt gens scope pos) d (.ref I) acc env).onRaise (fun x => do noteFrame x env; standAt theWindowsPlace)) _ _ s
  refine wpAny_notedAt ?_
  unfold compStart
  have e2 : (clausesOf (.ListComp elt gens scope pos))[d]? = some g := hg
  simp only [e2, Option.elim_some, ha, bne_self_eq_false, Bool.false_eq_true, if_false]
  show wpAny _ _ (ask >>= _) _ _ s
  refine wpAny_bind (wpAny_askSetting (wpAny_ite ?_))
  split
  · exact wpAny_pure (And.intro rfl h0)
  · refine wpAny_bind (wpAny_rule ?_)
    exact wpAny_bind (wpAny_standAt (wpAny_bind (hs _ _ (wpAny_pure (And.intro rfl h0)))))
theorem compStart_D {k x : PySem.Expr} {t iter : PySem.Expr} {ifs : List PySem.Expr} {scope : Scope} {pos : Pos} {I : Addr} {acc : Value} {R : Result → Shared → Prop}
    (h0 : codeAny (model c.prog c.w) A (.compLoop (.DictComp k x [⟨t, iter, ifs, 0⟩] scope pos) 0 (.ref I) acc env) R s)
    (hs : ∀ (Q : Value → Shared → Prop) (E : Value → Shared → Prop), Q (.ref I) s → wpAny (model c.prog c.w) A (pyIter (.ref I)) Q E s) : codeAny (model c.prog c.w) A (.compStart (.DictComp k x [⟨t, iter, ifs, 0⟩] scope pos) 0 (.ref I) acc env) R s :=
  codeAny_compStart_dict h0 (hs _ _ h0)
end
end Mine
end
section
open PySem PySem.W PyProof.Rows
set_option tactic.hygienic false
namespace Mine
section
variable {c : Cx} {B : Bs} {env : Env} {own : List Str} {sl : Sl} {m : List V} {H : AH} {s : Shared} {A : Around} {E : Value → Shared → Prop} {sp : Sp}
theorem under_L {elt : PySem.Expr} {gens : List Comprehension} {scope : Scope} {pos : Pos} {d : Nat} {it acc : Value} {A : Around} : A.under (.compLoop (.ListComp elt gens scope pos) d it acc env) = A := rfl
theorem under_D {k x : PySem.Expr} {gens : List Comprehension} {scope : Scope} {pos : Pos} {d : Nat} {it acc : Value} {A : Around} : A.under (.compLoop (.DictComp k x gens scope pos) d it acc env) = A := rfl
theorem mark_none {A : Around} : A.mark none = A := rfl
theorem append_ok {D : Addr} {acc : List V} {v : Value} {Q : Unit → Shared → Prop} (R : Rep c B env own sl m H s) (rD : Real c.prog c.w c.C s.heap D (.lst acc)) (oD : Out B env H D) (hl : acc.length < sz)
    (q : ∀ s', Rep c B env own sl m H s' → Real c.prog c.w c.C s'.heap D (.lst (acc ++ [av v])) → Q () s') :
    wpAny (model c.prog c.w) A (do let _ ← call (.builtin "list.append") [.ref D, v]) Q E s := by
  refine nn fun hC => ?_
  obtain ⟨xs, p, e1, e2⟩ := rD
  refine hC ?_
  have hsz := map_av e1
  refine wpAny_bind (wpAny_list_append_plain p (fun h' p' hs => wpAny_pure (q _ (R.away (t := s.toks) oD hs.extBut) ?_)) (sz_line' (by lia)))
  exact ⟨_, p', by rw [Array.toList_push, List.map_append, e1]; rfl, by simp; lia⟩
theorem cw_emit {sc : Scope} {gens : List Comprehension} {d : Nat} {elt : PySem.Expr} {scope : Scope} {pos : Pos} {x : X} (hg : gens[d + 1]? = none) (h : EvR c A sp sc sl elt x) : CwR c A sp sc sl gens d elt scope pos (.emit x) := by
  intro B env own m H s D acc Q hsc hov R rD oD q
  unfold tailL
  rw [hg]
  have ho : ∀ a ∈ [D], Out B env H a := allC oD allN
  refine wpAny_bind (wpAny_mono (h (E := fun _ _ => False) hsc (R.hold ho) q) (fun y s1 h1 => ?_) fun _ _ f => f.elim)
  refine nn fun hC => ?_
  obtain ⟨H1, R1, hl, q1⟩ := h1
  obtain ⟨R2, k2⟩ := R.unhold R1 ho
  obtain ⟨wD, aD⟩ := rD.get
  obtain ⟨aD2, oD2⟩ := k2 D (by simp) _ aD
  refine hC ?_
  exact append_ok R2 (rD.congr (aD2.trans aD.symm)) oD2 hl fun s' R3 rD3 => ⟨H1, _, R3, rD3, oD2, q1⟩
theorem cw_for {sc : Scope} {gens : List Comprehension} {d : Nat} {elt : PySem.Expr} {scope : Scope} {pos : Pos} {v : Str} {pv : Pos} {iter : PySem.Expr} {ifs : List PySem.Expr} {it cond b : X} (hg : gens[d + 1]? = some ⟨.Name v pv, iter, ifs, 0⟩) (ha : ∀ g ∈ gens, g.is_async = 0)
    (hf : ∀ env x, foldedSetIterable iter env x = pure x) (hv : varOK sc v = true) (hn : sl.contains (some v) = false)
    (hit : ItR c A sp sc sl iter it) (hifs : IfsR c A sp sc (sl ++ [some v]) ifs cond) (hb : CwR c A sp sc (sl ++ [some v]) gens (d + 1) elt scope pos b) : CwR c A sp sc sl gens d elt scope pos (.cfor it cond b) := by
  intro B env own m H s D acc Q hsc hov R rD oD q
  have ho : ∀ a ∈ [D], Out B env H a := allC oD allN
  obtain ⟨wD, aD⟩ := rD.get
  have e : tailL elt gens scope pos d (.ref D) env = (do
    let x ← eval iter env
    standAt iter.pos
    let x ← foldedSetIterable iter env x
    let _ ← runOwn (.compStart (.ListComp elt gens scope pos) (d + 1) (← holding [x] (pyIter x)) (.ref D) env) env) := by
    unfold tailL; rw [hg]
  rw [e]
  refine wpAny_bind (wpAny_mono (hit (E := fun _ _ => False) hsc (R.hold ho) q) (fun x s1 h1 => ?_) fun _ _ f => f.elim)
  refine wpAny_bind (wpAny_standAt (wpAny_bind (wpAny_of_eq (hf env x) (wpAny_bind (wpAny_holding (wpAny_mono h1 (fun y s2 h2 => ?_) fun _ _ f => f.elim))))))
  refine nn fun hC => ?_
  obtain ⟨I, items, chk, thaw, H2, St, rfl, P⟩ := h2
  obtain ⟨R2, k2⟩ := R.unhold P.rep ho
  obtain ⟨aD2, oD2⟩ := k2 D (by simp) _ aD
  refine hC ?_
  have rD2 : Real c.prog c.w c.C s2.heap D (.lst acc) := rD.congr (aD2.trans aD.symm)
  obtain ⟨hID, oI⟩ := out_hold P.out (allC ⟨_, aD⟩ allN)
  have hDI : D ≠ I := fun e => hID (by rw [e]; simp)
  refine wpAny_bind (wpAny_runOwn ?_)
  rw [mark_none]
  refine compStart_L (g := ⟨.Name v pv, iter, ifs, 0⟩) hg rfl ?_ fun Q E h => P.it.self P.st h
  refine codeAny_mono (comp_loop (O.lst) (compTurn_gen hg ha) under_L rfl P.it (hov v hv) hDI (body := fun x H acc K => cond.ev sp (m ++ [x]) H fun v H => ifB v (X.cw sp b (m ++ [x]) H acc K) (K acc H)) (Q := fun acc H => Q acc (thaw H)) ?_ items.length 0 H2 acc s2 .un rfl (Nat.zero_le _) (R2.snoc hn) P.st oI P.live oD2 rD2 P.k) fun r s3 h3 => ?_
  · intro x B' acc H s Q R rD oD h
    exact body_ok O.lst hifs hsc (fun H acc s Q R rD oD h => hb hsc hov R rD oD h) R rD oD h
  · refine nn fun hC => ?_
    obtain ⟨rfl, H3, acc3, x3, R3, ck, rD3, oD3, q3⟩ := h3
    refine hC ?_
    exact wpAny_pure ⟨thaw H3, acc3, R3.init.thawed P.tw ck, rD3, ⟨oD3.b, P.tw.2 _ _ ck oD3.h, oD3.l, oD3.c⟩, q3⟩
noncomputable def BlockEnd (c : Cx) (B : Bs) (env : Env) (own : List Str) (sl : Sl) (m : List V) (Q : V → AH → Prop) (acc : Value) (C : Addr) (r : Result) (s' : Shared) : Prop :=
  Ex2 fun D H' => An6 (acc = .ref D) (r = .ok .next) ((∃ mm, s'.heap.Ns C mm)) (Out B env H' C) (Rep c B env own sl m H' s') (Q (.ref D) H')
theorem comp_block {α : Type} (mk : α → O) {acc0 : α} {e : PySem.Expr} {sc sv : Scope} {v : Str} {pv : Pos} {iter : PySem.Expr} {ifs : List PySem.Expr} {tail : Addr → Env → Sem Unit} {newAcc : Sem Value} {o : Obj} {cl : List (Str × Addr)}
    {I : Addr} {items : List V} {chk : AH → Prop} {thaw : AH → AH} {St : Nat → Heap → Prop} {K : List V → (AH → Prop) → (AH → AH) → AH → Prop} {Q : V → AH → Prop}
    (C : CompOK sc sv v) (hsc : ∀ n, kd env.scope n = kd sc n) (hcl : cl = cloFrom env sv.names [])
    (hnew : ∀ (Q : Value → Shared → Prop) (E : Value → Shared → Prop) (s : Shared), Q (.ref s.heap.objs.size) { s with heap := s.heap.push o } → wpAny (model c.prog c.w) A newAcc Q E s)
    (hfr : o.isFreed = false) (hreal : ∀ (h : Heap) (a : Addr), h.get? a = some o → Real c.prog c.w c.C h a (mk acc0))
    (ht : ∀ I D env, compTurn e 0 (.ref I) (.ref D) env = turnOf e (.Name v pv) iter ifs (tail D env) 0 (.ref I) (.ref D) env)
    (hu : ∀ I D env, A.under (.compLoop e 0 (.ref I) (.ref D) env) = A)
    (hden : ∀ I D env, (model c.prog c.w).den (.compLoop e 0 (.ref I) (.ref D) env) = ((compTurn e 0 (.ref I) (.ref D) env).onRaise (fun x => do noteFrame x env; theTreesLotGoes x)))
    (hstart : ∀ {I : Addr} {acc : Value} {env : Env} {R : Result → Shared → Prop} {s : Shared}, codeAny (model c.prog c.w) A (.compLoop e 0 (.ref I) acc env) R s →
      (∀ (Q : Value → Shared → Prop) (E : Value → Shared → Prop), Q (.ref I) s → wpAny (model c.prog c.w) A (pyIter (.ref I)) Q E s) → codeAny (model c.prog c.w) A (.compStart e 0 (.ref I) acc env) R s)
    {body : V → AH → α → (α → AH → Prop) → Prop}
    (P : IterPost c A B env own sl m K I items chk thaw H St s)
    (hbody : ∀ (cells : List (Str × Addr)) (C D : Addr) (x : V) (B' : Bs) (acc : α) (H : AH) (s : Shared) (Q : α → AH → Prop), (∀ n, kd (compEnvC sv cells C env).scope n = kd sv n) →
      Rep c B' (compEnvC sv cells C env) (ownOf sv) (slIn sv sl v) (mskd m (maskOf sv sl) ++ [x]) H s → Real c.prog c.w c.C s.heap D (mk acc) → Out B' (compEnvC sv cells C env) H D → body x H acc Q →
      wpAny (model c.prog c.w) A (testsOf ifs (compEnvC sv cells C env)) (fun ok s₁ => wpAny (model c.prog c.w) A (if ok = true then tail D (compEnvC sv cells C env) else pure ())
        (fun _ s' => Ex2 fun H' acc' => An4 (Rep c B' (compEnvC sv cells C env) (ownOf sv) (slIn sv sl v) (mskd m (maskOf sv sl) ++ [x]) H' s') (Real c.prog c.w c.C s'.heap D (mk acc')) (Out B' (compEnvC sv cells C env) H' D) (Q acc' H')) (fun _ _ => False) s₁) (fun _ _ => False) s)
    (hl : cloop chk body items H acc0 fun acc H => ∀ a, thaw H a = none → Q (.ref a) ((thaw H).set a (mk acc))) :
    wpAny (model c.prog c.w) A newAcc (fun acc s₃ => wpAny (model c.prog c.w) A (newFunctionEnv sv env.globals cl [] env.qual none .none (some env)) (fun cenv s₄ =>
      codeAny (model c.prog c.w) A (.compStart e 0 (.ref I) acc { cenv with scope := relabel sv env }) (BlockEnd c B env own sl m Q acc cenv.locals) s₄) E s₃) E s := by
  refine hnew _ _ _ ?_
  obtain ⟨wI, aI⟩ := P.live
  have kp : ∀ b x, s.heap.get? b = some x → (s.heap.push o).get? b = some x := fun b x e => Heap.get?_push_of_some _ e
  have R3 : Rep c B env own sl m H { s with heap := s.heap.push o } := P.rep.grow (t := s.toks) kp
  have aD : (s.heap.push o).get? s.heap.objs.size = some o := Heap.get?_push_size _ hfr
  have oD : Out B env H s.heap.objs.size := P.rep.out (freshA s)
  have hDI : s.heap.objs.size ≠ I := fun q => by have := freshA s; rw [q, aI] at this; cases this
  have ho : ∀ a ∈ [I, s.heap.objs.size], Out B env H a := fun a ha => by
    simp only [List.mem_cons, List.not_mem_nil, or_false] at ha
    rcases ha with rfl | rfl
    · exact P.out
    · exact oD
  have R3l : Hp c (less (baseOf (s.heap.push o) H) [I, s.heap.objs.size]) H { s with heap := s.heap.push o } := by
    have w := R3.hp.whole
    refine ⟨w.gens, fun b x e => ?_, fun b x e => ?_, w.real, fun a x e => ?_⟩
    · unfold less
      rw [if_neg]
      · exact w.base _ _ e
      · intro q
        have := (ho b q).b
        rw [R3.hp.base _ _ e] at this; cases this
    · unfold less at e
      split at e
      · cases e
      · exact w.keep _ _ e
    · unfold less
      split
      · rfl
      · exact w.apart _ _ e
  refine comp_env (E := E) C hsc R3 R3l hcl fun cells h' kc hc R4 => ?_
  have aI4 : h'.get? I = some wI := kc _ _ (kp _ _ aI)
  have aD4 : h'.get? s.heap.objs.size = some o := kc _ _ aD
  have eqsl : slIn sv sl v = (List.zipWith (fun o b => if b = true then o else none) sl (maskOf sv sl)) ++ [some v] := rfl
  have notC : ∀ a x, (s.heap.push o).get? a = some x → a ≠ (s.heap.push o).objs.size := fun a x e q => by have := Heap.lt_size e; rw [q] at this; exact Nat.lt_irrefl _ this
  have outB : ∀ a ∈ [I, s.heap.objs.size], ∀ x, (s.heap.push o).get? a = some x → Out (less (baseOf (s.heap.push o) H) [I, s.heap.objs.size]) (compEnvC sv cells (s.heap.push o).objs.size env) H a := fun a ha x hx =>
    ⟨by unfold less; rw [if_pos ha], (ho a ha).h, notC a x hx, fun n d e => by
      rcases hc n d e with ⟨n', q⟩ | q
      · exact (ho a ha).c n' d q
      · rintro rfl; simp only at q; rw [hx] at q; cases q⟩
  refine hstart ?_ fun Q E h => P.it.self (P.it.frame P.st (aI4.trans aI.symm)) h
  have hov : v ∈ ownOf sv := by
    rcases C.var with q | q
    · exact List.mem_map.mpr ⟨_, List.mem_filter.mpr ⟨mem_of_lookup q, rfl⟩, rfl⟩
    · exact List.mem_map.mpr ⟨_, List.mem_filter.mpr ⟨mem_of_lookup q, rfl⟩, rfl⟩
  refine codeAny_mono (comp_loop mk (sl := List.zipWith (fun o b => if b = true then o else none) sl (maskOf sv sl)) (m := mskd m (maskOf sv sl)) (ht I s.heap.objs.size (compEnvC sv cells (s.heap.push o).objs.size env)) (hu _ _ _) (hden _ _ _) P.it hov hDI
    (body := body) (Q := fun acc H => ∀ a, thaw H a = none → Q (.ref a) ((thaw H).set a (mk acc))) (fun x B' acc H s Q R rD oD h => hbody cells _ _ x B' acc H s Q (fun n => kd_relabel) R rD oD h) items.length 0 H acc0 _ .un rfl (Nat.zero_le _) R4
    (P.it.frame P.st (aI4.trans aI.symm)) (outB I (.head _) _ (kp _ _ aI)) ⟨_, aI4⟩ (outB _ (by simp) _ aD) (hreal _ _ aD4) hl) fun r s5 h5 => ?_
  refine nn fun hC => ?_
  obtain ⟨rfl, H5, acc5, x5, R5, ck, rD5, oD5, q5⟩ := h5
  refine hC ?_
  have R6 := R3.backL ho R5.hp
  have R7 := R6.thawed P.tw ck
  have oD7 : Out B env (thaw H5) s.heap.objs.size := ⟨oD.b, P.tw.2 _ _ ck oD5.h, oD.l, oD.c⟩
  have oC : Out B env H (s.heap.push o).objs.size := R3.out (freshA { s with heap := s.heap.push o })
  have hCD : (s.heap.push o).objs.size ≠ s.heap.objs.size := (notC _ _ aD).symm
  refine ⟨s.heap.objs.size, _, rfl, rfl, R5.fm.ns, ⟨oC.b, ?_, oC.l, oC.c⟩, R7.take oD7 rD5, q5 _ oD7.h⟩
  show AH.set (thaw H5) s.heap.objs.size (mk acc5) (s.heap.push o).objs.size = none
  unfold AH.set
  rw [if_neg hCD]
  exact P.tw.2 _ _ ck R5.fm.locH
end
end Mine
end
section
open PySem PySem.W PyProof.Rows
set_option tactic.hygienic false
namespace Mine
section
variable {c : Cx} {B : Bs} {env : Env} {own : List Str} {sl : Sl} {m : List V} {H : AH} {s : Shared} {A : Around} {E : Value → Shared → Prop} {sp : Sp}
theorem post_none {Q : V → AH → Prop} {acc : Value} {C : Addr} {r : Result} (h : BlockEnd c B env own sl m Q acc C r s) : compPost (model c.prog c.w) A E none (PE c B env own sl m Q) acc C r s := by
  refine nn fun hC => ?_
  obtain ⟨D, H', rfl, rfl, ⟨mm, hn⟩, oC, R, q⟩ := h
  refine hC ?_
  exact ⟨mm, hn, fun h' hs => ⟨H', R.away (t := s.toks) oC hs.extBut, q⟩⟩
theorem post_use {Q : V → AH → Prop} {acc : Value} {C : Addr} {r : Result} {y : Str} {py : Pos} {i : Nat} {Q' : Value → Shared → Prop} (hy : sl[i]? = some (some y)) (ho : y ∈ own) (hQ : ∀ s' H' v, Rep c B env own sl (m.set i v) H' s' → Q v H' → Q' .none s')
    (h : BlockEnd c B env own sl m Q acc C r s) : compPost (model c.prog c.w) A E (some (assign (.Name y py) env)) Q' acc C r s := by
  obtain ⟨D, H', rfl, rfl, ⟨mm, hn⟩, oC, R, q⟩ := h
  show wpAny _ A (assign (.Name y py) env (.ref D)) _ _ _
  rw [arm_assign_Name]
  have ha : ∀ a ∈ [C], Out B env H' a := allC oC allN
  refine wpAny_bind (wpAny_standAt (store_at (R.hold ha) hy ho fun s1 R1 => ?_))
  refine nn fun hC => ?_
  obtain ⟨R2, k⟩ := R.unhold R1 ha
  obtain ⟨o, es, ep, hg, r⟩ := id hn
  obtain ⟨g1, oC1⟩ := k C (by simp) _ hg
  refine hC ?_
  exact ⟨mm, ⟨o, es, ep, g1, r⟩, fun h' hs => hQ _ H' _ (R2.away (t := s1.toks) oC1 hs.extBut) q⟩
theorem names_of {sc sv : Scope} {v : Str} (C : CompOK sc sv v) : ∀ x ∈ sv.names, x.2 = .local → sv.names.lookup x.1 = some .local := fun x hx e => by
  have : (x.1, NameKind.local) ∈ sv.names := by rw [← e]; exact hx
  exact lookup_of_mem C.nd this
theorem clos_of {sc sv : Scope} {v : Str} (C : CompOK sc sv v) (hsc : ∀ n, kd env.scope n = kd sc n) (R : Rep c B env own sl m H s) : closureFor sv env = pure (cloFrom env sv.names []) :=
  closureFor_from fun x hx e => R.fm.eok.has _ (by rw [hsc]; exact C.free x.1 (by rw [← e]; exact hx))
theorem lcomp_run {elt : PySem.Expr} {v : Str} {pv : Pos} {iter : PySem.Expr} {ifs : List PySem.Expr} {gs : List Comprehension} {sc sv : Scope} {pos pos' : Pos} {i cnd b : X} {use : Option (Value → Sem Unit)} {Q : V → AH → Prop} {Q' : Value → Shared → Prop}
    (C : CompOK sc sv v) (ha : ∀ g ∈ gs, g.is_async = 0) (hf : ∀ env x, foldedSetIterable iter env x = pure x)
    (hit : ItR c A sp sc sl iter i) (hifs : IfsR c A sp sv (slIn sv sl v) ifs cnd) (hb : CwR c A sp sv (slIn sv sl v) (⟨.Name v pv, iter, ifs, 0⟩ :: gs) 0 elt sv pos b)
    (hsc : ∀ n, kd env.scope n = kd sc n) (R : Rep c B env own sl m H s) (h : X.ev sp (.lcomp (maskOf sv sl) i cnd b) m H Q)
    (hpost : ∀ acc C r s', BlockEnd c B env own sl m Q acc C r s' → compPost (model c.prog c.w) A E use Q' acc C r s') :
    wpAny (model c.prog c.w) A (comprehension (.ListComp elt (⟨.Name v pv, iter, ifs, 0⟩ :: gs) sv pos) sv env pos' (newList []) false (eval iter env) use) Q' E s := by
  refine wpAny_comprehension_free (g := ⟨.Name v pv, iter, ifs, 0⟩) (gs := gs) rfl (hf env) (clos_of C hsc R) C.kind (names_of C) ?_
  refine wpAny_mono (hit (E := E) hsc R h) (fun x s1 h1 => wpAny_mono h1 (fun y s2 h2 => ?_) fun _ _ x => x) fun _ _ x => x
  refine nn fun hC => ?_
  obtain ⟨I, items, chk, thaw, H2, St, rfl, P⟩ := h2
  refine hC ?_
  have ha' : ∀ g ∈ (⟨.Name v pv, iter, ifs, 0⟩ :: gs : List Comprehension), g.is_async = 0 := fun g hg => by
    rcases List.mem_cons.mp hg with rfl | hg
    · rfl
    · exact ha g hg
  refine wpAny_mono (comp_block O.lst (acc0 := []) (o := { cls := .type "list", data := .seq ([] : List Value).toArray }) (Q := Q) C hsc rfl (fun Q E s q => wpAny_newList (items := []) q (Nat.zero_le _)) rfl
    (fun h a e => ⟨#[], ⟨_, e⟩, rfl, Nat.zero_le _⟩) (fun I D env => compTurn_gen (target := .Name v pv) (iter := iter) (ifs := ifs) rfl ha') (fun _ _ _ => under_L) (fun _ _ _ => rfl) (fun h0 hs => compStart_L rfl rfl h0 hs) P
    (body := fun x H acc K => cnd.ev sp (mskd m (maskOf sv sl) ++ [x]) H fun v H => ifB v (X.cw sp b (mskd m (maskOf sv sl) ++ [x]) H acc K) (K acc H))
    (fun cells C D x B' acc H s Q hk R rD oD h => body_ok O.lst hifs hk (fun H acc s Q R rD oD h => hb hk (fun n hn => ?_) R rD oD h) R rD oD h) P.k) (fun acc s3 h3 => wpAny_mono h3 (fun cenv s4 h4 => codeAny_mono h4 fun r s5 h5 => hpost _ _ _ _ h5) fun _ _ x => x) fun _ _ x => x
  unfold varOK at hn
  rw [Bool.or_eq_true, beq_iff_eq, beq_iff_eq] at hn
  rcases hn with q | q
  · exact List.mem_map.mpr ⟨_, List.mem_filter.mpr ⟨mem_of_lookup q, rfl⟩, rfl⟩
  · exact List.mem_map.mpr ⟨_, List.mem_filter.mpr ⟨mem_of_lookup q, rfl⟩, rfl⟩
theorem dset_ok {D : Addr} {acc : List (Int × V)} {i : Int} {t : Tok} {v : Value} {Q : Unit → Shared → Prop} (R : Rep c B env own sl m H s) (rD : Real c.prog c.w c.C s.heap D (.dct acc)) (oD : Out B env H D) (hl : acc.length < sz)
    (q : ∀ s', Rep c B env own sl m H s' → Real c.prog c.w c.C s'.heap D (.dct (put acc i (av v))) → Q () s') :
    wpAny (model c.prog c.w) A (dictSet D (.int i t) v) Q E s := by
  refine nn fun hC => ?_
  obtain ⟨kvs, p, e1, e2⟩ := rD
  refine hC ?_
  have hll := dct_len (a := D) e1
  refine wpAny_dictSet_pairs (intKind_is _ _ _ _) p (fun h' p' hs => q _ (R.away oD hs.extBut) ?_) (sz_line' (by lia))
  have := put_length acc i (av v)
  exact ⟨_, p', by rw [map_stored, e1], by lia⟩
theorem dcomp_run {k x : PySem.Expr} {v : Str} {pv : Pos} {iter : PySem.Expr} {sc sv : Scope} {pos pos' : Pos} {i kx vx : X} {use : Option (Value → Sem Unit)} {Q : V → AH → Prop} {Q' : Value → Shared → Prop}
    (C : CompOK sc sv v) (hf : ∀ env x, foldedSetIterable iter env x = pure x)
    (hit : ItR c A sp sc sl iter i) (hk : EvR c A sp sv (slIn sv sl v) k kx) (hx : EvR c A sp sv (slIn sv sl v) x vx)
    (hsc : ∀ n, kd env.scope n = kd sc n) (R : Rep c B env own sl m H s) (h : X.ev sp (.dcomp (maskOf sv sl) i kx vx) m H Q)
    (hpost : ∀ acc C r s', BlockEnd c B env own sl m Q acc C r s' → compPost (model c.prog c.w) A E use Q' acc C r s') :
    wpAny (model c.prog c.w) A (comprehension (.DictComp k x [⟨.Name v pv, iter, [], 0⟩] sv pos) sv env pos' newDict false (eval iter env) use) Q' E s := by
  refine wpAny_comprehension_free (g := ⟨.Name v pv, iter, [], 0⟩) (gs := []) rfl (hf env) (clos_of C hsc R) C.kind (names_of C) ?_
  refine wpAny_mono (hit (E := E) hsc R h) (fun z s1 h1 => wpAny_mono h1 (fun y s2 h2 => ?_) fun _ _ x => x) fun _ _ x => x
  refine nn fun hC => ?_
  obtain ⟨I, items, chk, thaw, H2, St, rfl, P⟩ := h2
  refine hC ?_
  refine wpAny_mono (comp_block O.dct (acc0 := []) (o := { cls := .type "dict", data := .dict #[] }) (Q := Q) (tail := fun D env => tailD k x D env) C hsc rfl (fun Q E s q => by simp only [newDict, newObj]; exact wpAny_bind (wpAny_alloc (wpAny_pure q))) rfl
    (fun h a e => ⟨[], ⟨_, _, _, e, ⟨rfl, rfl, rfl⟩, rfl, fun e he => (by simp at he), .nil, List.nodup_nil⟩, rfl, Nat.zero_le _⟩) (fun I D env => compTurn_dct) (fun _ _ _ => under_D) (fun _ _ _ => rfl) (fun h0 hs => compStart_D h0 hs) P
    (body := fun x H acc K => kx.ev sp (mskd m (maskOf sv sl) ++ [x]) H fun kv H => vx.ev sp (mskd m (maskOf sv sl) ++ [x]) H fun vv H => ifS kv.i? fun i => acc.length < sz ∧ K (put acc i vv) H)
    (fun cells C D y B' acc H s Q hkk R rD oD h => wpAny_pure ?_) P.k) (fun acc s3 h3 => wpAny_mono h3 (fun cenv s4 h4 => codeAny_mono h4 fun r s5 h5 => hpost _ _ _ _ h5) fun _ _ x => x) fun _ _ x => x
  simp only [if_true]
  have ho : ∀ a ∈ [D], Out B' (compEnvC sv cells C env) H a := allC oD allN
  unfold tailD
  obtain ⟨wD, aD⟩ := rD.get
  refine wpAny_bind (wpAny_mono (hk (E := fun _ _ => False) hkk (R.hold ho) h) (fun kv s1 h1 => ?_) fun _ _ f => f.elim)
  obtain ⟨H1, R1, q1⟩ := h1
  refine wpAny_bind (wpAny_holding (wpAny_mono (hx (E := fun _ _ => False) hkk R1 q1) (fun vv s2 h2 => ?_) fun _ _ f => f.elim))
  refine nn fun hC => ?_
  obtain ⟨H2', R2, q2⟩ := h2
  obtain ⟨R3, k3⟩ := R.unhold R2 ho
  obtain ⟨aD3, oD3⟩ := k3 D (by simp) _ aD
  refine hC ?_
  have rD3 : Real c.prog c.w c.C s2.heap D (.dct acc) := rD.congr (aD3.trans aD.symm)
  refine wpAny_bind (wpAny_standAt (wpAny_holding ?_))
  obtain ⟨i, hv, q3⟩ := ifS_eq q2
  obtain ⟨t, e⟩ := av_int (V.i_eq hv)
  rw [e]
  exact dset_ok R3 rD3 oD3 q3.1 fun s' R4 rD4 => ⟨H2', _, R4, rD4, oD3, q3.2⟩
theorem ev_lcomp {elt : PySem.Expr} {v : Str} {pv : Pos} {iter : PySem.Expr} {ifs : List PySem.Expr} {gs : List Comprehension} {sc sv : Scope} {pos : Pos} {i cnd b : X}
    (C : CompOK sc sv v) (ha : ∀ g ∈ gs, g.is_async = 0) (hf : ∀ env x, foldedSetIterable iter env x = pure x)
    (hit : ItR c A sp sc sl iter i) (hifs : IfsR c A sp sv (slIn sv sl v) ifs cnd) (hb : CwR c A sp sv (slIn sv sl v) (⟨.Name v pv, iter, ifs, 0⟩ :: gs) 0 elt sv pos b) :
    EvR c A sp sc sl (.ListComp elt (⟨.Name v pv, iter, ifs, 0⟩ :: gs) sv pos) (.lcomp (maskOf sv sl) i cnd b) := by
  intro B env own m H s Q E hsc R h
  rw [arm_eval_ListComp]
  exact lcomp_run C ha hf hit hifs hb hsc R h fun acc C r s' h => post_none h
theorem ev_dcomp {k x : PySem.Expr} {v : Str} {pv : Pos} {iter : PySem.Expr} {sc sv : Scope} {pos : Pos} {i kx vx : X}
    (C : CompOK sc sv v) (hf : ∀ env x, foldedSetIterable iter env x = pure x)
    (hit : ItR c A sp sc sl iter i) (hk : EvR c A sp sv (slIn sv sl v) k kx) (hx : EvR c A sp sv (slIn sv sl v) x vx) :
    EvR c A sp sc sl (.DictComp k x [⟨.Name v pv, iter, [], 0⟩] sv pos) (.dcomp (maskOf sv sl) i kx vx) := by
  intro B env own m H s Q E hsc R h
  rw [arm_eval_DictComp]
  exact dcomp_run C hf hit hk hx hsc R h fun acc C r s' h => post_none h
end
end Mine
end
section
open PySem PySem.W PySem.Calls PyProof.Rows
set_option tactic.hygienic false
namespace Mine
noncomputable def plainE (e : PySem.Expr) : Bool := e.ctorIdx != 7 && e.ctorIdx != 22
theorem plain_star {e : PySem.Expr} {es : List PySem.Expr} {env : Env} (h : plainE e = true) : starEach (e :: es) env = (false, eval e env) :: starEach es env := by
  cases e <;> first | rfl | cases h
theorem plain_fold {e : PySem.Expr} {env : Env} {x : Value} (h : plainE e = true) : foldedSetIterable e env x = pure x := by
  cases e <;> first | rfl | cases h
theorem plain_marks {e : PySem.Expr} {op : CmpOp} (h : plainE e = true) : behindInMarks op e = false := by
  cases e <;> first | rfl | cases h
theorem plain_each : ∀ {es : List PySem.Expr} {env : Env}, (∀ e ∈ es, plainE e = true) → starEach es env = es.map fun e => (false, eval e env)
  | [], env, _ => rfl
  | e :: es, env, h => by rw [plain_star (h e (by simp)), plain_each fun e' h' => h e' (by simp [h'])]; rfl
theorem back_each {es : List PySem.Expr} {env : Env} {pos : Pos} : backTo pos (es.map fun e => (false, eval e env)) = es.map fun e => (false, eval e env) := by
  unfold backTo; rw [List.map_map]; rfl
theorem back_any {es : List PySem.Expr} {env : Env} : (es.map fun e => (false, eval e env)).any (·.1) = false := by
  rw [List.any_map]; exact List.any_eq_false.mpr fun _ _ h => by simp at h
section
variable {c : Cx} {B : Bs} {env : Env} {own : List Str} {sl : Sl} {m : List V} {H : AH} {s : Shared} {A : Around} {E : Value → Shared → Prop} {sp : Sp} {Q : V → AH → Prop}
noncomputable abbrev PEs (c : Cx) (B : Bs) (env : Env) (own : List Str) (sl : Sl) (m : List V) (n : Nat) (Q : List V → AH → Prop) (vs : List Value) (s' : Shared) : Prop := vs.length = n ∧ ∃ H', Rep c B env own sl m H' s' ∧ Q (vs.map av) H'
noncomputable abbrev EsR (c : Cx) (A : Around) (sp : Sp) (sc : Scope) (sl : Sl) (es : List PySem.Expr) (xs : List X) : Prop :=
  ((∀ e ∈ es, plainE e = true) ∧ es.length = xs.length) ∧
  ∀ ⦃B : Bs⦄ ⦃env : Env⦄ ⦃own : List Str⦄ ⦃m : List V⦄ ⦃H : AH⦄ ⦃s : Shared⦄ ⦃Q : List V → AH → Prop⦄ ⦃E : Value → Shared → Prop⦄, (∀ n, kd env.scope n = kd sc n) → Rep c B env own sl m H s → X.evs sp xs m H Q →
    wpAny (model c.prog c.w) A (spliced (es.map fun e => (false, eval e env))) (PEs c B env own sl m es.length Q) E s
theorem es_nil {sc : Scope} : EsR c A sp sc sl [] [] := ⟨⟨fun e h => absurd h (List.not_mem_nil), rfl⟩, @fun B env own m H s Q E hsc R h => spliced_nil ⟨rfl, _, R, h⟩⟩
theorem es_cons {sc : Scope} {e : PySem.Expr} {es : List PySem.Expr} {x : X} {xs : List X} (hp : plainE e = true) (h : EvR c A sp sc sl e x) (hs : EsR c A sp sc sl es xs) : EsR c A sp sc sl (e :: es) (x :: xs) := by
  refine ⟨⟨fun e' h' => ?_, congrArg (· + 1) hs.1.2⟩, @fun B env own m H s Q E hsc R q => ?_⟩
  · rcases List.mem_cons.mp h' with rfl | h'
    · exact hp
    · exact hs.1.1 _ h'
  · refine spliced_cons (wpAny_mono (h hsc R q) (fun v s1 h1 => ?_) fun _ _ x => x)
    obtain ⟨H1, R1, q1⟩ := h1
    refine wpAny_mono (hs.2 hsc R1 q1) (fun vs s2 h2 => ?_) fun _ _ x => x
    refine nn fun hC => ?_
    obtain ⟨hl, H2, R2, q2⟩ := h2
    refine hC ?_
    exact ⟨by simp [hl], H2, R2, q2⟩
theorem args_ok {sc : Scope} {es : List PySem.Expr} {xs : List X} {f : Value} {pos : Pos} {Q : List V → AH → Prop} (hs : EsR c A sp sc sl es xs) (hsc : ∀ n, kd env.scope n = kd sc n) (R : Rep c B env own sl m H s) (h : X.evs sp xs m H Q) :
    wpAny (model c.prog c.w) A (evalArgs f true (backTo pos (starEach es env)) []) (fun a s' => a.kw = [] ∧ PEs c B env own sl m es.length Q a.pos s') E s := by
  rw [plain_each hs.1.1, back_each]
  have h1 := hs.2 (E := E) hsc R h
  have hl := hs.1.2
  cases es with
  | nil =>
    cases xs with
    | nil => exact evalArgs_nil3 ⟨rfl, rfl, _, R, h⟩
    | cons x xs => cases hl
  | cons e es => exact evalArgs_plain (wpAny_mono h1 (fun vs s' q => ⟨rfl, q⟩) fun _ _ x => x)
structure TbOK (c : Cx) (F : Nat → Addr) : Prop where
  glob : ∀ n g, c.T.globs.lookup n = some g → nsIn c.K mainGlobals n = some (some (.ref (F g))) ∧ keepIn c.K (.ref (F g)) = true
  meth : ∀ n g, c.T.meths.lookup n = some g → methChk c.K c.C n (F g) = true ∧ keepIn c.K (.ref (F g)) = true
  const : ∀ n i, c.T.consts.lookup n = some i → ∃ t, nsIn c.K mainGlobals n = some (some (.int i t))
  bi : ∀ n, n ∈ (["abs", "len", "list", "tuple", "int", "isinstance", "bool", "range", "sorted", "super"] : List Str) → nsIn c.K mainGlobals n = some none
noncomputable def bvTab : List (Str × Value) := [("abs", .builtin "abs"), ("len", .builtin "len"), ("list", .type "list"), ("tuple", .type "tuple"), ("int", .type "int"), ("isinstance", .builtin "isinstance"), ("bool", .type "bool"), ("range", .type "range"), ("sorted", .builtin "sorted"), ("super", .type "super")]
noncomputable def biVal (n : Str) : Option Value := bvTab.lookup n
theorem boot_super : bootBuiltins "super" = some (.type "super") := by decide +kernel
theorem glob_kind {sc : Scope} {n : Str} (hg : glb sc n = true) (hsc : ∀ n, kd env.scope n = kd sc n) : env.kindOf n = some .globalImplicit ∧ (n == ("__debug__" : Str)) = false := by
  unfold glb at hg
  rw [Bool.and_eq_true, beq_iff_eq] at hg
  exact ⟨kd_glb.mp ((hsc n).trans hg.1), by simpa using hg.2⟩
theorem name_glob (G : Gd c) {sc : Scope} {n : Str} {pos : Pos} {v : Value} {P : Value → Shared → Prop} (hg : glb sc n = true) (hsc : ∀ n, kd env.scope n = kd sc n) (R : Rep c B env own sl m H s) (e : nsIn c.K mainGlobals n = some (some v)) (q : P v s) :
    wpAny (model c.prog c.w) A (eval (.Name n pos) env) P E s := by
  obtain ⟨k1, k2⟩ := glob_kind hg hsc
  obtain ⟨mg, hmg⟩ := G.mg
  have hmg' := hmg.keeps R.hp.h0
  refine Name_function_global R.fm.eok.kind k1 (loadGlobal_global (by rw [R.fm.eok.glob]; exact hmg') (mg_of (R.hp.kin G) hmg' e) q) k2
theorem name_bi (G : Gd c) {sc : Scope} {n : Str} {pos : Pos} {v : Value} {P : Value → Shared → Prop} (hg : glb sc n = true) (hsc : ∀ n, kd env.scope n = kd sc n) (R : Rep c B env own sl m H s) (e : nsIn c.K mainGlobals n = some none) (hn : n ≠ "__name__")
    (hv : bootBuiltins n = some v) (q : P v s) : wpAny (model c.prog c.w) A (eval (.Name n pos) env) P E s := by
  refine nn fun hC => ?_
  obtain ⟨k1, k2⟩ := glob_kind hg hsc
  obtain ⟨mg, hmg⟩ := G.mg
  obtain ⟨mb, hmb, hb⟩ := G.mb
  refine hC ?_
  have hmg' := hmg.keeps R.hp.h0
  have hmb' := hmb.keeps R.hp.h0
  refine Name_function_global R.fm.eok.kind k1 (loadGlobal_builtin (by rw [R.fm.eok.glob]; exact hmg') (mg_none_of (R.hp.kin G) hmg' e) (by rw [R.fm.eok.bi]; exact hmb') ((hb n hn).trans hv) q) k2
noncomputable abbrev Calls (c : Cx) (A : Around) (sp : Sp) (F : Nat → Addr) : Prop := ∀ {B : Bs} {H : AH} {s : Shared} {Q : V → AH → Prop} (g : Nat) (vs : List Value), Hp c B H s → sp g (vs.map av) H Q →
  codeAny (model c.prog c.w) A (.call (.ref (F g)) ⟨vs, []⟩) (fun r s' => ∃ v, r = .ok (.ret v) ∧ PH c B Q v s') s
theorem call_of {F : Nat → Addr} (C : Calls c A sp F) (g : Nat) (vs : List Value) (R : Hp c B H s) (h : sp g (vs.map av) H Q) : wpAny (model c.prog c.w) A (call (.ref (F g)) vs) (PH c B Q) E s :=
  wpAny_call (codeAny_mono (C g vs R h) fun r s' hr => by obtain ⟨v, rfl, hv⟩ := hr; exact hv)
theorem with_K (G : Gd c) {sc : Scope} {es : List PySem.Expr} {xs : List X} {f : Value} {first : List Value} {pos : Pos} {Q : List V → AH → Prop} {P : Value → Shared → Prop} (hk : keepIn c.K f = true) (hs : EsR c A sp sc sl es xs) (hsc : ∀ n, kd env.scope n = kd sc n)
    (R : Rep c B env own sl m H s) (h : X.evs sp xs m H Q) (q : ∀ vs H' s', vs.length = es.length → Rep c B env own sl m H' s' → Q (vs.map av) H' → wpAny (model c.prog c.w) A (call f (first ++ vs)) P E s') :
    wpAny (model c.prog c.w) A (callWith pos f first (backTo pos (starEach es env)) []) P E s := by
  refine callWith_of (P := c.K.In) (by rw [plain_each hs.1.1, back_each, back_any]; rfl) (fun h X => keeps_K hk h X) (wpAny_mono (args_ok hs hsc R h) (fun a s1 h1 => ?_) fun _ _ x => x)
  obtain ⟨h1, h2, H1, R1, q1⟩ := h1
  refine ⟨R1.hp.kin G, ?_⟩
  rw [h1]
  exact q _ _ _ h2 R1 q1
theorem with_M {sc : Scope} {es : List PySem.Expr} {xs : List X} {f : Value} {first : List Value} {pos : Pos} {Q : List V → AH → Prop} {P : Value → Shared → Prop} (hk : keeperOf f = pure .machine) (hs : EsR c A sp sc sl es xs) (hsc : ∀ n, kd env.scope n = kd sc n)
    (R : Rep c B env own sl m H s) (h : X.evs sp xs m H Q) (q : ∀ vs H' s', vs.length = es.length → Rep c B env own sl m H' s' → Q (vs.map av) H' → wpAny (model c.prog c.w) A (call f (first ++ vs)) P E s') :
    wpAny (model c.prog c.w) A (callWith pos f first (backTo pos (starEach es env)) []) P E s := by
  refine callWith_of (P := fun _ => True) (by rw [plain_each hs.1.1, back_each, back_any]; rfl) (fun h X => ⟨.machine, .inr (.inl rfl), by rw [hk]; exact .now⟩) (wpAny_mono (args_ok hs hsc R h) (fun a s1 h1 => ?_) fun _ _ x => x)
  obtain ⟨h1, h2, H1, R1, q1⟩ := h1
  refine ⟨trivial, ?_⟩
  rw [h1]
  exact q _ _ _ h2 R1 q1
theorem map1 {vs : List Value} {v : V} (h : vs.map av = [v]) : ∃ x, vs = [x] ∧ av x = v := by
  cases vs with
  | nil => cases h
  | cons x r => cases r with
    | nil => exact ⟨x, rfl, by simpa using h⟩
    | cons y r => simp at h
theorem map2 {vs : List Value} {v w : V} (h : vs.map av = [v, w]) : Ex2 fun x y => An3 (vs = [x, y]) (av x = v) (av y = w) := by
  cases vs with
  | nil => cases h
  | cons x r =>
    simp only [List.map_cons, List.cons.injEq] at h
    obtain ⟨y, rfl, hy⟩ := map1 h.2
    exact ⟨x, y, rfl, h.1, hy⟩
theorem map0 {vs : List Value} (h : vs.map av = []) : vs = [] := by simpa using h
noncomputable def biFn : Mine.B → Option Value
  | .abs => some (.builtin "abs")
  | .len => some (.builtin "len")
  | .toList => some (.type "list")
  | .toTuple => some (.type "tuple")
  | .toInt => some (.type "int")
  | _ => none
noncomputable def biMt : Mine.B → Option String
  | .pop => some "list.pop"
  | .append => some "list.append"
  | .extend => some "list.extend"
  | .dget1 => some "dict.get"
  | .dget2 => some "dict.get"
  | .dpop1 => some "dict.pop"
  | .dpop2 => some "dict.pop"
  | .setdef => some "dict.setdefault"
  | .update => some "dict.update"
  | _ => none
theorem ifR {v : Value} {k : Addr → Prop} (h : ifS (av v).r? k) : ∃ a, v = .ref a ∧ k a := let ⟨a, e, q⟩ := ifS_eq h; ⟨a, av_ref (V.r_eq e), q⟩
theorem ifI {v : Value} {k : Int → Prop} (h : ifS (av v).i? k) : Ex2 fun i t => v = .int i t ∧ k i := let ⟨i, e, q⟩ := ifS_eq h; let ⟨t, e⟩ := av_int (V.i_eq e); ⟨i, t, e, q⟩
theorem ifOL {o : Option O} {k : List V → Prop} (h : ifS o fun x => ifS x.l? k) : ∃ l, o = some (.lst l) ∧ k l := let ⟨x, e, q⟩ := ifS_eq h; let ⟨l, e', q⟩ := ifS_eq q; ⟨l, by rw [e, O.l_eq e'], q⟩
theorem ifOD {o : Option O} {k : List (Int × V) → Prop} (h : ifS o fun x => ifS x.d? k) : ∃ l, o = some (.dct l) ∧ k l := let ⟨x, e, q⟩ := ifS_eq h; let ⟨l, e', q⟩ := ifS_eq q; ⟨l, by rw [e, O.d_eq e'], q⟩
theorem ml1 {a : Addr} {vs : List Value} {v : V} (h : .ref a :: vs.map av = [v]) : v = .ref a ∧ vs = [] := ⟨(List.cons.inj h).1.symm, map0 (List.cons.inj h).2⟩
theorem ml2 {a : Addr} {vs : List Value} {v w : V} (h : .ref a :: vs.map av = [v, w]) : v = .ref a ∧ ∃ x, vs = [x] ∧ av x = w := ⟨(List.cons.inj h).1.symm, map1 (List.cons.inj h).2⟩
theorem ml3 {a : Addr} {vs : List Value} {v w d : V} (h : .ref a :: vs.map av = [v, w, d]) : v = .ref a ∧ Ex2 fun x y => An3 (vs = [x, y]) (av x = w) (av y = d) := ⟨(List.cons.inj h).1.symm, map2 (List.cons.inj h).2⟩
theorem call_bi (G : Gd c) {f : Mine.B} {v : Value} {vs : List Value} (hf : biFn f = some v) (R : Hp c B H s) (h : biW f (vs.map av) H Q) : wpAny (model c.prog c.w) A (call v vs) (PH c B Q) E s := by
  cases f with
  | abs =>
    cases hf
    obtain ⟨w, e, h⟩ := bi_1 h (fun _ _ h => h) (fun _ _ _ h => h)
    obtain ⟨x, rfl, rfl⟩ := map1 e
    obtain ⟨i, t, rfl, h⟩ := ifI h
    exact o_abs R h
  | len =>
    cases hf
    obtain ⟨w, e, h⟩ := bi_1 h (fun _ _ h => h) (fun _ _ _ h => h)
    obtain ⟨x, rfl, rfl⟩ := map1 e
    obtain ⟨a, rfl, h⟩ := ifR h
    exact o_len G R h
  | toList =>
    cases hf
    obtain ⟨w, e, h⟩ := bi_1 h (fun _ _ h => h) (fun _ _ _ h => h)
    obtain ⟨x, rfl, rfl⟩ := map1 e
    obtain ⟨l, q, h⟩ := ifS_eq h
    exact o_toList R q h
  | toTuple =>
    cases hf
    obtain ⟨w, e, h⟩ := bi_1 h (fun _ _ h => h) (fun _ _ _ h => h)
    obtain ⟨x, rfl, rfl⟩ := map1 e
    obtain ⟨a, rfl, h⟩ := ifR h
    obtain ⟨l, q, h⟩ := ifOL h
    exact o_toTuple R q h
  | toInt =>
    cases hf
    obtain ⟨w, e, h⟩ := bi_1 h (fun _ _ h => h) (fun _ _ _ h => h)
    obtain ⟨x, rfl, rfl⟩ := map1 e
    obtain ⟨i, t, rfl, h⟩ := ifI h
    exact o_toInt R h
  | _ => exact nsm hf
theorem mt_get (G : Gd c) {a : Addr} {x : Value} {d : V} (R : Hp c B H s) (h : dgetW H (.ref a) (av x) d Q) : Ex3 fun k t es => An3 (x = .int k t) (H.see a = some (.dct es)) (Q ((get es k).getD d) H) := by
  refine nn fun hC => ?_
  obtain ⟨k, t, rfl, h⟩ := ifI h
  obtain ⟨es, e, h⟩ := ifOD h
  refine hC ?_
  exact ⟨k, t, es, rfl, e, h⟩
theorem mt_pop (G : Gd c) {a : Addr} {x : Value} {rest : List Value} {d : Option V} (R : Hp c B H s) (hr : (rest = [] ∧ d = none) ∨ ∃ y, rest = [y] ∧ d = some (av y)) (h : dpopW H (.ref a) (av x) d Q) : wpAny (model c.prog c.w) A (call (.builtin "dict.pop") (.ref a :: x :: rest)) (PH c B Q) E s := by
  obtain ⟨k, t, rfl, h⟩ := ifI h
  obtain ⟨es, e, h⟩ := ifOD h
  cases hv : get es k with
  | some w =>
    rw [hv] at h
    exact o_dpop G R (hr.imp (·.1) fun ⟨y, e, _⟩ => ⟨y, e⟩) e hv h
  | none =>
    rw [hv] at h
    rcases hr with ⟨_, rfl⟩ | ⟨y, rfl, rfl⟩
    · exact h.elim
    · exact o_dpop2_none G R e hv h
theorem call_mt (G : Gd c) {f : Mine.B} {id : String} {a : Addr} {vs : List Value} (hf : biMt f = some id) (R : Hp c B H s) (h : biW f (.ref a :: vs.map av) H Q) : wpAny (model c.prog c.w) A (call (.builtin id) (.ref a :: vs)) (PH c B Q) E s := by
  cases f with
  | pop =>
    cases hf
    refine nn fun hC => ?_
    obtain ⟨w, e, h⟩ := bi_1 h (fun _ _ h => h) (fun _ _ _ h => h)
    obtain ⟨rfl, rfl⟩ := ml1 e
    obtain ⟨l, q, h⟩ := ifOL h
    obtain ⟨v, q', h⟩ := ifS_eq h
    refine hC ?_
    exact o_pop R q q' h
  | append =>
    cases hf
    obtain ⟨w, w2, e, h⟩ := bi_2 h (fun _ h => h) (fun _ _ _ h => h)
    obtain ⟨rfl, x, rfl, rfl⟩ := ml2 e
    obtain ⟨l, q, h⟩ := ifOL h
    exact o_append R q h.1 h.2
  | extend =>
    cases hf
    obtain ⟨w, w2, e, h⟩ := bi_2 h (fun _ h => h) (fun _ _ _ h => h)
    obtain ⟨rfl, x, rfl, rfl⟩ := ml2 e
    obtain ⟨b, rfl, h⟩ := ifR h
    obtain ⟨l, q, h⟩ := ifOL h
    obtain ⟨r, q', h⟩ := ifOL h
    exact o_extend R q q' h.1 h.2.1 h.2.2
  | dget1 =>
    cases hf
    obtain ⟨w, w2, e, h⟩ := bi_2 h (fun _ h => h) (fun _ _ _ h => h)
    obtain ⟨rfl, x, rfl, rfl⟩ := ml2 e
    obtain ⟨k, t, es, rfl, q, hh⟩ := mt_get G R h
    exact o_dget1 G R q hh
  | dget2 =>
    cases hf
    obtain ⟨w, w2, w3, e, h⟩ := bi_3 h (fun _ h => h) (fun _ _ h => h)
    obtain ⟨rfl, x, y, rfl, rfl, rfl⟩ := ml3 e
    obtain ⟨k, t, es, rfl, q, hh⟩ := mt_get G R h
    exact o_dget2 G R q hh
  | dpop1 =>
    cases hf
    obtain ⟨w, w2, e, h⟩ := bi_2 h (fun _ h => h) (fun _ _ _ h => h)
    obtain ⟨rfl, x, rfl, rfl⟩ := ml2 e
    exact mt_pop G R (.inl ⟨rfl, rfl⟩) h
  | dpop2 =>
    cases hf
    obtain ⟨w, w2, w3, e, h⟩ := bi_3 h (fun _ h => h) (fun _ _ h => h)
    obtain ⟨rfl, x, y, rfl, rfl, rfl⟩ := ml3 e
    exact mt_pop G R (.inr ⟨_, rfl, rfl⟩) h
  | setdef =>
    cases hf
    obtain ⟨w, w2, w3, e, h⟩ := bi_3 h (fun _ h => h) (fun _ _ h => h)
    obtain ⟨rfl, x, y, rfl, rfl, rfl⟩ := ml3 e
    obtain ⟨k, t, rfl, h⟩ := ifI h
    obtain ⟨es, q, h⟩ := ifOD h
    exact o_setdef G R q h
  | update =>
    cases hf
    obtain ⟨w, w2, e, h⟩ := bi_2 h (fun _ h => h) (fun _ _ _ h => h)
    obtain ⟨rfl, x, rfl, rfl⟩ := ml2 e
    obtain ⟨b, rfl, h⟩ := ifR h
    obtain ⟨l, q, h⟩ := ifOD h
    obtain ⟨r, q', h⟩ := ifOD h
    exact o_update G R q q' h.1 h.2.1 h.2.2
  | _ => exact nsm hf
noncomputable def MtP (ty : String) (on : Mine.B → Bool) (x : Str × Nat × Mine.B) : Prop := on x.2.2 = true → ∃ id, An3 (biMt x.2.2 = some id) (Slot ty x.1 id) (typeOf (.builtin id) = pure (.type "method_descriptor"))
theorem mt_l : ∀ x ∈ bmTab, MtP "list" Mine.B.onList x :=
  allC (fun _ => ⟨_, rfl, F.slot_list_append, F.type_list_append⟩) (allC (fun h => nomatch h) (allC (fun h => nomatch h) (allC (fun _ => ⟨_, rfl, F.slot_list_pop, F.type_list_pop⟩) (allC (fun h => nomatch h) (allC (fun h => nomatch h)
    (allC (fun _ => ⟨_, rfl, F.slot_list_extend, F.type_list_extend⟩) (allC (fun h => nomatch h) (allC (fun h => nomatch h) allN))))))))
theorem mt_d : ∀ x ∈ bmTab, MtP "dict" Mine.B.onDict x :=
  allC (fun h => nomatch h) (allC (fun _ => ⟨_, rfl, F.slot_dict_get, F.type_dict_get⟩) (allC (fun _ => ⟨_, rfl, F.slot_dict_get, F.type_dict_get⟩) (allC (fun h => nomatch h) (allC (fun _ => ⟨_, rfl, F.slot_dict_pop, F.type_dict_pop⟩) (allC (fun _ => ⟨_, rfl, F.slot_dict_pop, F.type_dict_pop⟩)
    (allC (fun h => nomatch h) (allC (fun _ => ⟨_, rfl, F.slot_dict_setdefault, F.type_dict_setdefault⟩) (allC (fun _ => ⟨_, rfl, F.slot_dict_update, F.type_dict_update⟩) allN))))))))
theorem mt_list {f : Mine.B} {n : Str} {k : Nat} (hf : biMeth n k = some f) (hl : f.onList = true) : ∃ id, An3 (biMt f = some id) (Slot "list" n id) (typeOf (.builtin id) = pure (.type "method_descriptor")) := mt_l _ (bFind_eq hf) hl
theorem mt_dict {f : Mine.B} {n : Str} {k : Nat} (hf : biMeth n k = some f) (hl : f.onDict = true) : ∃ id, An3 (biMt f = some id) (Slot "dict" n id) (typeOf (.builtin id) = pure (.type "method_descriptor")) := mt_d _ (bFind_eq hf) hl
theorem meth_list {f : Mine.B} {n : Str} {k : Nat} {a : Addr} {l : List V} {pl : Sem Bool} {P : Value × List Value → Shared → Prop} (hf : biMeth n k = some f) (hl : f.onList = true) (R : Hp c B H s) (e : H.see a = some (.lst l))
    (q : ∀ id, biMt f = some id → P (.builtin id, [.ref a]) s) : wpAny (model c.prog c.w) A (getMethod (.ref a) n pl) P E s := by
  obtain ⟨xs, ⟨z, p⟩, e1, e2⟩ := R.see e
  obtain ⟨id, h1, h2, h3⟩ := mt_list hf hl
  exact getMethod_builtin (T := "list") ⟨_, p, rfl⟩ F.plainAttrs_list h2 h3 (fun b e => by injection e with e; subst e; exact ⟨_, p, rfl⟩) (q _ h1)
theorem meth_dict {f : Mine.B} {n : Str} {k : Nat} {a : Addr} {es : List (Int × V)} {pl : Sem Bool} {P : Value × List Value → Shared → Prop} (hf : biMeth n k = some f) (hl : f.onDict = true) (R : Hp c B H s) (e : H.see a = some (.dct es))
    (q : ∀ id, biMt f = some id → P (.builtin id, [.ref a]) s) : wpAny (model c.prog c.w) A (getMethod (.ref a) n pl) P E s := by
  obtain ⟨kvs, p, e1, e2⟩ := R.see e
  obtain ⟨id, h1, h2, h3⟩ := mt_dict hf hl
  exact getMethod_builtin p.typeIs F.plainAttrs_dict h2 h3 p.mapOf.noDict (q _ h1)
end
end Mine
end
section
open PySem PySem.W PySem.Calls PyProof.Rows
namespace Mine
theorem attrBase_plain {o : PySem.Expr} {f : Str} {env : Env} {w : Sem Value} (h : plainBase o = true) : attributeBase o f env w = w := by
  cases o <;> first | rfl | skip
  rename_i fn args kw p
  cases fn <;> first | rfl | cases h
noncomputable def cmOf : Cm → CmpOp
  | .eq => .Eq
  | .ne => .NotEq
  | .lt => .Lt
  | .le => .LtE
  | .gt => .Gt
  | .ge => .GtE
  | .is => .Is
  | .isNot => .IsNot
  | .mem => .In
  | .notMem => .NotIn
theorem trCm_eq {op : CmpOp} {o : Cm} (h : trCm op = some o) : op = cmOf o := by cases op <;> cases h <;> rfl
theorem trOp_eq {op : Operator} {o : Op} (h : trOp op = some o) : op = opOf o := by cases op <;> cases h <;> rfl
noncomputable def keyChk (K : Frag) (C : Addr) (f : Str) (a : Addr) : Bool :=
  hasDictIn K C && plainGet K C f && (findIn K (.ref C) f == some (some (.ref a))) && isFn K (.ref a) && (specialIn K (.ref a) "__get__" == some (some (.builtin "function.__get__"))) && (takesIn K (.ref a) == some false) && !copiedNames.contains f && (nmOf f).isNone
noncomputable def clsChk (K : Frag) (C : Addr) (n : Str) (f : Addr) : Bool :=
  (nsIn K mainGlobals n == some (some (.ref C))) && keepIn K (.ref C) && makesIn K C && (findIn K (.ref C) "__init__" == some (some (.ref f))) && (typeIn K (.ref f) == some (.type "function"))
structure Lw (c : Cx) (A : Around) (sp : Sp) (F : Nat → Addr) : Prop where
  G : Gd c
  hh : A.handled = none
  hu : A.units + 80 < cLine
  hK : attrChk c.K c.C = true
  tb : TbOK c F
  key : keyChk c.K c.C c.T.keyN (F c.T.keyF) = true
  cls : clsChk c.K c.C c.T.cls (F c.T.initF) = true
  calls : Calls c A sp F
  calls1 : ∀ vs, Calls c (A.under (.builtin "type.__call__" ⟨.ref c.C :: vs, []⟩)) sp F
  calls2 : Calls c A.in1.in1 sp F
section
variable {c : Cx} {B : Bs} {env : Env} {own : List Str} {sl : Sl} {m : List V} {H : AH} {s : Shared} {A : Around} {E : Value → Shared → Prop} {sp : Sp} {Q : V → AH → Prop} {sc : Scope} {F : Nat → Addr}
theorem o_cmp (L : Lw c A sp F) {op : Cm} {v w : Value} {b : Bool} (R : Hp c B H s) (h : cmpV H op (av v) (av w) = some b) (q : Q (.bool b) H) : wpAny (model c.prog c.w) A (compareOp (cmOf op) v w) (PH c B Q) E s := by
  have neg : ∀ {o : Option Bool}, o.map (!·) = some b → ∃ b', o = some b' ∧ b = !b' := fun {o} e => by
    obtain ⟨b', h1, h2⟩ := Option.map_eq_some_iff.mp e
    exact ⟨b', h1, h2.symm⟩
  cases op
  · exact o_eq R L.hu h q
  · obtain ⟨b', e, rfl⟩ := neg h; exact o_ne R L.hu e q
  · exact o_lt R h q
  · obtain ⟨b', e, rfl⟩ := neg h; exact o_le R e q
  · exact o_gt R L.hu h q
  · obtain ⟨b', e, rfl⟩ := neg h; exact o_ge R e q
  · exact o_is R h q
  · obtain ⟨b', e, rfl⟩ := neg h; exact o_isNot R e q
  · exact o_mem L.G R L.hu h q
  · obtain ⟨b', e, rfl⟩ := neg h; exact o_notMem L.G R L.hu e q
theorem ev_none {k : Nat} {pos : Pos} : EvR c A sp sc sl (.Constant .none k pos) (.c .none) := fun _ _ _ _ _ _ _ _ hsc R h => wpAny_pure ⟨_, R, h⟩
theorem ev_bool {b : Bool} {k : Nat} {pos : Pos} : EvR c A sp sc sl (.Constant (.bool b) k pos) (.c (.bool b)) := fun _ _ _ _ _ _ _ _ hsc R h => wpAny_pure ⟨_, R, h⟩
theorem ev_int {i : Int} {k : Nat} {pos : Pos} : EvR c A sp sc sl (.Constant (.int i) k pos) (.c (.int i)) := fun _ _ _ _ _ _ _ _ hsc R h => wpAny_Constant_int ⟨_, R.tok, h⟩
theorem ev_str {x : Str} {j : Nat} {k : Nat} {pos : Pos} (hx : nmOf x = some j) : EvR c A sp sc sl (.Constant (.str x) k pos) (.c (.str j)) := fun B env own m H s Q E hsc R h => Constant_str ⟨_, R.tok, by
  have e : av (.str x s.toks) = .str j := congrArg (fun o : Option Nat => o.elim V.un V.str) hx
  rw [e]; exact h⟩
theorem ev_loc {x : Str} {pos : Pos} {i : Nat} (hs : slot sl x = some i) : EvR c A sp sc sl (.Name x pos) (.loc i) := fun B env own m H s Q E hsc R h => by
  obtain ⟨v, h1, h2⟩ := ifS_eq h
  obtain ⟨w, e, h3⟩ := bb_eq h1
  obtain ⟨rfl, hne⟩ := nun_eq h3
  exact name_ok R hs e hne fun x hx => ⟨H, R, hx.symm ▸ h2⟩
theorem ev_glb (L : Lw c A sp F) {x : Str} {pos : Pos} {i : Int} (hg : glb sc x = true) (hx : c.T.consts.lookup x = some i) : EvR c A sp sc sl (.Name x pos) (.c (.int i)) := fun B env own m H s Q E hsc R h => by
  obtain ⟨t, e⟩ := L.tb.const x i hx
  exact name_glob L.G hg hsc R e ⟨H, R, h⟩
theorem ev_attr (L : Lw c A sp F) {o : PySem.Expr} {f : Str} {pos : Pos} {x : X} {k : Nat} (hb : plainBase o = true) (hf : nmOf f = some k) (h : EvR c A sp sc sl o x) : EvR c A sp sc sl (.Attribute o f pos) (.attr x k) := fun B env own m H s Q E hsc R q => by
  rw [arm_eval_Attribute, attrBase_plain hb]
  refine wpAny_bind (wpAny_mono (h hsc R q) (fun v s1 h1 => ?_) fun _ _ x => x)
  obtain ⟨H1, R1, q1⟩ := h1
  obtain ⟨w, e, q2⟩ := ifS_eq q1
  refine wpAny_bind (wpAny_standAt (wpAny_bind (wpAny_holding (wpAny_mono (lift R1 fun R2 => o_attr L.G L.hK R2 hf e q2) (fun r s2 h2 => ?_) fun _ _ x => x))))
  exact wpAny_bind (wpAny_letTemporaryGo (wpAny_pure h2))
theorem ev_neg {x : PySem.Expr} {y : X} {pos : Pos} (h : EvR c A sp sc sl x y) : EvR c A sp sc sl (.UnaryOp .USub x pos) (.neg y) := fun B env own m H s Q E hsc R q => by
  rw [arm_eval_UnaryOp]
  refine wpAny_bind (wpAny_mono (h hsc R q) (fun v s1 h1 => ?_) fun _ _ x => x)
  obtain ⟨H1, R1, q1⟩ := h1
  obtain ⟨i, hv, q2⟩ := ifS_eq q1
  obtain ⟨t, e⟩ := av_int (V.i_eq hv)
  rw [e]
  exact wpAny_bind (wpAny_standAt (wpAny_holding (neg_int ⟨_, R1.tok, q2⟩)))
theorem ev_not {x : PySem.Expr} {y : X} {pos : Pos} (h : EvR c A sp sc sl x y) : EvR c A sp sc sl (.UnaryOp .Not x pos) (.not y) := fun B env own m H s Q E hsc R q => by
  rw [arm_eval_UnaryOp]
  refine wpAny_bind (wpAny_mono (h hsc R q) (fun v s1 h1 => ?_) fun _ _ x => x)
  obtain ⟨H1, R1, q1⟩ := h1
  obtain ⟨b, hv, q2⟩ := ifS_eq q1
  rw [av_bool (V.b_eq hv)]
  refine wpAny_bind (wpAny_standAt (wpAny_holding ?_))
  unfold unaryOp
  exact wpAny_holding (wpAny_bind (wpAny_truthy_bool (wpAny_pure ⟨_, R1, q2⟩)))
theorem ev_bin {l r : PySem.Expr} {x y : X} {op : Op} {pos : Pos} (h1 : EvR c A sp sc sl l x) (h2 : EvR c A sp sc sl r y) : EvR c A sp sc sl (.BinOp l (opOf op) r pos) (.bin op x y) := fun B env own m H s Q E hsc R q => by
  refine wpAny_BinOp (wpAny_mono (h1 hsc R q) (fun v s1 e1 => ?_) fun _ _ x => x)
  obtain ⟨H1, R1, q1⟩ := e1
  refine wpAny_mono (h2 hsc R1 q1) (fun w s2 e2 => ?_) fun _ _ x => x
  obtain ⟨H2, R2, q2⟩ := e2
  exact lift R2 fun R3 => o_bin R3 q2
theorem ev_cmp (L : Lw c A sp F) {l r : PySem.Expr} {x y : X} {op : Cm} {pos : Pos} (hp : plainE r = true) (h1 : EvR c A sp sc sl l x) (h2 : EvR c A sp sc sl r y) : EvR c A sp sc sl (.Compare l [cmOf op] [r] pos) (.cmp op x y) := fun B env own m H s Q E hsc R q => by
  refine wpAny_Compare1 (wpAny_mono (h1 hsc R q) (fun v s1 e1 => ?_) fun _ _ x => x) (plain_marks hp)
  obtain ⟨H1, R1, q1⟩ := e1
  refine wpAny_mono (h2 hsc R1 q1) (fun w s2 e2 => ?_) fun _ _ x => x
  obtain ⟨H2, R2, q2⟩ := e2
  obtain ⟨b, e, q3⟩ := ifS_eq q2
  exact lift R2 fun R3 => o_cmp L R3 e q3
theorem ev_ite {t b o : PySem.Expr} {x y z : X} {pos : Pos} (h1 : CoR c A sp sc sl t x) (h2 : EvR c A sp sc sl b y) (h3 : EvR c A sp sc sl o z) : EvR c A sp sc sl (.IfExp t b o pos) (.ite x y z) := fun B env own m H s Q E hsc R q => by
  rw [arm_eval_IfExp]
  refine wpAny_bind (wpAny_mono (h1 hsc (fun v H h => ifB_b h) R q) (fun r s1 e1 => ?_) fun _ _ x => x)
  obtain ⟨H1, R1, q1⟩ := e1
  cases r with
  | true => exact h2 hsc R1 q1
  | false => exact h3 hsc R1 q1
theorem evs_len {es : List PySem.Expr} {xs : List X} (h : EsR c A sp sc sl es xs) : es.length = xs.length := h.1.2
theorem ev_list {es : List PySem.Expr} {xs : List X} {pos : Pos} (hl : es.length ≤ sz) (h : EsR c A sp sc sl es xs) : EvR c A sp sc sl (.List es pos) (.list xs) := fun B env own m H s Q E hsc R q => by
  rw [arm_eval_List, plain_each h.1.1, back_each]
  refine wpAny_bind (wpAny_standAt (wpAny_bind (wpAny_mono (h.2 hsc R q) (fun vs s1 e1 => ?_) fun _ _ x => x)))
  obtain ⟨z, H1, R1, q1⟩ := e1
  exact lift R1 fun R2 => o_newList R2 (by rw [z]; exact hl) q1
theorem ev_tup {es : List PySem.Expr} {xs : List X} {k : Nat} {pos : Pos} (hl : es.length ≤ sz) (h : EsR c A sp sc sl es xs) : EvR c A sp sc sl (.Tuple es k pos) (.tup xs) := fun B env own m H s Q E hsc R q => by
  rw [arm_eval_Tuple, plain_each h.1.1, back_each]
  refine wpAny_bind (wpAny_standAt (wpAny_bind (wpAny_mono (h.2 hsc R q) (fun vs s1 e1 => ?_) fun _ _ x => x)))
  obtain ⟨z, H1, R1, q1⟩ := e1
  exact lift R1 fun R2 => o_newTuple R2 (by rw [z]; exact hl) q1
end
end Mine
end
section
open PySem PySem.W PySem.Calls PyProof.Rows
set_option tactic.hygienic false
namespace Mine
section
variable {c : Cx} {B : Bs} {H : AH} {s : Shared} {A : Around} {E : Value → Shared → Prop} {Q : V → AH → Prop}
theorem adjust_upto (a n : Nat) (ha : a ≤ n) : Builtin.Slice.sliceAdjust none (some (a : Int)) 1 (n : Int) = (0, (a : Int)) := by
  unfold Builtin.Slice.sliceAdjust
  have h1 : ¬ ((1 : Int) < 0) := by lia
  have h2 : ¬ ((a : Int) < 0) := by lia
  simp only [h1, h2, if_false]
  congr 1
  lia
theorem places_upto (a : Nat) : Builtin.Slice.slicePlaces (0 : Int) (a : Int) 1 = a := by
  unfold Builtin.Slice.slicePlaces
  have h1 : (1 : Int) > 0 := by lia
  simp only [h1, if_true, Int.ediv_one]
  split <;> lia
theorem sliceApplied_upto {prog : Program} {w : World} {sl : Addr} {a n : Nat} {u : Tok} {Q : Int × Int × Nat → Shared → Prop} (hs : s.heap.IsSliceOf sl .none (.int a u) .none) (ha : a ≤ n) (h : Q (0, 1, a) s) :
    wpAny (model prog w) A (Builtin.Slice.sliceApplied (.ref sl) (pure (n : Int))) Q E s := by
  refine nn fun hC => ?_
  obtain ⟨os, hos, hcs, hds⟩ := id hs
  refine hC ?_
  unfold Builtin.Slice.sliceApplied Builtin.Slice.sliceFields
  refine wpAny_bind (wpAny_bind (wpAny_field hos hds (x := .none) rfl (wpAny_bind (wpAny_field hos hds (x := .int a u) rfl (wpAny_bind (wpAny_field hos hds (x := .none) rfl (wpAny_pure ?_)))))))
  refine wpAny_bind (slicePart_none ?_)
  show wpAny _ _ (if ((1 : Int) == 0) = true then _ else _) _ _ s
  rw [if_neg (by decide)]
  refine wpAny_bind (slicePart_none (wpAny_bind (slicePart_int (wpAny_bind (wpAny_pure ?_)))))
  show wpAny _ _ (match Builtin.Slice.sliceAdjust none (some (a : Int)) 1 (n : Int) with | (lo, hi) => pure (lo, (1 : Int), Builtin.Slice.slicePlaces lo hi 1)) _ _ s
  rw [adjust_upto a n ha]
  show wpAny _ _ (pure ((0 : Int), (1 : Int), Builtin.Slice.slicePlaces (0 : Int) (a : Int) 1)) _ _ s
  rw [places_upto a]
  exact wpAny_pure h
theorem pick_upto (xs : Array Value) (a : Nat) : ((List.range a).filterMap fun (k : Nat) => xs[((0 : Int) + (k : Int) * 1).toNat]?).toArray = (xs.toList.take a).toArray := by
  have e : (fun (k : Nat) => xs[((0 : Int) + (k : Int) * 1).toNat]?) = fun k => xs[0 + k]? := by
    funext k
    have : ((0 : Int) + (k : Int) * 1).toNat = 0 + k := by lia
    rw [this]
  rw [e]
  have := pick_run xs 0 a
  rw [List.filterMap_map] at this
  have e2 : ((fun x => xs[x]?) ∘ fun x => 0 + x) = fun k => xs[0 + k]? := rfl
  rw [e2] at this
  rw [this, List.drop_zero]
theorem getItem_tuple_upto {prog : Program} {w : World} {t sl : Addr} {items : Array Value} {a : Nat} {u : Tok} {Q : Value → Shared → Prop} (ht : IsTup s.heap t items) (hs : s.heap.IsSliceOf sl .none (.int a u) .none) (ha : a < items.size)
    (h : Q (.ref s.heap.objs.size) { s with heap := s.heap.push { cls := .type "tuple", data := .seq (items.toList.take a).toArray } })
    (hsz : items.size ≤ sizeLine) : wpAny (model prog w) A (getItem (.ref t) (.ref sl)) Q E s := by
  have hdrop : sizeOk (.seq (items.toList.take a).toArray) := by
    show (items.toList.take a).toArray.size ≤ sizeLine
    rw [List.size_toArray, List.length_take, Array.length_toList]
    lia
  refine nn fun hC => ?_
  obtain ⟨os, hos, hcs, hds⟩ := id hs
  refine hC ?_
  have hTs : s.TypeIs (.ref sl) "slice" := ⟨os, hos, hcs⟩
  unfold getItem
  try with_reducible refine wpAny_holding ?_
  first | refine wpAny_bind (wpAny_pure ?_) | skip
  refine wpAny_bind (wpAny_sequenceKey ht.typeIs (by decide) ?_)
  refine wpAny_bind (wpAny_callSpecial?_slot (name := Str.ofString "__getitem__") ht.typeIs slot_tuple_getitem
    (wpAny_call_entry slot_tuple_getitem ht.typeIs entry_tuple_getitem ?_ (args_tuple_getitem _ _)))
  show wpAny _ _ (Builtin.Tuple.tupleItemsOf (.ref t) >>= _) _ _ s
  refine wpAny_bind (tupleItemsOf_ ht ?_)
  refine wpAny_bind (wpAny_typeOf hTs ?_)
  rw [if_pos (by decide)]
  refine wpAny_bind (sliceApplied_upto hs (Nat.le_of_lt ha) ?_)
  have hno : ¬ (((0 : Int) == 0 && (1 : Int) == 1 && a == items.size) = true) := by
    have : (a == items.size) = false := by rw [beq_eq_false_iff_ne]; lia
    rw [this]; simp
  show wpAny _ _ (if ((0 : Int) == 0 && (1 : Int) == 1 && a == items.size) = true then _ else _) _ _ s
  rw [if_neg hno, pick_upto items a]
  first
    | exact wpAny_bind (m := Builtin.Tuple.tupleExact _) (wpAny_newObj_type (wpAny_pure ⟨_, rfl, wpAny_pure h⟩) hdrop)
    | exact wpAny_bind (m := Builtin.Tuple.tupleExact _) (wpAny_newObj_type (wpAny_bind (wpAny_pure (wpAny_pure ⟨_, rfl, wpAny_pure h⟩))) hdrop)
    | exact wpAny_bind (wpAny_bind (m := Builtin.Tuple.tupleExact _) (wpAny_newObj_type (wpAny_pure (wpAny_pure ⟨_, rfl, wpAny_pure h⟩)) hdrop))
    | exact wpAny_bind (wpAny_bind (m := Builtin.Tuple.tupleExact _) (wpAny_newObj_type (wpAny_pure ⟨_, rfl, wpAny_pure h⟩) hdrop))
theorem o_sliceT {a sl : Addr} {xs : List V} {j : Int} {t : Tok} (R : Hp c B H s) (e : H.see a = some (.tup xs)) (hs : s.heap.IsSliceOf sl .none (.int j t) .none) (h0 : 0 ≤ j) (hj : j < xs.length)
    (q : ∀ x, H x = none → Q (.ref x) (H.set x (.tup (xs.take j.toNat)))) : wpAny (model c.prog c.w) A (getItem (.ref a) (.ref sl)) (PH c B Q) E s := by
  refine nn fun hC => ?_
  obtain ⟨ys, n, p, e1, e2⟩ := R.see e
  refine hC ?_
  have s1 := map_av e1
  have ej : j = ((j.toNat : Nat) : Int) := by lia
  rw [ej] at hs
  refine getItem_tuple_upto (tupI p) hs (by lia) (R.push (t := s.toks) (x := .tup (xs.take j.toNat)) ⟨_, 0, Heap.get?_push_size _ rfl, ?_, ?_⟩ q) (sz_line' (by lia))
  · show List.map av (ys.toList.take j.toNat) = _
    rw [List.map_take, e1]
  · rw [List.length_take]; lia
end
end Mine
end
section
open PySem PySem.W PySem.Calls PyProof.Rows
namespace Mine
section
variable {c : Cx} {B : Bs} {env : Env} {own : List Str} {sl : Sl} {m : List V} {H : AH} {s : Shared} {A : Around} {E : Value → Shared → Prop} {sp : Sp} {Q : V → AH → Prop} {sc : Scope} {F : Nat → Addr}
noncomputable def O.sb (o : O) : Bool := o.el false (lst := fun _ => true) (tup := fun _ => true) (dct := fun _ => true) (att := fun _ => true)
theorem subK_sb {k w : V} {o : O} (h : subK k o = some w) : o.sb = true := by cases o <;> first | rfl | exact nsm h
theorem tail_see {value slice : PySem.Expr} {o i : Value} {ops : List Value} {a : Addr} {x : O} {P : Value → Shared → Prop} (R : Hp c B H s) (ho : o = .ref a) (e : H.see a = some x) (hx : x.sb = true)
    (hg : wpAny (model c.prog c.w) A (getItem o i) P E s) (hs : subscripted slice false o i = operate ops (getItem o i)) : wpAny (model c.prog c.w) A (subscriptTail value slice o i) P E s := by
  subst ho
  cases x with
  | lst l =>
    obtain ⟨xs, p, e1, e2⟩ := R.see e
    exact tail_any (plainL p).typeIs slot_list_getitem.lookup hg hs
  | tup l =>
    obtain ⟨xs, n, p, e1, e2⟩ := R.see e
    exact tail_any (tupI p).typeIs slot_tuple_getitem.lookup hg hs
  | dct es =>
    obtain ⟨kvs, p, e1, e2⟩ := R.see e
    exact tail_any p.typeIs slot_dict_getitem.lookup hg hs
  | att es =>
    obtain ⟨kvs, p, e1, e2⟩ := R.see e
    exact tail_any p.typeIs slot_dict_getitem.lookup hg hs
  | _ => exact Bool.noConfusion hx
noncomputable def noSlice (e : PySem.Expr) : Bool := e.ctorIdx != 26
theorem sub_plain {slice : PySem.Expr} {o i : Value} (h : noSlice slice = true) : subscripted slice false o i = operate [o, i] (getItem o i) := by
  cases slice <;> first | rfl | cases h
theorem ev_sub {value slice : PySem.Expr} {pos : Pos} {x y : X} (hn : noSlice slice = true) (h1 : EvR c A sp sc sl value x) (h2 : EvR c A sp sc sl slice y) : EvR c A sp sc sl (.Subscript value slice pos) (.sub x y) := fun B env own m H s Q E hsc R q => by
  refine Subscript_ (wpAny_mono (h1 hsc R q) (fun v s1 e1 => ?_) fun _ _ x => x)
  obtain ⟨H1, R1, q1⟩ := e1
  refine wpAny_mono (h2 hsc R1 q1) (fun k s2 e2 => ?_) fun _ _ x => x
  obtain ⟨H2, R2, q2⟩ := e2
  obtain ⟨w, e, q3⟩ := ifS_eq q2
  obtain ⟨a, hv, h⟩ := bb_eq e
  obtain ⟨o, e', h⟩ := bb_eq h
  exact tail_see R2.hp (av_ref (V.r_eq hv)) e' (subK_sb h) (lift (A := A) (E := E) R2 fun R3 => o_getItem R3 e q3) (sub_plain hn)
noncomputable abbrev OpR (c : Cx) (A : Around) (sp : Sp) (sc : Scope) (sl : Sl) (o : Option PySem.Expr) (x : X) : Prop :=
  ∀ ⦃B : Bs⦄ ⦃env : Env⦄ ⦃own : List Str⦄ ⦃m : List V⦄ ⦃H : AH⦄ ⦃s : Shared⦄ ⦃Q : V → AH → Prop⦄ ⦃E : Value → Shared → Prop⦄, (∀ n, kd env.scope n = kd sc n) → Rep c B env own sl m H s → x.ev sp m H Q →
    wpAny (model c.prog c.w) A (evalPart o env) (PE c B env own sl m Q) E s
theorem op_none : OpR c A sp sc sl none (.c .none) := fun _ _ _ _ _ _ _ _ hsc R h => evalPart_none_step ⟨_, R, h⟩
theorem op_some {e : PySem.Expr} {x : X} (h : EvR c A sp sc sl e x) : OpR c A sp sc sl (some e) x := fun _ _ _ _ _ _ _ _ hsc R q => evalPart_some_step (h hsc R q)
theorem sliceNew {h : Heap} {l u t : Value} : (h.push { cls := .type "slice", data := .fields #[l, u, t] }).IsSliceOf h.objs.size l u t := Heap.IsSliceOf.new ..
theorem ev_slice {value : PySem.Expr} {lo hi : Option PySem.Expr} {p pos : Pos} {x y z : X} (h1 : EvR c A sp sc sl value x) (h2 : OpR c A sp sc sl lo y) (h3 : OpR c A sp sc sl hi z) :
    EvR c A sp sc sl (.Subscript value (.Slice lo hi none p) pos) (.slice x y z) := fun B env own m H s Q E hsc R q => by
  refine Subscript_ (wpAny_mono (h1 hsc R q) (fun v s1 e1 => ?_) fun _ _ x => x)
  obtain ⟨H1, R1, q1⟩ := e1
  refine wpAny_Slice (wpAny_mono (h2 hsc R1 q1) (fun l s2 e2 => ?_) fun _ _ x => x)
  obtain ⟨H2, R2, q2⟩ := e2
  refine wpAny_mono (h3 hsc R2 q2) (fun u s3 e3 => ?_) fun _ _ x => x
  obtain ⟨H3, R3, q3⟩ := e3
  refine evalPart_none_step ?_
  have R4 : Rep c B env own sl m H3 { s3 with heap := s3.heap.push { cls := .type "slice", data := .fields #[l, u, .none] } } := R3.grow (t := s3.toks) fun b o e => Heap.get?_push_of_some _ e
  obtain ⟨a, hv, q4⟩ := ifS_eq q3
  obtain ⟨o, e, q5⟩ := ifS_eq q4
  have hv' := av_ref (V.r_eq hv)
  clear q q1 q2 q3 q4 hv
  cases o with
    | lst xs =>
      obtain ⟨i, e1, q6⟩ := ifS_eq q5
      obtain ⟨j, e2, q7⟩ := ifS_eq q6
      refine tail_see (ops := [.ref s3.heap.objs.size, v]) R4.hp hv' e rfl ?_ rfl
      rw [hv']
      exact lift R4 fun R5 => o_slice R5 e sliceNew e1 e2 q7
    | tup xs =>
      obtain ⟨j, e2, q6⟩ := ifS_eq q5.2
      refine tail_see (ops := [.ref s3.heap.objs.size, v]) R4.hp hv' e rfl ?_ rfl
      rw [hv']
      have hl := av_none q5.1
      obtain ⟨t, ht⟩ := av_int (V.i_eq e2)
      exact lift R4 fun R5 => o_sliceT R5 e (by rw [← hl, ← ht]; exact sliceNew) q6.1 q6.2.1 q6.2.2
    | _ => exact q5.elim
theorem ev_rev {value : PySem.Expr} {k : Nat} {p p1 p2 pos : Pos} {x : X} (h1 : EvR c A sp sc sl value x) :
    EvR c A sp sc sl (.Subscript value (.Slice none none (some (.UnaryOp .USub (.Constant (.int 1) k p1) p2)) p) pos) (.rev x) := fun B env own m H s Q E hsc R q => by
  refine Subscript_ (wpAny_mono (h1 hsc R q) (fun v s1 e1 => ?_) fun _ _ x => x)
  obtain ⟨H1, R1, q1⟩ := e1
  refine wpAny_Slice (evalPart_none_step (evalPart_none_step (evalPart_some_step ?_)))
  rw [arm_eval_UnaryOp]
  refine wpAny_bind (wpAny_Constant_int (wpAny_bind (wpAny_standAt (wpAny_holding (neg_int ?_)))))
  obtain ⟨a, hv, q2⟩ := ifS_eq q1
  obtain ⟨o, e, q3⟩ := ifS_eq q2
  obtain ⟨xs, e2, q4⟩ := ifS_eq q3
  have hv' := av_ref (V.r_eq hv)
  rw [O.l_eq e2] at e
  have R4 := R1.grow (h' := s1.heap.push { cls := .type "slice", data := .fields #[.none, .none, .int (-1) (s1.toks + 1)] }) (t := s1.toks + 1 + 1) fun b o e => Heap.get?_push_of_some _ e
  refine tail_see (ops := [v, .ref s1.heap.objs.size]) R4.hp hv' e rfl ?_ rfl
  rw [hv']
  exact lift R4 fun R5 => o_rev R5 e sliceNew ⟨_, rfl⟩ q4
end
end Mine
end
section
open PySem PySem.W PySem.Calls PyProof.Rows
namespace Mine
theorem allSome_cons {α : Type} {o : Option α} {l : List (Option α)} {r : List α} (h : allSome (o :: l) = some r) : Ex2 fun a r' => An3 (o = some a) (allSome l = some r') (r = a :: r') := by
  obtain ⟨a, h1, h⟩ := bb_eq h
  obtain ⟨r', h2, h⟩ := b1_eq h
  exact ⟨a, r', h1, h2, h.symm⟩
theorem allSome_eq {α : Type} : ∀ {l : List (Option α)} {r : List α}, allSome l = some r → l = r.map some
  | [], r, h => by cases h; rfl
  | o :: l, r, h => by
    obtain ⟨a, r', rfl, h1, rfl⟩ := allSome_cons h
    rw [allSome_eq h1]; rfl
theorem constStr_eq {e : PySem.Expr} {x : Str} (h : constStr e = some x) : ∃ k pos, e = .Constant (.str x) k pos := by
  obtain ⟨c, h1, h2⟩ := bb_eq h
  obtain ⟨j, p, h3⟩ := constOf_inv e c h1
  exact ⟨j, p, by rw [h3, strK_inv c x h2]⟩
section
variable {c : Cx} {B : Bs} {env : Env} {own : List Str} {sl : Sl} {m : List V} {H : AH} {s : Shared} {A : Around} {E : Value → Shared → Prop} {sp : Sp} {Q : V → AH → Prop} {sc : Scope} {F : Nat → Addr}
inductive EvsR (c : Cx) (A : Around) (sp : Sp) (sc : Scope) (sl : Sl) : List PySem.Expr → List X → Prop
  | nil : EvsR c A sp sc sl [] []
  | cons {e : PySem.Expr} {es : List PySem.Expr} {x : X} {xs : List X} (hp : plainE e = true) (h : EvR c A sp sc sl e x) (hs : EvsR c A sp sc sl es xs) : EvsR c A sp sc sl (e :: es) (x :: xs)
theorem EvsR.es {es : List PySem.Expr} {xs : List X} (h : EvsR c A sp sc sl es xs) : EsR c A sp sc sl es xs := by
  induction h with
  | nil => exact es_nil
  | cons hp h hs ih => exact es_cons hp h ih
theorem pairs_ok {ks : List PySem.Expr} {vs : List PySem.Expr} {xs : List X} {pos : Pos} (h : EvsR c A sp sc sl vs xs) : ∀ {ks : List PySem.Expr} {ss : List Str} {H : AH} {s : Shared} {B : Bs} {env : Env} {own : List Str} {m : List V} {Q : List V → AH → Prop},
    (∀ n, kd env.scope n = kd sc n) → Rep c B env own sl m H s → allSome (ks.map constStr) = some ss → ks.length = vs.length → X.evs sp xs m H Q →
    wpAny (model c.prog c.w) A (evalPairs (pairTrees (ks.map some) vs env pos)) (fun ps s' => Ex2 fun vals H' => An5 (allStrKeys ps = true) (strPairs ps = ss.zip vals) (vals.length = ss.length) (Rep c B env own sl m H' s') (Q (vals.map av) H')) E s := by
  induction h with
  | nil =>
    intro ks ss H s B env own m Q hsc R hk hl q
    cases ks with
    | cons k ks => cases hl
    | nil => cases hk; exact pairTrees_nil_walk ⟨[], H, rfl, rfl, rfl, R, q⟩
  | @cons e es x xs hp h hs ih =>
    intro ks ss H s B env own m Q hsc R hk hl q
    cases ks with
    | nil => cases hl
    | cons k ks =>
      refine nn fun hC => ?_
      obtain ⟨y, ss', e1, e2, rfl⟩ := allSome_cons hk
      obtain ⟨kk, kp, rfl⟩ := constStr_eq e1
      refine hC ?_
      refine pairTrees_cons_walk (Constant_str ?_)
      refine wpAny_mono (h hsc R.tok q) (fun v s1 h1 => ?_) fun _ _ x => x
      obtain ⟨H1, R1, q1⟩ := h1
      refine wpAny_mono (ih hsc R1 e2 (by simpa using hl) q1) (fun ps s2 h2 => ?_) fun _ _ x => x
      refine nn fun hC => ?_
      obtain ⟨vals, H2, a1, a2, a3, R2, q2⟩ := h2
      refine hC ?_
      exact ⟨v :: vals, H2, a1, by simp [strPairs, a2], by simp [a3], R2, q2⟩
theorem newDict_rep (R : Rep c B env own sl m H s) : Rep c (Mine.hold B (s.heap.push { cls := .type "dict", data := .dict #[] }) [s.heap.objs.size]) env own sl m H { s with heap := s.heap.push { cls := .type "dict", data := .dict #[] } } ∧
    Rep c B env own sl m H { s with heap := s.heap.push { cls := .type "dict", data := .dict #[] } } ∧ (∀ a ∈ [s.heap.objs.size], Out B env H a) := by
  have R1 : Rep c B env own sl m H { s with heap := s.heap.push { cls := .type "dict", data := .dict #[] } } := R.grow (t := s.toks) fun b o e => Heap.get?_push_of_some _ e
  have ho : ∀ a ∈ [s.heap.objs.size], Out B env H a := fun a ha => by
    simp only [List.mem_cons, List.not_mem_nil, or_false] at ha; subst ha; exact R.out (freshA s)
  exact ⟨R1.hold ho, R1, ho⟩
theorem ev_dict0 {pos : Pos} : EvR c A sp sc sl (.Dict [] [] pos) .dict0 := fun B env own m H s Q E hsc R q => by
  have hs := freshA s
  refine wpAny_Dict_empty ⟨_, (newDict_rep R).2.1.take (R.out hs) ?_, q _ (R.hp.fresh hs)⟩
  exact ⟨[], ⟨_, _, _, Heap.get?_push_size _ rfl, ⟨rfl, rfl, rfl⟩, rfl, fun e he => (by simp at he), .nil, List.nodup_nil⟩, rfl, Nat.zero_le _⟩
theorem dictNil {K : Type} [DecidableEq K] {prog : Program} {w : World} {knd : KeyKind prog w K} {h : Heap} {a : Addr} (e : h.get? a = some { cls := .type "dict", data := .dict #[] }) : h.DictOf knd a [] :=
  ⟨_, _, _, e, ⟨rfl, rfl, rfl⟩, rfl, fun e he => (by simp at he), .nil, List.nodup_nil⟩
theorem ev_dictS {ks : List PySem.Expr} {ss : List Str} {is : List Nat} {vs : List PySem.Expr} {xs : List X} {pos : Pos} (hk : allSome (ks.map constStr) = some ss) (hi : allSome (ss.map nmOf) = some is) (hl : is.length = vs.length) (hn : is.Nodup) (h8 : is.length ≤ 8)
    (h0 : ks ≠ []) (h : EvsR c A sp sc sl vs xs) : EvR c A sp sc sl (.Dict (ks.map some) vs pos) (.dictS is xs) := fun B env own m H s Q E hsc R q => by
  obtain ⟨l1, l2⟩ := allSome_map hk
  obtain ⟨l3, l4⟩ := allSome_map hi
  refine wpAny_Dict_walk (knd := strKind c.prog c.w) (by simp) (by rw [List.length_map]; lia) (by simpa using h0) (by rw [List.length_map]; lia) ?_
  obtain ⟨R1, R2, ho⟩ := newDict_rep R
  refine wpAny_mono (pairs_ok (ks := ks) h hsc R1 hk (by lia) q) (fun ps s1 h1 => ?_) fun _ _ x => x
  refine nn fun hC => ?_
  obtain ⟨vals, H', a1, a2, a3, R3, q3⟩ := h1
  obtain ⟨R4, k4⟩ := R2.unhold R3 ho
  obtain ⟨aD, oD⟩ := k4 s.heap.objs.size (by simp) _ (Heap.get?_push_size _ rfl)
  refine hC ?_
  have inj : ∀ {ss : List Str} {is : List Nat}, allSome (ss.map nmOf) = some is → is.Nodup → ss.Nodup := by
    intro ss
    induction ss with
    | nil => intro _ _ _; exact List.nodup_nil
    | cons x r ih =>
      intro is h hn
      refine nn fun hC => ?_
      obtain ⟨k, is', e1, e2, rfl⟩ := allSome_cons h
      refine hC ?_
      rw [List.nodup_cons] at hn ⊢
      refine ⟨fun hm => hn.1 ?_, ih e2 hn.2⟩
      obtain ⟨i, hlt, hi⟩ := List.mem_iff_getElem.mp hm
      obtain ⟨y, y1, y2⟩ := (allSome_map e2).2 i x (by rw [List.getElem?_eq_getElem hlt, hi])
      rw [e1] at y1; cases y1
      exact List.mem_of_getElem? y2
  have hnd : ((strPairs ps).map (·.1)).Nodup := by
    rw [a2, List.map_fst_zip (by lia)]; exact inj hi hn
  refine display_done_str a1 hnd (dictNil aD) fun h' hm hs => ?_
  have R5 : Rep c B env own sl m H' { s1 with heap := h', toks := s1.toks + ps.length } := R4.away oD hs.extBut
  refine ⟨_, R5.take (x := .att (is.zip (vals.map av))) oD ⟨strPairs ps, hm, ?_, ?_⟩, q3 _ oD.h⟩
  · rw [a2]
    have key : ∀ {ss : List Str} {is : List Nat} {vals : List Value}, allSome (ss.map nmOf) = some is → vals.length = ss.length → (ss.zip vals).map (fun e => (nmOf e.1, av e.2)) = (is.zip (vals.map av)).map fun e => (some e.1, e.2) := by
      intro ss
      induction ss with
      | nil => intro is vals h _; cases h; rfl
      | cons x r ih =>
        intro is vals h hl
        obtain ⟨k, is', e1, e2, rfl⟩ := allSome_cons h
        cases vals with
        | nil => cases hl
        | cons v vals =>
          simp only [List.zip_cons_cons, List.map_cons, e1]
          rw [ih e2 (by simpa using hl)]
    exact key hi a3
  · rw [List.length_zip, List.length_map]; lia
theorem ev_dict1 {k v : PySem.Expr} {x y : X} {pos : Pos} (h1 : EvR c A sp sc sl k x) (h2 : EvR c A sp sc sl v y) : EvR c A sp sc sl (.Dict [some k] [v] pos) (.dict1 x y) := fun B env own m H s Q E hsc R q => by
  refine wpAny_Dict_walk (knd := intKind c.prog c.w) rfl rfl (by simp) (by simp) ?_
  obtain ⟨R1, R2, ho⟩ := newDict_rep R
  refine pairTrees_cons_walk (wpAny_mono (h1 hsc R1 q) (fun kv s1 e1 => ?_) fun _ _ x => x)
  obtain ⟨H1, R3, q1⟩ := e1
  refine wpAny_mono (h2 hsc R3 q1) (fun vv s2 e2 => ?_) fun _ _ x => x
  obtain ⟨H2, R4, q2⟩ := e2
  refine pairTrees_nil_walk ?_
  obtain ⟨R5, k5⟩ := R2.unhold R4 ho
  obtain ⟨aD, oD⟩ := k5 s.heap.objs.size (by simp) _ (Heap.get?_push_size _ rfl)
  obtain ⟨i, hi, q3⟩ := ifS_eq q2
  obtain ⟨t, e⟩ := av_int (V.i_eq hi)
  rw [e]
  refine display_done_int rfl (by simp [intKeyPairs]) (dictNil aD) fun h' hm hs => ?_
  exact ⟨_, (R5.away (t := s2.toks + 1) oD hs.extBut).take (x := .dct [(i, av vv)]) oD ⟨_, hm, rfl, show 1 ≤ sz by decide⟩, q3 _ oD.h⟩
theorem co_plain {e : PySem.Expr} {x : X} (he : ∀ {env : Env} {whole : Sem Value}, isTrue e env whole = (do let v ← whole; standAt e.pos; holding [v] (truthy v))) (h : EvR c A sp sc sl e x) : CoR c A sp sc sl e x := fun B env own m H s Q E hsc hb R q => by
  refine isTrue_plain (wpAny_mono (h hsc R q) (fun v s1 h1 => ?_) fun _ _ x => x) he
  obtain ⟨H1, R1, q1⟩ := h1
  obtain ⟨b, e⟩ := hb _ _ q1
  have := av_bool e
  subst this
  exact wpAny_truthy_bool ⟨H1, R1, q1⟩
theorem co_not {e : PySem.Expr} {x : X} {pos : Pos} (h : CoR c A sp sc sl e x) : CoR c A sp sc sl (.UnaryOp .Not e pos) (.not x) := fun B env own m H s Q E hsc hb R q => by
  refine isTrue_not (wpAny_mono (h hsc (fun v H h => ifS_b h) R q) (fun b s1 h1 => ?_) fun _ _ x => x)
  exact h1
theorem co_and_nil {pos : Pos} : CoR c A sp sc sl (.BoolOp .And [] pos) (.c (.bool true)) := fun _ _ _ _ _ _ _ _ hsc hb R q => isTrue_and_nil ⟨_, R, q⟩
theorem co_or_nil {pos : Pos} : CoR c A sp sc sl (.BoolOp .Or [] pos) (.c (.bool false)) := fun _ _ _ _ _ _ _ _ hsc hb R q => isTrue_or_nil ⟨_, R, q⟩
theorem co_and {e : PySem.Expr} {es : List PySem.Expr} {x y : X} {pos : Pos} (h1 : CoR c A sp sc sl e x) (h2 : CoR c A sp sc sl (.BoolOp .And es pos) y) : CoR c A sp sc sl (.BoolOp .And (e :: es) pos) (.and x y) := fun B env own m H s Q E hsc hb R q => by
  refine isTrue_and (wpAny_mono (h1 hsc (fun v H h => ifB_b h) R q) (fun b s1 e1 => ?_) fun _ _ x => x)
  obtain ⟨H1, R1, q1⟩ := e1
  cases b with
  | false => exact ⟨H1, R1, q1⟩
  | true =>
    refine wpAny_mono (h2 hsc (fun v H h => ifS_b h) R1 q1) (fun b s2 e2 => ?_) fun _ _ x => x
    exact e2
theorem co_or {e : PySem.Expr} {es : List PySem.Expr} {x y : X} {pos : Pos} (h1 : CoR c A sp sc sl e x) (h2 : CoR c A sp sc sl (.BoolOp .Or es pos) y) : CoR c A sp sc sl (.BoolOp .Or (e :: es) pos) (.or x y) := fun B env own m H s Q E hsc hb R q => by
  refine isTrue_or (wpAny_mono (h1 hsc (fun v H h => ifB_b h) R q) (fun b s1 e1 => ?_) fun _ _ x => x)
  obtain ⟨H1, R1, q1⟩ := e1
  cases b with
  | true => exact ⟨H1, R1, q1⟩
  | false =>
    refine wpAny_mono (h2 hsc (fun v H h => ifS_b h) R1 q1) (fun b s2 e2 => ?_) fun _ _ x => x
    exact e2
theorem o_cmpT (L : Lw c A sp F) {op : Cm} {v w : Value} {b : Bool} {P : Bool → Shared → Prop} (R : Rep c B env own sl m H s) (e : cmpV H op (av v) (av w) = some b) (q : ∀ s', Rep c B env own sl m H s' → P b s') : wpAny (model c.prog c.w) A (compareOp (cmOf op) v w) (fun v s' => wpAny (model c.prog c.w) A (truthy v) P E s') E s := by
  refine wpAny_mono (lift (Q := fun v H' => v = .bool b ∧ H' = H) R fun R3 => o_cmp L R3 e ⟨rfl, rfl⟩) (fun v s3 e3 => ?_) fun _ _ x => x
  obtain ⟨H3, R3, q3, rfl⟩ := e3
  rw [av_bool q3]
  exact wpAny_truthy_bool (q _ R3)
theorem co_cmp (L : Lw c A sp F) {l r : PySem.Expr} {x y : X} {op : Cm} {pos : Pos} (hp : plainE r = true) (h1 : EvR c A sp sc sl l x) (h2 : EvR c A sp sc sl r y) : CoR c A sp sc sl (.Compare l [cmOf op] [r] pos) (.cmp op x y) := fun B env own m H s Q E hsc hb R q => by
  refine wpAny_isTrue_Compare1 (wpAny_mono (h1 hsc R q) (fun v s1 e1 => ?_) fun _ _ x => x) (plain_marks hp)
  obtain ⟨H1, R1, q1⟩ := e1
  refine wpAny_mono (h2 hsc R1 q1) (fun w s2 e2 => ?_) fun _ _ x => x
  obtain ⟨H2, R2, q2⟩ := e2
  obtain ⟨b, e, q3⟩ := ifS_eq q2
  exact o_cmpT L R2 e fun s3 R3 => ⟨H2, R3, q3⟩
theorem co_cmp2 (L : Lw c A sp F) {a b d : PySem.Expr} {x y z : X} {o1 o2 : Cm} {pos : Pos} (hp : plainE d = true) (h1 : EvR c A sp sc sl a x) (h2 : EvR c A sp sc sl b y) (h3 : EvR c A sp sc sl d z) : CoR c A sp sc sl (.Compare a [cmOf o1, cmOf o2] [b, d] pos) (.cmp2 o1 o2 x y z) := fun B env own m H s Q E hsc hb R q => by
  refine isTrue_chain (rs := []) (wpAny_mono (h1 hsc R q) (fun v s1 e1 => ?_) fun _ _ x => x) ?_
  · obtain ⟨H1, R1, q1⟩ := e1
    refine test_link (wpAny_mono (h2 hsc R1 q1) (fun w s2 e2 => ?_) fun _ _ x => x)
    obtain ⟨H2, R2, q2⟩ := e2
    obtain ⟨b, e, q3⟩ := ifS_eq q2
    refine o_cmpT L R2 e fun s3 R3 => ?_
    cases b with
    | true =>
      refine test_last (wpAny_mono (h3 hsc R3 q3) (fun u s4 e4 => ?_) fun _ _ x => x)
      obtain ⟨H4, R4, q4⟩ := e4
      obtain ⟨b, e, q5⟩ := ifS_eq q4
      exact o_cmpT L R4 e fun s5 R5 => ⟨H4, R5, q5⟩
    | false => exact ⟨H2, R3, q3⟩
  · have := plain_marks (op := cmOf o2) hp
    show lastMarks [cmOf o1, cmOf o2] [b, d] = false
    simpa [lastMarks] using this
end
end Mine
end
section
open PySem PySem.W PySem.Calls PyProof.Rows
set_option tactic.hygienic false
namespace Mine
section
variable {c : Cx} {B : Bs} {H : AH} {s : Shared} {A : Around} {E : Value → Shared → Prop}
structure OutH (B : Bs) (H : AH) (a : Addr) : Prop where
  b : B a = none
  h : H a = none
theorem Hp.outH (R : Hp c B H s) {a : Addr} (ha : s.heap.get? a = none) : OutH B H a := ⟨R.freshB ha, R.fresh ha⟩
theorem Hp.away (R : Hp c B H s) {a : Addr} {h' : Heap} {t : Nat} (o : OutH B H a) (hs : Heap.ExtBut a s.heap h') : Hp c B H { s with heap := h', toks := t } := by
  refine ⟨R.gens, R.base, fun b x e => hs b x (by rintro rfl; rw [o.b] at e; cases e) (R.keep b x e), fun b x e => ?_, R.apart⟩
  obtain ⟨y, hy⟩ := (R.real b x e).get
  exact (R.real b x e).congr ((hs b y (by rintro rfl; rw [o.h] at e; cases e) hy).trans hy.symm)
theorem Hp.hold (R : Hp c B H s) {as : List Addr} (o : ∀ a ∈ as, OutH B H a) : Hp c (Mine.hold B s.heap as) H s := by
  refine ⟨R.gens, fun b x e => ?_, fun b x e => ?_, R.real, fun a x e => ?_⟩
  · unfold Mine.hold; split
    · exact R.keep _ _ (R.base _ _ e)
    · exact R.base _ _ e
  · unfold Mine.hold at e; split at e
    · exact e
    · exact R.keep _ _ e
  · unfold Mine.hold; split
    · rename_i q; have := (o _ q).h; rw [e] at this; cases this
    · exact R.apart _ _ e
theorem Hp.unhold (R : Hp c B H s) {as : List Addr} {H' : AH} {s' : Shared} (R' : Hp c (Mine.hold B s.heap as) H' s') (o : ∀ a ∈ as, OutH B H a) :
    Hp c B H' s' ∧ ∀ a ∈ as, ∀ x, s.heap.get? a = some x → s'.heap.get? a = some x ∧ OutH B H' a := by
  have inB : ∀ b x, B b = some x → Mine.hold B s.heap as b = some x := fun b x e => by
    unfold Mine.hold; split
    · rename_i q; rw [(o _ q).b] at e; cases e
    · exact e
  refine ⟨⟨R'.gens, R.base, fun b x e => R'.keep _ _ (inB _ _ e), R'.real, fun a x e => ?_⟩, fun a ha x e => ?_⟩
  · cases q : B a with
    | none => rfl
    | some y => have := R'.apart _ _ e; rw [inB _ _ q] at this; cases this
  · have hb : Mine.hold B s.heap as a = some x := by unfold Mine.hold; rw [if_pos ha]; exact e
    refine ⟨R'.keep _ _ hb, (o a ha).b, ?_⟩
    cases q : H' a with
    | none => rfl
    | some y => have := R'.apart _ _ q; rw [hb] at this; cases this
variable {a kS : Addr} {b : Bool} {vs : List Value} {kz : List Int} {keys : Array Value} {e e1 : Nat} {P : PySem.Fin → Shared → Prop}
theorem ks_tail {st : SortSt} (R : Hp c B H s) (oa : OutH B H a) (ok : OutH B H kS) (na : s.heap.get? a = some (seqObj "list" #[] e1)) (nk : s.heap.get? kS = some (seqObj "list" keys e)) (hka : kS ≠ a)
    (hk : IntsAre keys.toList kz) (hlen : kz.length = vs.length) (h64 : vs.length < 64) (hp : (arrOf st).Perm (keys.zip vs.toArray)) (hs : SortedTo (arrOf st) (arrOf st).size) (hfl : failedOf st = none)
    (h : ∀ h' tk out c', Hp c B H { s with heap := h', toks := tk } → h'.get? a = some (seqObj "list" out c') → KskOut b kz vs out.toList → P (.done (.ret .none)) { s with heap := h', toks := tk }) :
    wpAny (model c.prog c.w) A (ksk_tail a b e1 (.ref kS) st) P E s := by
  have hsz : keys.size = vs.length := by
    have h1 := hk.length
    rw [Array.length_toList] at h1
    lia
  have hsz2 : (arrOf st).size = vs.length := by rw [hp.size_eq, Array.size_zip, hsz, List.size_toArray, Nat.min_self]
  have hout : (if b then ((arrOf st).map (·.2)).reverse else (arrOf st).map (·.2)).size = vs.length := by
    cases b with
    | false => simp only [Bool.false_eq_true, if_false, Array.size_map]; exact hsz2
    | true => simp only [if_true, Array.size_reverse, Array.size_map]; exact hsz2
  have s1 := Heap.SameBut.update s.heap kS (Obj.mapSeq fun _ => (#[] : Array Value))
  have na1 : (s.heap.update kS (Obj.mapSeq fun _ => (#[] : Array Value))).get? a = some (seqObj "list" #[] e1) := (s1.2 a hka.symm).trans na
  have s2 := Heap.SameBut.update (s.heap.update kS (Obj.mapSeq fun _ => (#[] : Array Value))) a (Obj.mapSeq fun _ => if b then ((arrOf st).map (·.2)).reverse else (arrOf st).map (·.2))
  have hc2 := get?_update_seq na1 fun _ => if b then ((arrOf st).map (·.2)).reverse else (arrOf st).map (·.2)
  unfold ksk_tail
  try dsimp only
  refine wpAny_bind (listUpdate_at nk rfl ?_ (by rw [hsz, sizeLine_eq]; lia) (Nat.zero_le _))
  refine wpAny_bind (wpAny_letGo ?_)
  refine wpAny_bind (seqEpoch_at na1 rfl ?_)
  refine wpAny_bind (listUpdate_at na1 rfl ?_ (Nat.zero_le _) (Nat.le_trans (Nat.le_of_eq hout) (by rw [sizeLine_eq]; lia)))
  rw [hfl]
  simp only [bne_self_eq_false, Bool.false_eq_true, if_false]
  exact wpAny_pure (h _ s.toks _ _ ((R.away (t := s.toks) ok s1.extBut).away (t := s.toks) oa s2.extBut) hc2 (ksk_out hk hp hs))
theorem ks_end (R : Hp c B H s) (oa : OutH B H a) (ok : OutH B H kS) (na : s.heap.get? a = some (seqObj "list" #[] e1)) (nk : s.heap.get? kS = some (seqObj "list" keys e)) (hka : kS ≠ a)
    (hk : IntsAre keys.toList kz) (hlen : kz.length = vs.length) (h64 : vs.length < 64)
    (h : ∀ h' tk out c', Hp c B H { s with heap := h', toks := tk } → h'.get? a = some (seqObj "list" out c') → KskOut b kz vs out.toList → P (.done (.ret .none)) { s with heap := h', toks := tk }) :
    wpAny (model c.prog c.w) A (ksk_end a b vs.toArray e1 (.ref kS) keys) P E s := by
  have hsz : keys.size = vs.length := by
    have h1 := hk.length
    rw [Array.length_toList] at h1
    lia
  have hzs : (keys.zip vs.toArray).size = vs.length := by rw [Array.size_zip, hsz, List.size_toArray, Nat.min_self]
  have step : ∀ t : Sem PySem.Fin, wpAny (model c.prog c.w) A t P E s → wpAny (model c.prog c.w) A (if b = true then (do let _ ← rule "list.sort.reverse"; t) else t) P E s := by
    intro t ht
    split
    · exact wpAny_bind (wpAny_rule ht)
    · exact ht
  have hstart : (if b = true then (keys.zip vs.toArray).reverse else keys.zip vs.toArray).Perm (keys.zip vs.toArray) := by
    cases b with
    | false => exact Array.Perm.refl _
    | true => exact Array.perm_iff_toList_perm.mpr (by rw [if_pos rfl, Array.toList_reverse]; exact List.reverse_perm _)
  unfold ksk_end
  try dsimp only
  refine step _ ?_
  by_cases h2 : vs.toArray.size < 2
  · rw [if_pos h2, if_pos h2]
    refine wpAny_bind (wpAny_pure ?_)
    rw [StateT.run_pure]
    refine wpAny_bind (wpAny_pure ?_)
    try dsimp only
    refine ks_tail (st := SortSt.mk' general' (if b = true then (keys.zip vs.toArray).reverse else keys.zip vs.toArray) #[] 7 none) R oa ok na nk hka hk hlen h64 hstart ?_ rfl h
    intro i j hij hj
    have hj2 : j < (if b = true then (keys.zip vs.toArray).reverse else keys.zip vs.toArray).size := hj
    rw [hstart.size_eq, hzs] at hj2
    rw [List.size_toArray] at h2
    have : i = j := by lia
    subst this
    exact Int.le_refl _
  · rw [if_neg h2, if_neg h2]
    rw [List.size_toArray] at h2
    rw [ksk_kind hk (by rw [hsz]; lia)]
    refine wpAny_bind (wpAny_pure ?_)
    refine wpAny_bind (wpAny_mono (wpS_sortRuns (a₀ := keys.zip vs.toArray) (st := SortSt.mk' oneType' (if b = true then (keys.zip vs.toArray).reverse else keys.zip vs.toArray) #[] 7 none)
      (Q := fun _ st' => (arrOf st').Perm (keys.zip vs.toArray) ∧ failedOf st' = none ∧ SortedTo (arrOf st') (keys.zip vs.toArray).size)
      (ksk_intKeys hk) ⟨hstart, rfl, rfl, rfl⟩ (by rw [hzs]; lia) (by rw [hzs]; exact h64) fun st' a1 a2 a3 => ⟨a1, a2, a3⟩) ?_ fun _ _ e => e)
    rintro ⟨⟨⟩, st'⟩ s' ⟨rfl, hp, hf, hs⟩
    try dsimp only
    exact ks_tail R oa ok na nk hka hk hlen h64 hp (by rw [hp.size_eq]; exact hs) hf h
theorem ks_rest {f : Value} (R : Hp c B H s) (oa : OutH B H a) (ok : OutH B H kS) (na : s.heap.get? a = some (seqObj "list" #[] e1)) (nk : s.heap.get? kS = some (seqObj "list" #[] 0)) (hka : kS ≠ a)
    (hlen : kz.length = vs.length) (h64 : vs.length < 64)
    (turn : ∀ (i : Nat) (v : Value) (k : Int), vs[i]? = some v → kz[i]? = some k → ∀ (B' : Bs) (s : Shared), (∀ b o, B b = some o → B' b = some o) → Hp c B' H s → wpAny (model c.prog c.w) A (call f [v]) (PH c B' fun w H' => w = .int k ∧ H' = H) (fun _ _ => False) s)
    (h : ∀ s' out c', Hp c B H s' → s'.heap.get? a = some (seqObj "list" out c') → KskOut b kz vs out.toList → P (.done (.ret .none)) s') :
    wpAny (model c.prog c.w) A (ksk_rest a f b vs.toArray e1 (.ref kS)) P E s := by
  unfold ksk_rest
  refine wpAny_bind (wpAny_rule ?_)
  first
    | rw [List.forIn_toArray]
    | (rw [← Array.forIn_toList]; simp only [List.toList_toArray])
    | rw [← Array.forIn_toList]
  refine wpAny_bind (ksk_fold (fun i s' => Ex2 fun kA e => An4 (Hp c B H s') (s'.heap.get? a = some (seqObj "list" #[] e1)) (s'.heap.get? kS = some (seqObj "list" kA e)) (IntsAre kA.toList (kz.take i))) vs 0 s
    ⟨#[], 0, R, na, nk, by simpa using IntsAre.nil⟩ ?step ?done)
  case step =>
    rintro j x s' hx ⟨kA, e, R', na', nk', hk⟩
    simp only [Nat.zero_add] at hk ⊢
    have hj : j < vs.length := (List.getElem?_eq_some_iff.mp hx).1
    obtain ⟨k, hkj⟩ : ∃ k, kz[j]? = some k := ⟨_, List.getElem?_eq_getElem (by lia)⟩
    have hz : kA.size ≤ vs.length := by
      have h1 := hk.length
      rw [Array.length_toList, List.length_take] at h1
      lia
    have ho : ∀ d ∈ [a, kS], OutH B H d := fun d hd => by
      simp only [List.mem_cons, List.not_mem_nil, or_false] at hd
      rcases hd with rfl | rfl
      · exact oa
      · exact ok
    refine wpAny_bind (wpAny_attempt (wpAny_mono (turn j x k hx hkj _ s' (fun b o e => by unfold Mine.hold; rw [if_neg (fun q => by rw [(ho b q).b] at e; cases e)]; exact e) (R'.hold ho)) (fun v s'' he => ?_) fun _ _ hF => hF.elim))
    refine nn fun hC => ?_
    obtain ⟨H2, R2, q1, rfl⟩ := he
    obtain ⟨t2, rfl⟩ := av_int q1
    obtain ⟨R3, k3⟩ := R'.unhold R2 ho
    refine hC ?_
    have na2 := (k3 a (by simp) _ na').1
    have nk2 := (k3 kS (by simp) _ nk').1
    try dsimp only
    have s1 := Heap.SameBut.update s''.heap kS (Obj.mapSeq (·.push (.int k t2)))
    have hc2 := get?_update_seq nk2 (·.push (.int k t2))
    have ek : kz.take (j + 1) = kz.take j ++ [k] := by rw [List.take_add_one, hkj]; simp
    have ea : (kA.push (Value.int k t2)).toList = kA.toList ++ [Value.int k t2] := by simp
    refine wpAny_bind (listUpdate_at nk2 rfl ?_ (by rw [sizeLine_eq]; lia) (Nat.le_trans (Nat.le_of_eq (Array.size_push ..)) (by rw [sizeLine_eq]; lia)))
    exact wpAny_pure ⟨rfl, kA.push (.int k t2), _, R3.away (t := s''.toks) ok s1.extBut, (s1.2 a hka.symm).trans na2, hc2, by rw [ea, ek]; exact ksk_snoc hk⟩
  case done =>
    rintro s' ⟨kA, e, R', na', nk', hk⟩
    have hk' : IntsAre kA.toList kz := by
      have e3 : kz.take (0 + vs.length) = kz := List.take_of_length_le (by lia)
      rw [e3] at hk
      exact hk
    try dsimp only
    refine wpAny_bind (listItems_at nk' rfl ?_)
    exact ks_end R' oa ok na' nk' hka hk' hlen h64 fun h3 tk3 out c3 R3 n3 k3 => h _ out c3 R3 n3 k3
theorem ks_sort {f : Value} {n : Nat} (R : Hp c B H s) (oa : OutH B H a) (ho : s.heap.get? a = some (seqObj "list" vs.toArray n))
    (hlen : kz.length = vs.length) (h64 : vs.length < 64)
    (turn : ∀ (i : Nat) (v : Value) (k : Int), vs[i]? = some v → kz[i]? = some k → ∀ (B' : Bs) (s : Shared), (∀ b o, B b = some o → B' b = some o) → Hp c B' H s → wpAny (model c.prog c.w) A (call f [v]) (PH c B' fun w H' => w = .int k ∧ H' = H) (fun _ _ => False) s)
    (h : ∀ s' out c', Hp c B H s' → s'.heap.get? a = some (seqObj "list" out c') → KskOut b kz vs out.toList → P (.done (.ret .none)) s') :
    wpAny (model c.prog c.w) A (ksk_tree a f b) P E s := by
  have ha : a < s.heap.objs.size := Heap.lt_size ho
  have s1 := Heap.SameBut.update s.heap a (Obj.mapSeq fun _ => (#[] : Array Value))
  have ho1 := get?_update_seq ho fun _ => #[]
  have R1 : Hp c B H { s with heap := s.heap.update a (Obj.mapSeq fun _ => (#[] : Array Value)) } := R.away (t := s.toks) oa s1.extBut
  have hkS : ((s.heap.update a (Obj.mapSeq fun _ => (#[] : Array Value))).push (seqObj "tuple" vs.toArray 0)).objs.size = s.heap.objs.size + 1 := by rw [size_push', Heap.size_update]
  unfold ksk_tree
  refine wpAny_bind (listItems_at ho rfl ?_)
  refine wpAny_bind (listUpdate_at ho rfl ?_ (by rw [List.size_toArray, sizeLine_eq]; lia) (Nat.zero_le _))
  refine wpAny_bind (seqEpoch_at ho1 rfl ?_)
  refine wpAny_bind (wpAny_newTuple ?_ (by show vs.length ≤ _; rw [sizeLine_eq]; lia))
  refine wpAny_bind (wpAny_newList ?_ (Nat.zero_le _))
  refine wpAny_holding ?_
  have R2 : Hp c B H { s with heap := (s.heap.update a (Obj.mapSeq fun _ => (#[] : Array Value))).push (seqObj "tuple" vs.toArray 0) } := R1.grow (t := s.toks) fun b o e => Heap.get?_push_of_some _ e
  have R3 : Hp c B H { s with heap := ((s.heap.update a (Obj.mapSeq fun _ => (#[] : Array Value))).push (seqObj "tuple" vs.toArray 0)).push (seqObj "list" #[] 0) } := R2.grow (t := s.toks) fun b o e => Heap.get?_push_of_some _ e
  refine ks_rest (s := { s with heap := ((s.heap.update a (Obj.mapSeq fun _ => (#[] : Array Value))).push (seqObj "tuple" vs.toArray 0)).push (seqObj "list" #[] 0) }) (kS := ((s.heap.update a (Obj.mapSeq fun _ => (#[] : Array Value))).push (seqObj "tuple" vs.toArray 0)).objs.size)
    R3 oa (R2.outH (freshA { s with heap := (s.heap.update a (Obj.mapSeq fun _ => (#[] : Array Value))).push (seqObj "tuple" vs.toArray 0) })) (Heap.get?_push_of_some _ (Heap.get?_push_of_some _ ho1)) (Heap.get?_push_size _ rfl) (by rw [hkS]; exact Nat.ne_of_gt (Nat.lt_succ_of_lt ha)) hlen h64 turn h
theorem ks_sorted {Q : V → AH → Prop} {f : Value} {r : Addr} {kw : List (Str × Value)} (C : List Value → Prop) (kz : List Value → List Int) (R : Hp c B H s) (hlen : ∀ vs, C vs → (kz vs).length = vs.length) (h64 : ∀ vs, C vs → vs.length < 64)
    (ha1 : argsOk "sorted" ⟨[.ref r], kw⟩) (ha2 : ∀ x, argsOk "list.sort" ⟨[.ref x], kw⟩) (ht : ∀ x, Builtin.«list.sort» ⟨[.ref x], kw⟩ = ksk_tree x f b)
    (col : ∀ (P : List Value → Shared → Prop) (E : Value → Shared → Prop), (∀ vs h' tk, C vs → (∀ b o, s.heap.get? b = some o → h'.get? b = some o) → P vs { s with heap := h', toks := tk }) → wpAny (model c.prog c.w) A.in1 (collect (.ref r)) P E s)
    (turn : ∀ vs, C vs → ∀ (i : Nat) (v : Value) (k : Int), vs[i]? = some v → (kz vs)[i]? = some k → ∀ (B' : Bs) (s : Shared), (∀ b o, B b = some o → B' b = some o) → Hp c B' H s → wpAny (model c.prog c.w) A.in1.in1 (call f [v]) (PH c B' fun w H' => w = .int k ∧ H' = H) (fun _ _ => False) s)
    (h : ∀ vs, C vs → ∀ out, KskOut b (kz vs) vs out → ∀ x, H x = none → Q (.ref x) (H.set x (.lst (out.map av)))) :
    wpAny (model c.prog c.w) A (call (.builtin "sorted") [.ref r] kw) (PH c B Q) E s := by
  refine call_function_entry_kw kind_sorted plain_sorted entry_sorted ha1 ?_
  unfold Builtin.«sorted»
  refine wpAny_bind (m := checkCount "sorted" 1 1 _) (wpAny_pure ?_)
  refine wpAny_bind (col _ _ fun vs h1 tk1 hC keep => ?_)
  have hlen := hlen vs hC
  have h64 := h64 vs hC
  have turn := turn vs hC
  have h := h vs hC
  have R1 : Hp c B H { s with heap := h1, toks := tk1 } := R.grow keep
  refine wpAny_bind (wpAny_newList ?_ (by rw [sizeLine_eq]; lia))
  have R2 : Hp c B H { s with heap := h1.push (seqObj "list" vs.toArray 0), toks := tk1 } := R1.grow (t := tk1) fun b o e => Heap.get?_push_of_some _ e
  have hoL : (h1.push (seqObj "list" vs.toArray 0)).get? h1.objs.size = some (seqObj "list" vs.toArray 0) := Heap.get?_push_size _ rfl
  have oL : OutH B H h1.objs.size := R1.outH (freshA { s with heap := h1, toks := tk1 })
  refine wpAny_bind (wpAny_holding (wpAny_call_entry_kw slot_list_sort ⟨_, hoL, rfl⟩ entry_list_sort ?body (ha2 _)))
  case body =>
    have ht' := ht h1.objs.size
    show wpAny (model c.prog c.w) A.in1.in1 (Builtin.«list.sort» ⟨[.ref h1.objs.size], kw⟩) _ _ _
    rw [ht']
    refine ks_sort (s := { s with heap := h1.push (seqObj "list" vs.toArray 0), toks := tk1 }) R2 oL hoL hlen h64 turn fun s' out c' R' n' k' => ⟨_, rfl, ?_⟩
    refine wpAny_pure ⟨_, rfl, _, ?_, h out.toList k' _ oL.h⟩
    have hl : out.toList.length ≤ sz := by
      obtain ⟨ps, p1, p2, p3⟩ := k'
      rw [p2, List.length_map, p1.length_eq, List.length_zip, hlen, Nat.min_self]
      unfold sz; lia
    refine ⟨R'.gens, R'.base, R'.keep, fun d y z => ?_, fun d y z => ?_⟩
    · unfold AH.set at z
      by_cases q : d = h1.objs.size
      · subst q; rw [if_pos rfl] at z; cases z; exact ⟨out, ⟨_, n'⟩, rfl, by simpa using hl⟩
      · rw [if_neg q] at z; exact R'.real _ _ z
    · unfold AH.set at z
      by_cases q : d = h1.objs.size
      · subst q; exact oL.b
      · rw [if_neg q] at z; exact R'.apart _ _ z
end
end Mine
end
section
open PySem PySem.W PySem.Calls PyProof.Rows
set_option tactic.hygienic false
namespace Mine
section
variable {c : Cx} {B : Bs} {H : AH} {s : Shared} {A : Around} {E : Value → Shared → Prop} {Q : V → AH → Prop}
theorem col_list {l : Addr} {vs : List Value} (hl : s.heap.IsList l vs.toArray) (h64 : vs.length < 64) (P : List Value → Shared → Prop) (E : Value → Shared → Prop) (h : ∀ h' tk, (∀ b o, s.heap.get? b = some o → h'.get? b = some o) → P vs { s with heap := h', toks := tk }) :
    wpAny (model c.prog c.w) A (collect (.ref l)) P E s := by
  refine collect_list hl (h _ s.toks fun b o q => ?_) (by rw [sizeLine_eq]; lia)
  have hlt : b < s.heap.objs.size := Heap.lt_size q
  rw [Heap.get?_update_ne _ _ _ _ (Nat.ne_of_lt hlt), Heap.get?_push_ne _ _ _ (Nat.ne_of_lt hlt)]
  exact q
theorem col_dict {d : Addr} {kvs : List (Int × Value)} {ep : Nat} (hm : s.heap.DictAt (intKind c.prog c.w) d kvs ep) (lo : (d == sysModules) = false) (hh : A.handled = none) (hn : kvs.length ≤ sizeLine) {P : List Value → Shared → Prop} {E : Value → Shared → Prop}
    (h : ∀ vs h' tk, vs.map av = kvs.map (fun e => V.int e.1) → (∀ b o, s.heap.get? b = some o → h'.get? b = some o) → P vs { s with heap := h', toks := tk }) :
    wpAny (model c.prog c.w) A (collect (.ref d)) P E s := by
  have hd : d < s.heap.objs.size := hm.lt_size
  unfold collect
  refine wpAny_bind (wpAny_runValue (codeAny_builtin entry_proto_collect' ?_))
  show wpAny _ _ (do again (.builtin "list.__iadd__" ⟨[← newList [], .ref d], []⟩)) _ _ s
  refine wpAny_bind (wpAny_newList (wpAny_pure ⟨Code.quiet_builtin _ (by decide +kernel), ?_⟩))
  have key : ∀ (R : Result → Shared → Prop), (∀ h' tk acc' c', (∀ b o, b ≠ s.heap.objs.size → (s.heap.push (seqObj "list" #[] 0)).get? b = some o → h'.get? b = some o) →
      h'.get? s.heap.objs.size = some { cls := .type "list", dict := none, data := .seq acc' c', slots := #[] } → ItemsOf (fun i v => ∃ k x, kvs[i]? = some (k, x) ∧ (intKind c.prog c.w).is k v = true) acc' kvs.length → R (.ok (.ret (.ref s.heap.objs.size))) { s with heap := h', toks := tk }) →
      codeAny (model c.prog c.w) A (.builtin "list.__iadd__" ⟨[.ref s.heap.objs.size, .ref d], []⟩) R { s with heap := s.heap.push (seqObj "list" #[] 0) } := fun R h => by
    refine codeAny_builtin entry_list_iadd' ?_
    rw [Around.under_plainId (by decide +kernel) _]
    exact kdl_extend (A := A) (s := { s with heap := s.heap.push (seqObj "list" #[] 0) }) (R := R) (kdl_dict lo) hh (hm.push _) s.heap.objs.size (Nat.ne_of_gt hd) (Nat.ne_of_gt hd) _ 0 (Heap.get?_push_size _ rfl) h hn
  refine key _ fun h' tk acc c' k1 k2 k3 => ?_
  refine wpAny_bind (wpAny_load k2 ?_)
  refine wpAny_pure (h acc.toList h' tk ?_ fun b o q => ?_)
  · obtain ⟨k4, k5⟩ := k3
    apply List.ext_getElem?
    intro i
    rw [List.getElem?_map, List.getElem?_map]
    by_cases hi : i < kvs.length
    · have hi' : i < acc.size := by rw [k4]; exact hi
      refine nn fun hC => ?_
      obtain ⟨k, x, e1, e2⟩ := k5 i acc[i] (by rw [Array.getElem?_eq_getElem hi'])
      obtain ⟨t, e3⟩ := Value.isInt_shape e2
      refine hC ?_
      rw [Array.getElem?_toList, Array.getElem?_eq_getElem hi', e1, e3]; rfl
    · rw [List.getElem?_eq_none (by rw [Array.length_toList, k4]; lia), List.getElem?_eq_none (by lia)]; rfl
  · exact k1 b o (Nat.ne_of_lt (Heap.lt_size q)) (Heap.get?_push_of_some _ q)
noncomputable def keyZ (g : V → Int) (vs : List Value) : List Int := vs.map fun v => g (av v)
theorem keyZ_zip (g : V → Int) (vs : List Value) : (keyZ g vs).zip vs = vs.map fun v => (g (av v), v) := by
  unfold keyZ
  rw [List.zip_map_left]
  induction vs with
  | nil => rfl
  | cons v r ih => simp [ih]
theorem out_of {g : V → Int} {vs out : List Value} {b : Bool} (h : KskOut b (keyZ g vs) vs out) : (out.map av).Perm (vs.map av) ∧ (out.map av).Pairwise fun p q => if b then g q ≤ g p else g p ≤ g q := by
  obtain ⟨ps, p1, rfl, p3⟩ := h
  rw [keyZ_zip] at p1
  have hk : ∀ p ∈ ps, p.1 = g (av p.2) := fun p hp => by
    have := p1.mem_iff.mp hp
    obtain ⟨v, _, rfl⟩ := List.mem_map.mp this
    rfl
  refine ⟨?_, ?_⟩
  · have := (p1.map Prod.snd).map av
    simpa [List.map_map, Function.comp_def] using this
  · rw [List.map_map, List.pairwise_map]
    refine p3.imp_of_mem fun {p q} hp hq r => ?_
    simp only [Function.comp]
    rw [← hk p hp, ← hk q hq]
    exact r
noncomputable def absK (v : V) : Int := v.el 0 (it := fun i => i.natAbs)
theorem absLe_of {l : List V} (hl : l.all V.isI = true) (h : l.Pairwise fun p q => absK p ≤ absK q) : l.Pairwise absLe := by
  rw [List.all_eq_true] at hl
  refine h.imp_of_mem fun {p q} hp hq r => ?_
  obtain ⟨i, rfl⟩ := V.isI_eq (hl p hp)
  obtain ⟨j, rfl⟩ := V.isI_eq (hl q hq)
  exact Int.ofNat_le.mp r
theorem turn_abs {B₀ : Bs} {vs : List Value} (hv : ∀ v ∈ vs, (av v).isI = true) : ∀ (i : Nat) (v : Value) (k : Int), vs[i]? = some v → (keyZ absK vs)[i]? = some k → ∀ (B : Bs) (s : Shared), (∀ b o, B₀ b = some o → B b = some o) → Hp c B H s →
    wpAny (model c.prog c.w) A (call (.builtin "abs") [v]) (PH c B fun w H' => w = .int k ∧ H' = H) (fun _ _ => False) s := by
  intro i v k h1 h2 B s hB R
  unfold keyZ at h2
  rw [List.getElem?_map, h1] at h2
  cases h2
  obtain ⟨j, e⟩ := V.isI_eq (hv v (List.mem_of_getElem? h1))
  obtain ⟨t, rfl⟩ := av_int e
  exact o_abs R ⟨rfl, rfl⟩
theorem o_sortAbs (G : Gd c) (hh : A.handled = none) {a : Addr} (R : Hp c B H s) (h : biW .sortAbs [.ref a] H Q) : wpAny (model c.prog c.w) A (call (.builtin "sorted") [.ref a] [(Str.ofString "key", .builtin "abs")]) (PH c B Q) E s := by
  refine nn fun hC => ?_
  obtain ⟨o, e, h⟩ := ifS_eq (show ifS (H.see a) _ from h)
  obtain ⟨l, e3, h⟩ := ifS_eq h
  obtain ⟨h1, h2, h3⟩ := h
  refine hC ?_
  have fin : ∀ vs : List Value, vs.map av = l → (∀ v ∈ vs, (av v).isI = true) ∧ vs.length < 64 := fun vs hv => by
    subst hv
    rw [List.all_eq_true] at h1
    rw [List.length_map] at h2
    exact ⟨fun v hm => h1 _ (List.mem_map_of_mem hm), h2⟩
  refine ks_sorted (fun vs => vs.map av = l) (keyZ absK) (b := false) R (fun vs _ => by simp [keyZ]) (fun vs hv => (fin vs hv).2) (ksk_s1 _ _) (fun _ => ksk_l1 _ _) (fun _ => ksk_t4 _ _) (fun P E hc => ?_) (fun vs hv => turn_abs (fin vs hv).1) fun vs hv out k x hx => ?_
  · rcases O.k_eq e3 with rfl | ⟨es, rfl, rfl⟩
    · obtain ⟨xs, p, e1, e2⟩ := R.see e
      exact col_list (by simpa using plainL p) (fin _ e1).2 P E fun h' tk k => hc _ h' tk e1 k
    · refine nn fun hC => ?_
      obtain ⟨kvs, p, e1, e2⟩ := R.see e
      obtain ⟨ep, hm⟩ := p.dictAt
      refine hC ?_
      have hle : kvs.length = es.length := dct_len (a := a) e1
      have hk : kvs.map (fun e => V.int e.1) = keysOf es := by rw [← e1]; unfold keysOf; rw [List.map_map]; rfl
      exact col_dict (A := A.in1) hm (R.noMods G e) hh (sz_line' (by lia)) fun vs h' tk q k => hc _ h' tk (q.trans hk) k
  · obtain ⟨q1, q2⟩ := out_of k
    rw [hv] at q1
    refine h3 _ q1 (absLe_of ?_ (by simpa using q2)) x hx
    rw [List.all_eq_true] at h1 ⊢
    exact fun v hv => h1 v (q1.mem_iff.mp hv)
theorem turn_call {f : Nat} {F : Nat → Addr} {g : V → Int} {ov : Value} {q : Addr} {sp : Sp} (hc : Calls c A sp F) {vs : List Value} {B₀ : Bs} (hq : B₀ q = some (methodObj (.ref (F f)) ov)) (h : ∀ v ∈ vs.map av, sp f [av ov, v] H fun w H' => w = .int (g v) ∧ H' = H) : ∀ (i : Nat) (v : Value) (k : Int), vs[i]? = some v → (keyZ g vs)[i]? = some k → ∀ (B : Bs) (s : Shared), (∀ b o, B₀ b = some o → B b = some o) → Hp c B H s →
    wpAny (model c.prog c.w) A (call (.ref q) [v]) (PH c B fun w H' => w = .int k ∧ H' = H) (fun _ _ => False) s := by
  intro i v k h1 h2 B s hB R
  unfold keyZ at h2
  rw [List.getElem?_map, h1] at h2
  cases h2
  refine wpAny_call (method_call (R.keep _ _ (hB _ _ hq)) (codeAny_mono (hc f [ov, v] R (h (av v) (List.mem_map_of_mem (List.mem_of_getElem? h1)))) fun r s' hr => ?_))
  obtain ⟨v, rfl, hv⟩ := hr
  exact hv
end
end Mine
end
section
open PySem PySem.W PySem.Calls PyProof.Rows
namespace Mine
section
variable {c : Cx} {B : Bs} {env : Env} {own : List Str} {sl : Sl} {m : List V} {H : AH} {s : Shared} {A : Around} {E : Value → Shared → Prop} {sp : Sp} {Q : V → AH → Prop} {sc : Scope} {F : Nat → Addr}
theorem ev_callG (L : Lw c A sp F) {n : Str} {np pos : Pos} {args : List PySem.Expr} {xs : List X} {g : Nat} (hg : glb sc n = true) (hx : c.T.globs.lookup n = some g) (hs : EsR c A sp sc sl args xs) :
    EvR c A sp sc sl (.Call (.Name n np) args [] pos) (.callG g xs) := fun B env own m H s Q E hsc R q => by
  obtain ⟨e1, e2⟩ := L.tb.glob n g hx
  refine Call_Name rfl (name_glob L.G hg hsc R e1 (with_K L.G e2 hs hsc R q fun vs H' s' hl R' q' => ?_))
  exact lift R' fun R2 => call_of L.calls g vs R2 q'
theorem bv_all : ∀ x ∈ bvTab, bootBuiltins x.1 = some x.2 ∧ x.1 ∈ (["abs", "len", "list", "tuple", "int", "isinstance", "bool", "range", "sorted", "super"] : List Str) ∧ x.1 ≠ "__name__" := by decide +kernel
theorem biVal_boot {f : Str} {v : Value} (h : biVal f = some v) : bootBuiltins f = some v ∧ f ∈ (["abs", "len", "list", "tuple", "int", "isinstance", "bool", "range", "sorted", "super"] : List Str) ∧ f ≠ "__name__" := bv_all (f, v) (by
  obtain ⟨l1, l2, e, _⟩ := List.lookup_eq_some_iff.mp h
  rw [e]; simp)
theorem name_biv (L : Lw c A sp F) {n : Str} {pos : Pos} {v : Value} {P : Value → Shared → Prop} (hg : glb sc n = true) (hsc : ∀ n, kd env.scope n = kd sc n) (R : Rep c B env own sl m H s) (hv : biVal n = some v) (q : P v s) :
    wpAny (model c.prog c.w) A (eval (.Name n pos) env) P E s := by
  obtain ⟨h1, h2, h3⟩ := biVal_boot hv
  exact name_bi L.G hg hsc R (L.tb.bi n h2) h3 h1 q
theorem bi_all : ∀ x ∈ boTab, biVal x.1 = biFn x.2.2 ∧ ∃ v, biFn x.2.2 = some v ∧ keeperOf v = pure .machine :=
  allC ⟨by decide +kernel, _, rfl, rfl⟩ (allC ⟨by decide +kernel, _, rfl, rfl⟩ (allC ⟨by decide +kernel, _, rfl, rfl⟩ (allC ⟨by decide +kernel, _, rfl, rfl⟩ (allC ⟨by decide +kernel, _, rfl, rfl⟩ allN))))
theorem bi_val {f : Str} {k : Nat} {b : Mine.B} (h : biOf f k = some b) : biVal f = biFn b ∧ ∃ v, biFn b = some v ∧ keeperOf v = pure .machine := bi_all _ (bFind_eq h)
theorem ev_bi (L : Lw c A sp F) {n : Str} {np pos : Pos} {args : List PySem.Expr} {xs : List X} {b : Mine.B} (hg : glb sc n = true) (hb : biOf n args.length = some b) (hs : EsR c A sp sc sl args xs) :
    EvR c A sp sc sl (.Call (.Name n np) args [] pos) (.bi b xs) := fun B env own m H s Q E hsc R q => by
  refine nn fun hC => ?_
  obtain ⟨h1, v, h2, h3⟩ := bi_val hb
  refine hC ?_
  refine Call_Name rfl (name_biv L hg hsc R (h1.trans h2) (with_M h3 hs hsc R q fun vs H' s' hl R' q' => ?_))
  exact lift R' fun R2 => call_bi L.G h2 R2 q'
theorem ev_isBool (L : Lw c A sp F) {np tp pos : Pos} {e : PySem.Expr} {x : X} (hg : glb sc "isinstance" = true) (hg' : glb sc "bool" = true) (hp : plainE e = true) (h : EvR c A sp sc sl e x) :
    EvR c A sp sc sl (.Call (.Name "isinstance" np) [e, .Name "bool" tp] [] pos) (.bi .isBool [x]) := fun B env own m H s Q E hsc R q => by
  refine Call_Name rfl (name_biv L hg hsc R (v := .builtin "isinstance") (by decide +kernel) ?_)
  rw [plain_star hp]
  refine callWith_of (P := fun _ => True) rfl (fun h X => ⟨.machine, .inr (.inl rfl), by rw [show keeperOf (.builtin "isinstance") = pure .machine from rfl]; exact .now⟩) (evalArgs_plain (spliced_cons (wpAny_mono (h hsc R q) (fun v s1 e1 => ?_) fun _ _ x => x)))
  obtain ⟨H1, R1, q1⟩ := e1
  refine spliced_cons (name_biv L hg' hsc R1 (v := .type "bool") (by decide +kernel) (spliced_nil ⟨trivial, ?_⟩))
  have q2 : biW .isBool [av v] H1 Q := q1
  cases hv : av v <;> rw [hv] at q2
  case bool b =>
    obtain rfl := av_bool hv
    exact lift R1 fun R2 => o_isBool R2 q2
  all_goals exact (show False from q2).elim
theorem callWith_kw1 {pos : Pos} {id : String} {t : Sem Value} {kw : List (Option Str × Sem Value)} {P : Value → Shared → Prop} (hall : kw.all (·.1.isSome) = true) (hall' : kw.any (·.1.isNone) = false)
    (h : wpAny (model c.prog c.w) A t (fun v s₁ => wpAny (model c.prog c.w) A (evalAll (kw.map (·.2))) (fun ks s₂ => wpAny (model c.prog c.w) A (call (.builtin id) [v] ((kw.filterMap (·.1)).zip ks)) P E s₂) E s₁) E s) :
    wpAny (model c.prog c.w) A (callWith pos (.builtin id) [] [(false, t)] kw) P E s :=
  callWith_builtin_kwB (first := []) rfl hall' (evalArgs_kw hall (spliced_cons (wpAny_mono h (fun v s₁ h₁ => spliced_nil h₁) fun _ _ x => x)))
theorem ev_sortAbs (L : Lw c A sp F) {np gp kp pos : Pos} {e : PySem.Expr} {x : X} (hg : glb sc "sorted" = true) (hg' : glb sc "abs" = true) (hp : plainE e = true) (h : EvR c A sp sc sl e x) :
    EvR c A sp sc sl (.Call (.Name "sorted" np) [e] [⟨some "key", .Name "abs" gp, kp⟩] pos) (.bi .sortAbs [x]) := fun B env own m H s Q E hsc R q => by
  refine wpAny_Call_Name_kw (name_biv L hg hsc R (v := .builtin "sorted") (by decide +kernel) ?_)
  rw [plain_star hp]
  refine callWith_kw1 rfl rfl (wpAny_mono (h hsc R q) (fun v s1 e1 => ?_) fun _ _ x => x)
  obtain ⟨H1, R1, q1⟩ := e1
  refine wpAny_evalAll_cons (wpAny_bind (name_biv L hg' hsc R1 (v := .builtin "abs") (by decide +kernel) (wpAny_bind (wpAny_standAt (wpAny_pure (wpAny_evalAll_nil ?_))))))
  have q2 : biW .sortAbs [av v] H1 Q := q1
  cases hv : av v <;> rw [hv] at q2
  case ref a =>
    obtain rfl := av_ref hv
    exact lift R1 fun R2 => o_sortAbs L.G L.hh R2 q2
  all_goals exact (show False from q2).elim
end
end Mine
end
section
open PySem PySem.W PySem.Calls PyProof.Rows
namespace Mine
section
variable {c : Cx} {B : Bs} {env : Env} {own : List Str} {sl : Sl} {m : List V} {H : AH} {s : Shared} {A : Around} {E : Value → Shared → Prop} {sp : Sp} {Q : V → AH → Prop} {sc : Scope} {F : Nat → Addr}
theorem meth_call {o : PySem.Expr} {name : Str} {ap pos : Pos} {args : List PySem.Expr} {P : Value → Shared → Prop} (hb : plainBase o = true) (hline : (ap.endLine == pos.line) = true) (hn : args.length < 30) (hp : ∀ e ∈ args, plainE e = true)
    (h : wpAny (model c.prog c.w) A (eval o env) (fun ov s₁ => ∀ pl, wpAny (model c.prog c.w) A (getMethod ov name pl) (fun r s₂ => wpAny (model c.prog c.w) A (callWith pos r.1 r.2 (backTo pos (starEach args env)) []) P E s₂) E s₁) E s) :
    wpAny (model c.prog c.w) A (eval (.Call (.Attribute o name ap) args [] pos) env) P E s := by
  rw [arm_eval_Call, attrBase_plain hb]
  refine wpAny_bind (wpAny_mono h (fun ov s₁ h₁ => ?_) fun _ _ e => e)
  refine wpAny_bind (wpAny_standAt ?_)
  have hall : (backTo pos (starEach args env)).all (!·.1) = true := by
    rw [plain_each hp, back_each, List.all_map, List.all_eq_true]; intro _ _; rfl
  have hform : methodCallForm (args.length + ([] : List Keyword).length) (backTo pos (starEach args env)) (backToKw pos (keywordEach [] env)) = true := by
    unfold methodCallForm
    rw [hall]
    have : decide (args.length + ([] : List Keyword).length + (if (backToKw pos (keywordEach [] env)).isEmpty = true then 0 else 1) < 30) = true := decide_eq_true (by show args.length + 0 + 0 < 30; omega)
    rw [this]; rfl
  have hpos : methodCallPos true o env ap pos = pure pos := by unfold methodCallPos; simp [hline]
  unfold methodCall calleeOf
  rw [hform]
  refine wpAny_bind (wpAny_holding ?_)
  simp only [if_true]
  refine wpAny_mono (h₁ _) (fun r s₂ h₂ => ?_) fun _ _ x => x
  exact wpAny_bind (wpAny_of_eq hpos h₂)
theorem ev_callM (L : Lw c A sp F) {o : PySem.Expr} {name : Str} {ap pos : Pos} {args : List PySem.Expr} {x : X} {xs : List X} {g : Nat} (hb : plainBase o = true) (hline : (ap.endLine == pos.line) = true) (hn : args.length < 30)
    (hx : c.T.meths.lookup name = some g) (h : EvR c A sp sc sl o x) (hs : EsR c A sp sc sl args xs) : EvR c A sp sc sl (.Call (.Attribute o name ap) args [] pos) (.callM g x xs) := fun B env own m H s Q E hsc R q => by
  obtain ⟨e1, e2⟩ := L.tb.meth name g hx
  refine meth_call hb hline hn hs.1.1 (wpAny_mono (h hsc R q) (fun ov s1 h1 => ?_) fun _ _ x => x)
  intro pl
  obtain ⟨H1, R1, q1⟩ := h1
  obtain ⟨p, e, q2⟩ := ifS_eq q1
  obtain ⟨a, ha, hd, hes⟩ := insV_eq e
  obtain rfl := av_ref ha
  refine o_meth L.G e1 R1.hp hd hes ?_
  refine with_K L.G e2 hs hsc R1 q2 fun vs H' s' hl R' q' => ?_
  exact lift R' fun R2 => call_of L.calls g (.ref a :: vs) R2 q'
theorem ev_bm (L : Lw c A sp F) {o : PySem.Expr} {name : Str} {ap pos : Pos} {args : List PySem.Expr} {x : X} {xs : List X} {b : Mine.B} (hb : plainBase o = true) (hline : (ap.endLine == pos.line) = true) (hn : args.length < 30)
    (hx : biMeth name args.length = some b) (h : EvR c A sp sc sl o x) (hs : EsR c A sp sc sl args xs) : EvR c A sp sc sl (.Call (.Attribute o name ap) args [] pos) (.bm b x xs) := fun B env own m H s Q E hsc R q => by
  refine meth_call hb hline hn hs.1.1 (wpAny_mono (h hsc R q) (fun ov s1 h1 => ?_) fun _ _ x => x)
  intro pl
  obtain ⟨H1, R1, q1⟩ := h1
  obtain ⟨a, ha, q2⟩ := ifS_eq q1
  obtain ⟨o, e, q3⟩ := ifS_eq q2
  obtain ⟨q4, q5⟩ := q3
  have ha := V.r_eq ha
  obtain rfl := av_ref ha
  clear q q1 q2
  have fin : ∀ id, biMt b = some id → wpAny (model c.prog c.w) A (callWith pos (.builtin id) [.ref a] (backTo pos (starEach args env)) []) (PE c B env own sl m Q) E s1 := fun id hid =>
    with_M (first := [.ref a]) rfl hs hsc R1 q5 fun vs H' s' hl R' q' => lift R' fun R2 => call_mt L.G hid R2 q'
  cases o with
  | lst l => exact meth_list hx q4 R1.hp e fin
  | dct es => exact meth_dict hx q4 R1.hp e fin
  | _ => exact q4.elim
theorem att_none {kvs : List (Str × Value)} {es : List (Nat × V)} (h : kvs.map (fun e => (nmOf e.1, av e.2)) = es.map (fun e => (some e.1, e.2))) {x : Str} (hx : nmOf x = none) : valueAt kvs x = none := by
  unfold valueAt
  rw [Option.map_eq_none_iff, List.find?_eq_none]
  intro e he z
  have : (nmOf e.1, av e.2) ∈ kvs.map (fun e => (nmOf e.1, av e.2)) := List.mem_map_of_mem (f := fun e : Str × Value => (nmOf e.1, av e.2)) he
  rw [h] at this
  obtain ⟨f, _, q⟩ := List.mem_map.mp this
  have e1 := congrArg Prod.fst q
  simp only at e1
  rw [of_decide_eq_true z, hx] at e1
  cases e1
theorem o_bound (G : Gd c) {f : Str} {a d g : Addr} {es : List (Nat × V)} {P : Value → Shared → Prop} {ex : Bool} (hk : keyChk c.K c.C f g = true) (R : Hp c B H s) (ha : H a = some (.inst d)) (hd : H d = some (.att es))
    (q : ∀ s', Hp c B H s' → s'.heap.get? s.heap.objs.size = some (methodObj (.ref g) (.ref a)) → B s.heap.objs.size = none → H s.heap.objs.size = none → s'.heap = s.heap.push (methodObj (.ref g) (.ref a)) → s' = { s with heap := s'.heap, toks := s'.toks } → P (.ref s.heap.objs.size) s') :
    wpAny (model c.prog c.w) A (getAttr (.ref a) f ex) P E s := by
  unfold keyChk at hk
  simp only [Bool.and_eq_true, beq_iff_eq, Bool.not_eq_true', Option.isNone_iff_eq_none] at hk
  refine nn fun hC => ?_
  obtain ⟨⟨⟨⟨⟨⟨⟨k1, k2⟩, k3⟩, k4⟩, k5⟩, k6⟩, k7⟩, k8⟩ := hk
  obtain ⟨l, n, kvs, I, ho, hk, hp, hn, e1, e2⟩ := inst_at R ha hd
  refine hC ?_
  have hl : lookIn f (dictOf l n) = some none := by rw [lookIn_dict, getL_of hk hp, att_none e1 k8]
  have hs := freshA s
  refine get_bind (R.kin G) I (plainGet_of k2).1 (findObj_fn k1 k3 k5 k6 k7 hl) (plainGet_of k2).2
    (wpAny_call (fn_get (s := { s with toks := s.toks + 1 }) (show c.K.In s.heap from R.kin G) (beq_iff_eq.mp k4) (handed_on rfl ?_)))
  exact q _ (R.grow (t := s.toks + 1) fun b o e => Heap.get?_push_of_some _ e) (Heap.get?_push_size _ rfl) (R.freshB hs) (R.fresh hs) rfl rfl
theorem ev_sortH (L : Lw c A sp F) {np kp rp cp ap pos : Pos} {ck : Nat} {e o : PySem.Expr} {x y : X} (hg : glb sc "sorted" = true) (hp : plainE e = true) (hb : plainBase o = true) (h : EvR c A sp sc sl e x) (h' : EvR c A sp sc sl o y) :
    EvR c A sp sc sl (.Call (.Name "sorted" np) [e] [⟨some "key", .Attribute o c.T.keyN ap, kp⟩, ⟨some "reverse", .Constant (.bool true) ck cp, rp⟩] pos) (.sortH c.T.keyF x y) := fun B env own m H s Q E hsc R q => by
  refine wpAny_Call_Name_kw (name_biv L hg hsc R (v := .builtin "sorted") (by decide +kernel) ?_)
  rw [plain_star hp]
  refine callWith_kw1 rfl rfl (wpAny_mono (h hsc R q) (fun v s1 e1 => ?_) fun _ _ x => x)
  obtain ⟨H1, R1, q1⟩ := e1
  refine wpAny_evalAll_cons (wpAny_bind ?_)
  rw [arm_eval_Attribute, attrBase_plain hb]
  refine wpAny_bind (wpAny_mono (h' hsc R1 q1) (fun ov s2 e2 => ?_) fun _ _ x => x)
  obtain ⟨H2, R2, q2⟩ := e2
  obtain ⟨a, hv, q3⟩ := ifS_eq q2
  obtain ⟨w, e1, q4⟩ := ifS_eq q3
  obtain ⟨l, hl, q5⟩ := ifS_eq q4
  obtain ⟨p', ei, q6⟩ := ifS_eq q5
  obtain ⟨b, ho, e2, e3⟩ := insV_eq ei
  rw [O.l_eq hl] at e1
  obtain rfl := av_ref (V.r_eq hv)
  obtain rfl := av_ref ho
  clear q q1 q2 q3 q4 q5 hv ei hl w
  refine nn fun hC => ?_
  obtain ⟨h64, g, k1, k2⟩ := q6
  refine hC ?_
  have hs := freshA s2
  refine wpAny_bind (wpAny_standAt (wpAny_bind (wpAny_holding (o_bound L.G L.key R2.hp e2 e3 fun s3 R3 g3 b3 n3 he hs3 => ?_))))
  refine wpAny_bind (wpAny_letTemporaryGo (wpAny_pure (wpAny_bind (wpAny_standAt (wpAny_pure ?_)))))
  refine wpAny_evalAll_cons (wpAny_bind (wpAny_pure (wpAny_bind (wpAny_standAt (wpAny_pure (wpAny_evalAll_nil ?_))))))
  have R4 : Rep c B env own sl m H2 s3 := by
    rw [hs3]; exact R2.grow fun b o e => by rw [he]; exact Heap.get?_push_of_some _ e
  refine lift R4 fun R5 => ?_
  have hB : baseOf s3.heap H2 s2.heap.objs.size = some (methodObj (.ref (F c.T.keyF)) (.ref b)) := by unfold baseOf; rw [n3]; exact g3
  obtain ⟨xs, p, p1, p2⟩ := R5.see e1
  have hl : xs.toList.length < 64 := by have := congrArg List.length p1; rw [List.length_map] at this; omega
  refine ks_sorted (fun vs => vs = xs.toList) (keyZ g) (b := true) R5 (fun vs _ => by simp [keyZ]) (fun vs hv => hv ▸ hl) (ksk_s2 _ _ _) (fun _ => ksk_l2 _ _ _) (fun _ => ksk_t2 _ _ _) (fun P E h => col_list (by simpa using plainL p) hl P E fun h' tk k => h _ h' tk rfl k)
    (fun vs hv => turn_call L.calls2 hB (by rw [hv, p1]; exact k1)) fun vs hv out k x hx => ?_
  subst hv
  obtain ⟨z1, z2⟩ := out_of k
  rw [p1] at z1
  exact k2 _ z1 (by simpa using z2) x hx
end
end Mine
end
section
open PySem PySem.W PySem.Calls PyProof.Rows
namespace Mine
section
variable {c : Cx} {B : Bs} {env : Env} {own : List Str} {sl : Sl} {m : List V} {H : AH} {s : Shared} {A : Around} {E : Value → Shared → Prop} {sp : Sp} {Q : V → AH → Prop} {sc : Scope} {F : Nat → Addr}
theorem ev_new (L : Lw c A sp F) {np pos : Pos} {args : List PySem.Expr} {xs : List X} (hg : glb sc c.T.cls = true) (hs : EsR c A sp sc sl args xs) :
    EvR c A sp sc sl (.Call (.Name c.T.cls np) args [] pos) (.new c.T.initF xs) := fun B env own m H s Q E hsc R q => by
  have hc := L.cls
  unfold clsChk at hc
  simp only [Bool.and_eq_true, beq_iff_eq] at hc
  refine nn fun hC => ?_
  obtain ⟨⟨⟨⟨k1, k2⟩, k3⟩, k4⟩, k5⟩ := hc
  refine hC ?_
  refine Call_Name rfl (name_glob L.G hg hsc R k1 (with_K L.G k2 hs hsc R q fun vs H' s' hl R' q' => ?_))
  refine wpAny_call ?_
  have X := R'.hp.kin L.G
  obtain ⟨h, g, dr, t, os⟩ := s'
  refine make_core (makes_of X k3) (looks_findIn X k4) (fun self => bind_fn X self k5) (.inl rfl) ?_
  have R1 : Rep c B env own sl m H' ⟨h.push emptyDict, g, dr, t, os⟩ := R'.grow (t := t) fun b o e => Heap.get?_push_of_some _ e
  have R2 : Rep c B env own sl m H' ⟨(h.push emptyDict).push (instObj c.C h.objs.size), g, dr, t, os⟩ := R1.grow (t := t) fun b o e => Heap.get?_push_of_some _ e
  have e1 : (h.push emptyDict).objs.size = h.objs.size + 1 := Heap.size_push ..
  have od : Out B env H' h.objs.size := R'.out (freshA ⟨h, g, dr, t, os⟩)
  have ox : Out B env H' (h.objs.size + 1) := by rw [← e1]; exact R1.out (freshA ⟨h.push emptyDict, g, dr, t, os⟩)
  have gx : ((h.push emptyDict).push (instObj c.C h.objs.size)).get? (h.objs.size + 1) = some (instObj c.C h.objs.size) := by rw [← e1]; exact Heap.get?_push_size _ rfl
  have gd : ((h.push emptyDict).push (instObj c.C h.objs.size)).get? h.objs.size = some emptyDict := Heap.get?_push_of_some _ (Heap.get?_push_size _ rfl)
  have hne : h.objs.size + 1 ≠ h.objs.size := Nat.succ_ne_self _
  have R3 := R2.take (x := .inst h.objs.size) ox gx
  have od3 : Out B env (H'.set (h.objs.size + 1) (.inst h.objs.size)) h.objs.size := ⟨od.b, by unfold AH.set; rw [if_neg hne.symm]; exact od.h, od.l, od.c⟩
  have R4 := R3.take (x := .att []) od3 ⟨[], dictNil gd, rfl, Nat.zero_le _⟩
  refine codeAny_mono (L.calls1 vs c.T.initF (.ref (h.objs.size + 1) :: vs) R4.hp.whole (q' (h.objs.size + 1) h.objs.size ox.h od.h hne)) fun r s' hr => ?_
  refine nn fun hC => ?_
  obtain ⟨v, rfl, H3, a, b1, b2⟩ := hr
  refine hC ?_
  exact ⟨av_none b1, H3, R4.back a, b2⟩
theorem it_src (L : Lw c A sp F) {e : PySem.Expr} {x : X} (h : EvR c A sp sc sl e x) : ItR c A sp sc sl e (.src x) := fun B env own m H s K E hsc R q => by
  refine wpAny_mono (h (Q := fun v H => itW H v K) hsc R q) (fun v s1 e1 => ?_) fun _ _ x => x
  obtain ⟨H1, R1, q1⟩ := e1
  exact o_iter L.G L.hh R1 q1
theorem it_range2 (L : Lw c A sp F) {np pos : Pos} {a b : PySem.Expr} {x y : X} (hg : glb sc "range" = true) (ha : plainE a = true) (hb : plainE b = true) (h1 : EvR c A sp sc sl a x) (h2 : EvR c A sp sc sl b y) :
    ItR c A sp sc sl (.Call (.Name "range" np) [a, b] [] pos) (.rng x y) := fun B env own m H s K E hsc R q => by
  refine Call_Name rfl (name_biv L hg hsc R (v := .type "range") (by decide +kernel) (with_M (first := []) rfl (es_cons ha h1 (es_cons hb h2 es_nil)) hsc R (Q := fun vs H => ifS (pairL vs) fun p => ifS p.1.i? fun i => ifS p.2.i? fun j => -big ≤ i ∧ i < big ∧ -big ≤ j ∧ j < big ∧ K (rngL i j) (fun _ => True) (fun H => H) H) q fun vs H' s' hl R' q' => ?_))
  obtain ⟨p, e, q'⟩ := ifS_eq q'
  obtain ⟨i, e1, q'⟩ := ifS_eq q'
  obtain ⟨j, e2, q'⟩ := ifS_eq q'
  obtain ⟨u, u', rfl, e3, e4⟩ := map2 (pairL_inv _ _ e)
  obtain ⟨t, rfl⟩ := av_int (e3.trans (V.i_eq e1))
  obtain ⟨t', rfl⟩ := av_int (e4.trans (V.i_eq e2))
  exact o_range2 L.hh R' q'.1 q'.2.1 q'.2.2.1 q'.2.2.2.1 q'.2.2.2.2
theorem it_range1 (L : Lw c A sp F) {np pos : Pos} {b : PySem.Expr} {y : X} (hg : glb sc "range" = true) (hb : plainE b = true) (h2 : EvR c A sp sc sl b y) :
    ItR c A sp sc sl (.Call (.Name "range" np) [b] [] pos) (.rng (.c (.int 0)) y) := fun B env own m H s K E hsc R q => by
  refine Call_Name rfl (name_biv L hg hsc R (v := .type "range") (by decide +kernel) (with_M (first := []) rfl (es_cons hb h2 es_nil) hsc R (Q := fun vs H => ifS vs.head? fun w => ifS w.i? fun j => -big ≤ 0 ∧ 0 < big ∧ -big ≤ j ∧ j < big ∧ K (rngL 0 j) (fun _ => True) (fun H => H) H) q fun vs H' s' hl R' q' => ?_))
  obtain ⟨u, rfl⟩ := List.length_eq_one_iff.mp hl
  obtain ⟨j, e1, q'⟩ := ifS_eq (show ifS (av u).i? _ from q')
  obtain ⟨t, rfl⟩ := av_int (V.i_eq e1)
  exact o_range1 L.hh R' q'.2.2.1 q'.2.2.2.1 q'.2.2.2.2
end
end Mine
end
section
open PySem PySem.W PySem.Calls PyProof.Rows
namespace Mine
noncomputable def gd {α : Type} (b : Bool) (o : Option α) : Option α := bif b then o else none
noncomputable def b2 {α β γ : Type} (a : Option α) (b : Option β) (f : α → β → γ) : Option γ := a.bind fun x => b.map (f x)
noncomputable def b3 {α β γ δ : Type} (a : Option α) (b : Option β) (c : Option γ) (f : α → β → γ → δ) : Option δ := a.bind fun x => b2 b c (f x)
theorem gd_eq {α : Type} {b : Bool} {o : Option α} {z : α} (h : gd b o = some z) : b = true ∧ o = some z := by
  cases b
  · cases h
  · exact ⟨rfl, h⟩
inductive B2 {α β γ : Type} (a : Option α) (b : Option β) (f : α → β → γ) (z : γ) : Prop
  | mk (x : α) (y : β) (h : a = some x) (h' : b = some y) (e : f x y = z)
inductive B3 {α β γ δ : Type} (a : Option α) (b : Option β) (c : Option γ) (f : α → β → γ → δ) (z : δ) : Prop
  | mk (x : α) (y : β) (w : γ) (h : a = some x) (h' : b = some y) (h'' : c = some w) (e : f x y w = z)
theorem b2_eq {α β γ : Type} {a : Option α} {b : Option β} {f : α → β → γ} {z : γ} (h : b2 a b f = some z) : B2 a b f z := by
  obtain ⟨x, h1, h2⟩ := Option.bind_eq_some_iff.mp h
  obtain ⟨y, h3, h4⟩ := Option.map_eq_some_iff.mp h2
  exact ⟨x, y, h1, h3, h4⟩
theorem b3_eq {α β γ δ : Type} {a : Option α} {b : Option β} {c : Option γ} {f : α → β → γ → δ} {z : δ} (h : b3 a b c f = some z) : B3 a b c f z := by
  obtain ⟨x, h1, h2⟩ := Option.bind_eq_some_iff.mp h
  obtain ⟨y, w, h3, h4, h5⟩ := b2_eq h2
  exact ⟨x, y, w, h1, h3, h4, h5⟩
theorem and2 {a b : Bool} (h : (a && b) = true) : a = true ∧ b = true := by rwa [Bool.and_eq_true] at h
theorem eqS {a b : Str} (h : (a == b) = true) : a = b := beq_iff_eq.mp h
theorem eqO {a b : Option Str} (h : (a == b) = true) : a = b := beq_iff_eq.mp h
structure Tr where
  x : Scope → Sl → PySem.Expr → Option X
  co : Scope → Sl → PySem.Expr → Option X
noncomputable def trL (f : PySem.Expr → Option X) : List PySem.Expr → Option (List X)
  | [] => some []
  | e :: es => b2 (f e) (trL f es) List.cons
noncomputable def trO (f : PySem.Expr → Option X) : Option PySem.Expr → Option X
  | none => some (.c .none)
  | some e => f e
noncomputable def rangeArgs : List PySem.Expr → Option (Option PySem.Expr × PySem.Expr)
  | [] => none
  | a :: l => match l with
    | [] => some (none, a)
    | b :: l => bif l.isEmpty then some (some a, b) else none
noncomputable def isRange (sc : Scope) (e : PySem.Expr) : Option (Option PySem.Expr × PySem.Expr) := (callOf e).bind fun x => gd (nameOf x.1 == some ("range" : Str) && glb sc "range" && x.2.2.1.isEmpty) (rangeArgs x.2.1)
noncomputable def trIt (f : PySem.Expr → Option X) (sc : Scope) (e : PySem.Expr) : Option X := match isRange sc e with
  | none => (f e).map .src
  | some (oa, b) => match oa with
    | none => (f b).map (.rng (.c (.int 0)))
    | some a => b2 (f a) (f b) .rng
noncomputable def trIfs (f : PySem.Expr → Option X) : List PySem.Expr → Option X
  | [] => some (.c (.bool true))
  | e :: es => bif es.isEmpty then f e else none
noncomputable def trComp (r : Tr) (sc : Scope) : List Comprehension → Sl → PySem.Expr → Option X
  | [], sl, elt => (r.x sc sl elt).map .emit
  | ⟨t, it, ifs, a⟩ :: gs, sl, elt => (nameOf t).bind fun v => gd (a == 0 && (varOK sc v && !sl.contains (some v))) (b3 (trIt (r.x sc sl) sc it) (trIfs (r.co sc (sl ++ [some v])) ifs) (trComp r sc gs (sl ++ [some v]) elt) .cfor)
noncomputable def trAnd (f : PySem.Expr → Option X) : List PySem.Expr → Option X
  | [] => some (.c (.bool true))
  | e :: es => b2 (f e) (trAnd f es) .and
noncomputable def trOr (f : PySem.Expr → Option X) : List PySem.Expr → Option X
  | [] => some (.c (.bool false))
  | e :: es => b2 (f e) (trOr f es) .or
noncomputable def hConst : Const → Option X
  | .none => some (.c .none)
  | .bool b => some (.c (.bool b))
  | .int i => some (.c (.int i))
  | .str x => (nmOf x).map fun k => .c (.str k)
  | _ => none
noncomputable def hName (T : Tb) (sc : Scope) (sl : Sl) (x : Str) : Option X := match kd sc x with
  | .loc => (slot sl x).map .loc
  | .cel => (slot sl x).map .loc
  | .glb => gd (x != ("__debug__" : Str)) ((T.consts.lookup x).map fun i => .c (.int i))
  | .no => none
noncomputable def hUn (op : UnaryOp) (x : Option X) : Option X := match op with
  | .USub => x.map .neg
  | .Not => x.map .not
  | _ => none
noncomputable def hDictS (f : PySem.Expr → Option X) (ks' : List PySem.Expr) (vs : List PySem.Expr) : Option X :=
  (allSome (ks'.map constStr)).bind fun ss => (allSome (ss.map nmOf)).bind fun is => gd (!ks'.isEmpty && is.length == vs.length && decide is.Nodup && decide (is.length ≤ 8)) ((trL f vs).map (.dictS is))
noncomputable def one {α : Type} : List α → Option α
  | [] => none
  | a :: l => bif l.isEmpty then some a else none
noncomputable def two {α : Type} : List α → Option (α × α)
  | [] => none
  | a :: l => (one l).map fun b => (a, b)
theorem one_eq {α : Type} {l : List α} {a : α} (h : one l = some a) : l = [a] := by
  cases l with
  | nil => cases h
  | cons b l => cases l with
    | nil => cases h; rfl
    | cons _ _ => cases h
theorem two_eq {α : Type} {l : List α} {p : α × α} (h : two l = some p) : l = [p.1, p.2] := by
  cases l with
  | nil => cases h
  | cons b l =>
    obtain ⟨x, h1, rfl⟩ := b1_eq h
    rw [one_eq h1]
noncomputable def hDict (f : PySem.Expr → Option X) (ks : List (Option PySem.Expr)) (vs : List PySem.Expr) : Option X :=
  bif ks.isEmpty && vs.isEmpty then some .dict0 else (allSome ks).bind fun ks' => match allSome (ks'.map constStr) with
    | some _ => hDictS f ks' vs
    | none => b2 (one ks') (one vs) (fun k v => (k, v)) |>.bind fun p => b2 (f p.1) (f p.2) .dict1
noncomputable def isUSub : UnaryOp → Bool
  | .USub => true
  | _ => false
noncomputable def isOne (k : Const) : Bool := (intK k).any (· == 1)
noncomputable def isTrueK (k : Const) : Bool := (boolK k).any id
theorem isUSub_eq {o : UnaryOp} (h : isUSub o = true) : o = .USub := by cases o <;> first | rfl | cases h
theorem isOne_eq {k : Const} (h : isOne k = true) : k = .int 1 := by
  obtain ⟨i, h1, h2⟩ := anyO h
  rw [intK_inv k i h1, beq_iff_eq.mp h2]
noncomputable def isM1 (e : PySem.Expr) : Bool := (unOf e).any fun x => isUSub x.1 && (constOf x.2).any isOne
theorem isM1_eq {e : PySem.Expr} (h : isM1 e = true) : Ex3 fun k p p' => e = .UnaryOp .USub (.Constant (.int 1) k p) p' := by
  refine nn fun hC => ?_
  obtain ⟨x, h1, h⟩ := anyO h
  obtain ⟨h2, h⟩ := and2 h
  obtain ⟨k, h3, h⟩ := anyO h
  obtain ⟨p', h4⟩ := unOf_inv e x h1
  obtain ⟨j, p, h5⟩ := constOf_inv _ k h3
  refine hC ?_
  exact ⟨j, p, p', by rw [h4, h5, isUSub_eq h2, isOne_eq h]⟩
noncomputable def sliceOf (e : PySem.Expr) : Option (Option PySem.Expr × Option PySem.Expr × Option PySem.Expr) := (vw e).el none (sl := fun lo hi st => some (lo, hi, st))
noncomputable def IsSlice (e : PySem.Expr) (x : Option PySem.Expr × Option PySem.Expr × Option PySem.Expr) : Prop := ∃ p, e = .Slice x.1 x.2.1 x.2.2 p
theorem sliceOf_inv (e : PySem.Expr) : InvP (IsSlice e) (sliceOf e) := vw_inv (f := fun w => w.el none (sl := fun lo hi st => some (lo, hi, st))) fun w q => by cases w <;> first | exact invN | exact invS q
theorem sliceOf_no {e : PySem.Expr} (h : (sliceOf e).isNone = true) : noSlice e = true := by cases e <;> first | exact h | cases h
noncomputable def hSub (f : PySem.Expr → Option X) (o i : PySem.Expr) : Option X := match sliceOf i with
  | some (lo, hi, st) => match st with
    | none => b3 (f o) (trO f lo) (trO f hi) .slice
    | some k => gd (lo.isNone && hi.isNone && isM1 k) ((f o).map .rev)
  | none => b2 (f o) (f i) .sub
noncomputable def hIsBool (f : PySem.Expr → Option X) (sc : Scope) (n : Str) (args : List PySem.Expr) : Option X :=
  (two args).bind fun p => gd (n == ("isinstance" : Str) && nameOf p.2 == some ("bool" : Str) && glb sc "bool") ((f p.1).map fun x => .bi .isBool [x])
noncomputable def hCallN (T : Tb) (f : PySem.Expr → Option X) (sc : Scope) (n : Str) (args : List PySem.Expr) : Option X := gd (glb sc n) (match T.globs.lookup n with
  | some g => (trL f args).map (.callG g)
  | none => bif n == T.cls then (trL f args).map (.new T.initF) else match biOf n args.length with
    | some b => (trL f args).map (.bi b)
    | none => hIsBool f sc n args)
noncomputable def attrOf (n : Str) (e : PySem.Expr) : Option PySem.Expr := (atOf e).bind fun x => gd (x.2.1 == n) (some x.1)
theorem attrOf_eq {e o : PySem.Expr} {n : Str} (h : attrOf n e = some o) : ∃ p, e = .Attribute o n p := by
  obtain ⟨x, h1, h⟩ := bb_eq h
  obtain ⟨h2, h3⟩ := gd_eq h
  exact ⟨x.2.2, by rw [show e = _ from atOf_inv e x h1, eqS h2, Option.some.inj h3]⟩
theorem isTrueK_eq {k : Const} (h : isTrueK k = true) : k = .bool true := by
  obtain ⟨i, h1, h2⟩ := anyO h
  rw [boolK_inv k i h1, show i = true from h2]
noncomputable def isTrueC (e : PySem.Expr) : Bool := (constOf e).any isTrueK
theorem isTrueC_eq {e : PySem.Expr} (h : isTrueC e = true) : ∃ k p, e = .Constant (.bool true) k p := by
  obtain ⟨k, h1, h⟩ := anyO h
  obtain ⟨j, p, h2⟩ := constOf_inv e k h1
  exact ⟨j, p, by rw [h2, isTrueK_eq h]⟩
noncomputable def kwIs (n : Str) (k : Keyword) : Bool := k.arg == some n
noncomputable def hSorted (T : Tb) (f : PySem.Expr → Option X) (sc : Scope) (x : PySem.Expr) (kws : List Keyword) : Option X := match kws with
  | [] => none
  | k :: l => match l with
    | [] => gd (kwIs "key" k && nameOf k.value == some ("abs" : Str) && glb sc "abs") ((f x).map fun x => .bi .sortAbs [x])
    | q :: l => gd (l.isEmpty && kwIs "key" k && kwIs "reverse" q && isTrueC q.value) ((attrOf T.keyN k.value).bind fun o => gd (plainBase o) (b2 (f x) (f o) (.sortH T.keyF)))
noncomputable def hCallA (T : Tb) (f : PySem.Expr → Option X) (o : PySem.Expr) (n : Str) (args : List PySem.Expr) : Option X := match biMeth n args.length with
  | some b => b2 (f o) (trL f args) (.bm b)
  | none => b3 (T.meths.lookup n) (f o) (trL f args) .callM
noncomputable def hCallK (T : Tb) (f : PySem.Expr → Option X) (sc : Scope) (n : Str) (args : List PySem.Expr) (kws : List Keyword) : Option X :=
  bif kws.isEmpty then hCallN T f sc n args else gd (n == ("sorted" : Str) && glb sc "sorted") ((one args).bind fun x => hSorted T f sc x kws)
noncomputable def hCall (T : Tb) (f : PySem.Expr → Option X) (sc : Scope) (fn : PySem.Expr) (args : List PySem.Expr) (kws : List Keyword) (p : Pos) : Option X := match nameOf fn with
  | some n => hCallK T f sc n args kws
  | none => (atOf fn).bind fun x => gd (kws.isEmpty && (x.2.2.endLine == p.line) && decide (args.length < 30) && plainBase x.1) (hCallA T f x.1 x.2.1 args)
noncomputable def hLC (r : Tr) (sc : Scope) (sl : Sl) (elt : PySem.Expr) (gs : List Comprehension) (s : Scope) : Option X := match gs with
  | [] => none
  | ⟨t, it, ifs, a⟩ :: gs => (nameOf t).bind fun v => gd (a == 0 && compChk sc s v) (b3 (trIt (r.x sc sl) sc it) (trIfs (r.co s (slIn s sl v)) ifs) (trComp r s gs (slIn s sl v) elt) (.lcomp (maskOf s sl)))
noncomputable def hDC (r : Tr) (sc : Scope) (sl : Sl) (k x : PySem.Expr) (gs : List Comprehension) (s : Scope) : Option X := match gs with
  | [] => none
  | ⟨t, it, ifs, a⟩ :: gs => (nameOf t).bind fun v => gd (a == 0 && compChk sc s v && ifs.isEmpty && gs.isEmpty) (b3 (trIt (r.x sc sl) sc it) (r.x s (slIn s sl v) k) (r.x s (slIn s sl v) x) (.dcomp (maskOf s sl)))
noncomputable def xV (T : Tb) (r : Tr) (sc : Scope) (sl : Sl) (w : Vw) : Option X :=
  w.el none hConst (hName T sc sl) (fun o f _ => gd (plainBase o) (b2 (nmOf f) (r.x sc sl o) fun k x => .attr x k)) (fun op x => hUn op (r.x sc sl x)) (fun l op y => b3 (r.x sc sl l) (trOp op) (r.x sc sl y) fun a o b => .bin o a b)
  (fun l ops cs => b2 (one ops) (one cs) (fun o c => (o, c)) |>.bind fun p => b3 (r.x sc sl l) (trCm p.1) (r.x sc sl p.2) fun a o b => .cmp o a b) (fun t b o => b3 (r.co sc sl t) (r.x sc sl b) (r.x sc sl o) .ite)
  (fun es => gd (decide (es.length ≤ sz)) ((trL (r.x sc sl) es).map .list)) (fun es => gd (decide (es.length ≤ sz)) ((trL (r.x sc sl) es).map .tup)) (hDict (r.x sc sl)) (hSub (r.x sc sl)) (hCall T (r.x sc sl) sc) (hLC r sc sl) (hDC r sc sl)
noncomputable def xStep (T : Tb) (r : Tr) (sc : Scope) (sl : Sl) (e : PySem.Expr) : Option X := xV T r sc sl (vw e)
noncomputable def coCmp (r : Tr) (sc : Scope) (sl : Sl) (l : PySem.Expr) (ops : List CmpOp) (cs : List PySem.Expr) : Option X := match two ops with
  | some (o1, o2) => (two cs).bind fun q => b2 (trCm o1) (trCm o2) (fun x y => (x, y)) |>.bind fun o => b3 (r.x sc sl l) (r.x sc sl q.1) (r.x sc sl q.2) (.cmp2 o.1 o.2)
  | none => b2 (one ops) (one cs) (fun o c => (o, c)) |>.bind fun p => b3 (r.x sc sl l) (trCm p.1) (r.x sc sl p.2) fun a o b => .cmp o a b
inductive Co where
  | not (x : PySem.Expr) | and (es : List PySem.Expr) | or (es : List PySem.Expr) | cmp (l : PySem.Expr) (ops : List CmpOp) (cs : List PySem.Expr) | no
noncomputable def coU (op : UnaryOp) (x : PySem.Expr) : Option Co := match op with
  | .Not => some (.not x)
  | _ => none
noncomputable def coB (op : BoolOp) (es : List PySem.Expr) : Option Co := match op with
  | .And => some (.and es)
  | .Or => some (.or es)
noncomputable def coV (w : Vw) : Option Co := w.el none (un := coU) (bo := coB) (cmp := fun l ops cs => some (.cmp l ops cs)) (ite := fun _ _ _ => some .no)
noncomputable def coOf (e : PySem.Expr) : Option Co := coV (vw e)
noncomputable def IsCo (e : PySem.Expr) : Co → Prop
  | .not x => ∃ p, e = .UnaryOp .Not x p
  | .and es => ∃ p, e = .BoolOp .And es p
  | .or es => ∃ p, e = .BoolOp .Or es p
  | .cmp l ops cs => ∃ p, e = .Compare l ops cs p
  | .no => True
theorem coOf_inv (e : PySem.Expr) : InvP (IsCo e) (coOf e) := by
  refine vw_inv (f := coV) fun w q => ?_
  cases w <;> first | exact invN | exact invS q | exact invS trivial | skip
  all_goals (rename_i o _; cases o <;> first | exact invN | exact invS q)
noncomputable def coStep (T : Tb) (r : Tr) (sc : Scope) (sl : Sl) (e : PySem.Expr) : Option X := match coOf e with
  | some k => match k with
    | .not x => (r.co sc sl x).map .not
    | .and es => trAnd (r.co sc sl) es
    | .or es => trOr (r.co sc sl) es
    | .cmp l ops cs => coCmp r sc sl l ops cs
    | .no => none
  | none => r.x sc sl e
noncomputable def tr (T : Tb) : Nat → Tr
  | 0 => ⟨fun _ _ _ => none, fun _ _ _ => none⟩
  | n + 1 => ⟨xStep T (tr T n), coStep T (tr T n)⟩
end Mine
end
section
open PySem PySem.W PySem.Calls PyProof.Rows
set_option tactic.hygienic false
namespace Mine
section
variable {c : Cx} {A : Around} {sp : Sp} {F : Nat → Addr} {sc : Scope} {sl : Sl}
structure Snd (c : Cx) (A : Around) (sp : Sp) (r : Tr) : Prop where
  x : ∀ {sc : Scope} {sl : Sl} {e : PySem.Expr} {x : X}, r.x sc sl e = some x → EvR c A sp sc sl e x
  co : ∀ {sc : Scope} {sl : Sl} {e : PySem.Expr} {x : X}, r.co sc sl e = some x → CoR c A sp sc sl e x
  pl : ∀ {sc : Scope} {sl : Sl} {e : PySem.Expr} {x : X}, r.x sc sl e = some x → plainE e = true ∧ noSlice e = true
theorem ev_of {r : Tr} (S : Snd c A sp r) {es : List PySem.Expr} {xs : List X} (h : trL (r.x sc sl) es = some xs) : EvsR c A sp sc sl es xs := by
  induction es generalizing xs with
  | nil => cases h; exact .nil
  | cons e es ih =>
    obtain ⟨x, y, h1, h2, rfl⟩ := b2_eq h
    exact .cons (S.pl h1).1 (S.x h1) (ih h2)
theorem op_of {r : Tr} (S : Snd c A sp r) {o : Option PySem.Expr} {x : X} (h : trO (r.x sc sl) o = some x) : OpR c A sp sc sl o x := by
  cases o with
  | none => cases h; exact op_none
  | some e => exact op_some (S.x h)
theorem rangeArgs_eq {args : List PySem.Expr} {oa : Option PySem.Expr} {b : PySem.Expr} (h : rangeArgs args = some (oa, b)) : args = oa.toList ++ [b] := by
  cases args with
  | nil => exact nsm h
  | cons a l => cases l with
    | nil => cases h; rfl
    | cons d l => cases l with
      | nil => cases h; rfl
      | cons _ _ => exact nsm h
theorem isRange_eq {e : PySem.Expr} {oa : Option PySem.Expr} {b : PySem.Expr} (h : isRange sc e = some (oa, b)) : glb sc "range" = true ∧ ∃ np pos, e = .Call (.Name "range" np) (oa.toList ++ [b]) [] pos := by
  refine nn fun hC => ?_
  obtain ⟨x, h0, h⟩ := bb_eq h
  obtain ⟨h1, h2⟩ := gd_eq h
  obtain ⟨h3, h4⟩ := and2 h1
  obtain ⟨h5, h6⟩ := and2 h3
  obtain ⟨np, h7⟩ := nameOf_eq (eqO h5)
  refine hC ?_
  refine ⟨h6, np, x.2.2.2, ?_⟩
  rw [show e = _ from callOf_inv e x h0, List.isEmpty_iff.mp h4, h7, rangeArgs_eq h2]
theorem it_of (L : Lw c A sp F) {r : Tr} (S : Snd c A sp r) {e : PySem.Expr} {x : X} (h : trIt (r.x sc sl) sc e = some x) : ItR c A sp sc sl e x ∧ plainE e = true := by
  unfold trIt at h
  cases hr : isRange sc e with
  | none =>
    rw [hr] at h
    obtain ⟨y, h1, rfl⟩ := b1_eq h
    exact ⟨it_src L (S.x h1), (S.pl h1).1⟩
  | some p =>
    obtain ⟨oa, b⟩ := p
    rw [hr] at h
    obtain ⟨hg, np, pos, rfl⟩ := isRange_eq hr
    cases oa with
    | none =>
      obtain ⟨y, h1, rfl⟩ := b1_eq h
      exact ⟨it_range1 L hg (S.pl h1).1 (S.x h1), rfl⟩
    | some a =>
      obtain ⟨y, z, h1, h2, rfl⟩ := b2_eq h
      exact ⟨it_range2 L hg (S.pl h1).1 (S.pl h2).1 (S.x h1) (S.x h2), rfl⟩
theorem ifs_of {r : Tr} (S : Snd c A sp r) {es : List PySem.Expr} {x : X} (h : trIfs (r.co sc sl) es = some x) : IfsR c A sp sc sl es x := by
  cases es with
  | nil => cases h; exact ifs_nil
  | cons e es => cases es with
    | nil => exact ifs_one (S.co h)
    | cons _ _ => cases h
theorem drop_at {α : Type} {l r : List α} {d : Nat} {a : α} (h : l.drop (d + 1) = a :: r) : l[d + 1]? = some a ∧ l.drop (d + 1 + 1) = r := by
  refine ⟨?_, ?_⟩
  · have := congrArg (·[0]?) h
    simpa using this
  · have := congrArg (List.drop 1) h
    rw [List.drop_drop] at this
    simpa using this
theorem cp_of (L : Lw c A sp F) {r : Tr} (S : Snd c A sp r) {gens : List Comprehension} {elt : PySem.Expr} {scope : Scope} {pos : Pos} : ∀ {gs : List Comprehension} {sl : Sl} {d : Nat} {b : X}, trComp r sc gs sl elt = some b → gens.drop (d + 1) = gs →
    (∀ g ∈ gs, g.is_async = 0) ∧ ((∀ g ∈ gens, g.is_async = 0) → CwR c A sp sc sl gens d elt scope pos b) := by
  intro gs
  induction gs with
  | nil =>
    intro sl d b h hd
    obtain ⟨y, h1, rfl⟩ := b1_eq h
    exact ⟨fun g hg => absurd hg List.not_mem_nil, fun _ => cw_emit (List.getElem?_eq_none (List.drop_eq_nil_iff.mp hd)) (S.x h1)⟩
  | cons g gs ih =>
    intro sl d b h hd
    obtain ⟨t, it, ifs, a⟩ := g
    obtain ⟨v, h1, h2⟩ := bb_eq h
    obtain ⟨h3, h4⟩ := gd_eq h2
    obtain ⟨h5, h6⟩ := and2 h3
    obtain ⟨h7, h8⟩ := and2 h6
    obtain ⟨x, y, z, h9, h10, h11, rfl⟩ := b3_eq h4
    obtain ⟨p, rfl⟩ := nameOf_eq h1
    obtain rfl : a = 0 := beq_iff_eq.mp h5
    refine nn fun hC => ?_
    obtain ⟨hg, hd'⟩ := drop_at hd
    obtain ⟨i1, i2⟩ := ih h11 hd'
    obtain ⟨j1, j2⟩ := it_of L S h9
    refine hC ?_
    refine ⟨fun g hm => ?_, fun ha => cw_for hg ha (fun env x => plain_fold j2) h7 (by rw [Bool.not_eq_true'] at h8; exact h8) j1 (ifs_of S h10) (i2 ha)⟩
    rcases List.mem_cons.mp hm with rfl | hm
    · rfl
    · exact i1 g hm
theorem and_of {r : Tr} (S : Snd c A sp r) {es : List PySem.Expr} {pos : Pos} : ∀ {x : X}, trAnd (r.co sc sl) es = some x → CoR c A sp sc sl (.BoolOp .And es pos) x := by
  induction es with
  | nil => intro x h; cases h; exact co_and_nil
  | cons e es ih =>
    intro x h
    obtain ⟨y, z, h1, h2, rfl⟩ := b2_eq h
    exact co_and (S.co h1) (ih h2)
theorem or_of {r : Tr} (S : Snd c A sp r) {es : List PySem.Expr} {pos : Pos} : ∀ {x : X}, trOr (r.co sc sl) es = some x → CoR c A sp sc sl (.BoolOp .Or es pos) x := by
  induction es with
  | nil => intro x h; cases h; exact co_or_nil
  | cons e es ih =>
    intro x h
    obtain ⟨y, z, h1, h2, rfl⟩ := b2_eq h
    exact co_or (S.co h1) (ih h2)
theorem d_const {k : Const} {j : Nat} {pos : Pos} {x : X} (h : hConst k = some x) : EvR c A sp sc sl (.Constant k j pos) x := by
  cases k <;> try cases h
  · exact ev_none
  · exact ev_bool
  · exact ev_int
  · obtain ⟨i, h1, rfl⟩ := b1_eq h
    exact ev_str h1
theorem d_name (L : Lw c A sp F) {n : Str} {pos : Pos} {x : X} (h : hName c.T sc sl n = some x) : EvR c A sp sc sl (.Name n pos) x := by
  unfold hName at h
  cases hk : kd sc n <;> rw [hk] at h <;> try cases h
  · obtain ⟨i, h1, rfl⟩ := b1_eq h
    exact ev_loc h1
  · obtain ⟨i, h1, rfl⟩ := b1_eq h
    exact ev_loc h1
  · obtain ⟨h0, h2⟩ := gd_eq h
    obtain ⟨i, h1, rfl⟩ := b1_eq h2
    exact ev_glb L (by unfold glb; rw [hk, h0]; rfl) h1
theorem d_un {op : UnaryOp} {e : PySem.Expr} {y : X} {o : Option X} {pos : Pos} (ho : ∀ x, o = some x → EvR c A sp sc sl e x) (h : hUn op o = some y) : EvR c A sp sc sl (.UnaryOp op e pos) y := by
  cases op <;> try cases h
  · obtain ⟨i, h1, rfl⟩ := b1_eq h
    exact ev_not (ho _ h1)
  · obtain ⟨i, h1, rfl⟩ := b1_eq h
    exact ev_neg (ho _ h1)
theorem d_dictS {r : Tr} (S : Snd c A sp r) {ks vs : List PySem.Expr} {pos : Pos} {x : X} (h : hDictS (r.x sc sl) ks vs = some x) : EvR c A sp sc sl (.Dict (ks.map some) vs pos) x := by
  obtain ⟨ss, h1, h2⟩ := bb_eq h
  obtain ⟨is, h3, h4⟩ := bb_eq h2
  obtain ⟨h5, h6⟩ := gd_eq h4
  obtain ⟨h7, h8⟩ := and2 h5
  obtain ⟨h9, h10⟩ := and2 h7
  obtain ⟨h11, h12⟩ := and2 h9
  obtain ⟨xs, h13, rfl⟩ := b1_eq h6
  refine ev_dictS h1 h3 (beq_iff_eq.mp h12) (of_decide_eq_true h10) (of_decide_eq_true h8) ?_ (ev_of S h13)
  rintro rfl
  cases h11
theorem d_dict {r : Tr} (S : Snd c A sp r) {ks : List (Option PySem.Expr)} {vs : List PySem.Expr} {pos : Pos} {x : X} (h : hDict (r.x sc sl) ks vs = some x) : EvR c A sp sc sl (.Dict ks vs pos) x := by
  unfold hDict at h
  cases h0 : ks.isEmpty && vs.isEmpty with
  | true =>
    rw [h0] at h
    cases h
    obtain ⟨h1, h2⟩ := and2 h0
    rw [List.isEmpty_iff.mp h1, List.isEmpty_iff.mp h2]
    exact ev_dict0
  | false =>
    rw [h0] at h
    obtain ⟨ks', h1, h2⟩ := bb_eq h
    rw [allSome_eq h1]
    cases h3 : allSome (ks'.map constStr) with
    | some ss => rw [h3] at h2; exact d_dictS S h2
    | none =>
      rw [h3] at h2
      obtain ⟨p, h4, h5⟩ := bb_eq h2
      obtain ⟨k, v, h6, h7, rfl⟩ := b2_eq h4
      obtain ⟨a, b, h8, h9, rfl⟩ := b2_eq h5
      rw [one_eq h6, one_eq h7]
      exact ev_dict1 (S.x h8) (S.x h9)
theorem d_sub {r : Tr} (S : Snd c A sp r) {o i : PySem.Expr} {pos : Pos} {x : X} (h : hSub (r.x sc sl) o i = some x) : EvR c A sp sc sl (.Subscript o i pos) x := by
  unfold hSub at h
  cases hs : sliceOf i with
  | none =>
    rw [hs] at h
    obtain ⟨x, y, h1, h2, rfl⟩ := b2_eq h
    exact ev_sub (sliceOf_no (by rw [hs]; rfl)) (S.x h1) (S.x h2)
  | some q =>
    rw [hs] at h
    obtain ⟨p, h0⟩ := sliceOf_inv i q hs
    rw [h0]
    clear hs h0
    obtain ⟨lo, hi, st⟩ := q
    cases st with
    | none =>
      obtain ⟨x, y, z, h1, h2, h3, rfl⟩ := b3_eq h
      exact ev_slice (S.x h1) (op_of S h2) (op_of S h3)
    | some k =>
      refine nn fun hC => ?_
      obtain ⟨h1, h2⟩ := gd_eq h
      obtain ⟨h3, h4⟩ := and2 h1
      obtain ⟨h5, h6⟩ := and2 h3
      obtain ⟨a, b, d, h8⟩ := isM1_eq h4
      obtain ⟨y, h7, rfl⟩ := b1_eq h2
      refine hC ?_
      rw [Option.isNone_iff_eq_none.mp h5, Option.isNone_iff_eq_none.mp h6, h8]
      exact ev_rev (S.x h7)
theorem d_callN (L : Lw c A sp F) {r : Tr} (S : Snd c A sp r) {n : Str} {np pos : Pos} {args : List PySem.Expr} {x : X} (h : hCallN c.T (r.x sc sl) sc n args = some x) : EvR c A sp sc sl (.Call (.Name n np) args [] pos) x := by
  obtain ⟨hg, h⟩ := gd_eq h
  cases h1 : c.T.globs.lookup n with
  | some g =>
    rw [h1] at h
    obtain ⟨xs, h2, rfl⟩ := b1_eq h
    exact ev_callG L hg h1 (ev_of S h2).es
  | none =>
    rw [h1] at h
    cases h2 : n == c.T.cls with
    | true =>
      simp only [h2, cond_true] at h
      obtain ⟨xs, h3, rfl⟩ := b1_eq h
      rw [eqS h2] at hg ⊢
      exact ev_new L hg (ev_of S h3).es
    | false =>
      simp only [h2, cond_false] at h
      cases h3 : biOf n args.length with
      | some b =>
        rw [h3] at h
        obtain ⟨xs, h4, rfl⟩ := b1_eq h
        exact ev_bi L hg h3 (ev_of S h4).es
      | none =>
        rw [h3] at h
        refine nn fun hC => ?_
        obtain ⟨p, h4, h5⟩ := bb_eq h
        obtain ⟨h6, h7⟩ := gd_eq h5
        obtain ⟨h8, h9⟩ := and2 h6
        obtain ⟨h10, h11⟩ := and2 h8
        obtain ⟨y, h12, rfl⟩ := b1_eq h7
        obtain ⟨q, h13⟩ := nameOf_eq (eqO h11)
        refine hC ?_
        rw [two_eq h4, h13]
        rw [eqS h10] at hg ⊢
        exact ev_isBool L hg h9 (S.pl h12).1 (S.x h12)
theorem kwIs_eq {n : Str} {k : Keyword} (h : kwIs n k = true) : k = ⟨some n, k.value, k.pos⟩ := by
  obtain ⟨a, v, p⟩ := k
  have := eqO h
  simp only at this
  rw [this]
theorem d_sorted (L : Lw c A sp F) {r : Tr} (S : Snd c A sp r) {np pos : Pos} {e : PySem.Expr} {kws : List Keyword} {x : X} (hg : glb sc "sorted" = true) (h : hSorted c.T (r.x sc sl) sc e kws = some x) : EvR c A sp sc sl (.Call (.Name "sorted" np) [e] kws pos) x := by
  cases kws with
  | nil => cases h
  | cons k l => cases l with
    | nil =>
      obtain ⟨h1, h2⟩ := gd_eq h
      obtain ⟨h3, h4⟩ := and2 h1
      obtain ⟨h5, h6⟩ := and2 h3
      obtain ⟨y, h7, rfl⟩ := b1_eq h2
      obtain ⟨q, h8⟩ := nameOf_eq (eqO h6)
      rw [kwIs_eq h5, h8]
      exact ev_sortAbs L hg h4 (S.pl h7).1 (S.x h7)
    | cons q l =>
      refine nn fun hC => ?_
      obtain ⟨h1, h2⟩ := gd_eq h
      obtain ⟨h3, h4⟩ := and2 h1
      obtain ⟨h5, h6⟩ := and2 h3
      obtain ⟨h7, h8⟩ := and2 h5
      obtain ⟨o, h9, h10⟩ := bb_eq h2
      obtain ⟨h11, h12⟩ := gd_eq h10
      obtain ⟨y, z, h13, h14, rfl⟩ := b2_eq h12
      obtain ⟨_, h15⟩ := attrOf_eq h9
      obtain ⟨_, _, h16⟩ := isTrueC_eq h4
      refine hC ?_
      rw [kwIs_eq h8, kwIs_eq h6, h15, h16, List.isEmpty_iff.mp h7]
      exact ev_sortH L hg (S.pl h13).1 h11 (S.x h13) (S.x h14)
theorem d_callK (L : Lw c A sp F) {r : Tr} (S : Snd c A sp r) {n : Str} {np pos : Pos} {args : List PySem.Expr} {kws : List Keyword} {x : X} (h : hCallK c.T (r.x sc sl) sc n args kws = some x) : EvR c A sp sc sl (.Call (.Name n np) args kws pos) x := by
  unfold hCallK at h
  cases h0 : kws.isEmpty with
  | true =>
    rw [h0] at h
    rw [List.isEmpty_iff.mp h0]
    exact d_callN L S h
  | false =>
    rw [h0] at h
    obtain ⟨h1, h2⟩ := gd_eq h
    obtain ⟨h3, h4⟩ := and2 h1
    obtain ⟨e, h5, h6⟩ := bb_eq h2
    rw [eqS h3, one_eq h5]
    exact d_sorted L S h4 h6
theorem d_callA (L : Lw c A sp F) {r : Tr} (S : Snd c A sp r) {o : PySem.Expr} {n : Str} {ap pos : Pos} {args : List PySem.Expr} {x : X} (h4 : plainBase o = true) (h8 : (ap.endLine == pos.line) = true) (h6 : args.length < 30) (h2 : hCallA c.T (r.x sc sl) o n args = some x) : EvR c A sp sc sl (.Call (.Attribute o n ap) args [] pos) x := by
  unfold hCallA at h2
  cases h9 : biMeth n args.length with
  | some b =>
    rw [h9] at h2
    obtain ⟨y, z, h10, h11, rfl⟩ := b2_eq h2
    exact ev_bm L h4 h8 h6 h9 (S.x h10) (ev_of S h11).es
  | none =>
    rw [h9] at h2
    obtain ⟨g, y, z, h10, h11, h12, rfl⟩ := b3_eq h2
    exact ev_callM L h4 h8 h6 h10 (S.x h11) (ev_of S h12).es
theorem d_call (L : Lw c A sp F) {r : Tr} (S : Snd c A sp r) {fn : PySem.Expr} {pos : Pos} {args : List PySem.Expr} {kws : List Keyword} {x : X} (h : hCall c.T (r.x sc sl) sc fn args kws pos = some x) : EvR c A sp sc sl (.Call fn args kws pos) x := by
  unfold hCall at h
  cases hn : nameOf fn with
  | some n =>
    rw [hn] at h
    obtain ⟨np, h1⟩ := nameOf_eq hn
    rw [h1]
    exact d_callK L S h
  | none =>
    rw [hn] at h
    refine nn fun hC => ?_
    obtain ⟨q, h0, h⟩ := bb_eq h
    obtain ⟨h1, h2⟩ := gd_eq h
    obtain ⟨h3, h4⟩ := and2 h1
    obtain ⟨h5, h6⟩ := and2 h3
    obtain ⟨h7, h8⟩ := and2 h5
    refine hC ?_
    rw [List.isEmpty_iff.mp h7, show fn = _ from atOf_inv fn q h0]
    exact d_callA L S h4 h8 (of_decide_eq_true h6) h2
inductive LcR (c : Cx) (A : Around) (sp : Sp) (sc : Scope) (sl : Sl) (elt : PySem.Expr) (gs : List Comprehension) (s : Scope) (pos : Pos) (x : X) : Prop
  | mk (v : Str) (pv : Pos) (iter : PySem.Expr) (ifs : List PySem.Expr) (gs' : List Comprehension) (i cnd b : X) (e : gs = ⟨.Name v pv, iter, ifs, 0⟩ :: gs') (ex : x = .lcomp (maskOf s sl) i cnd b) (h1 : CompOK sc s v) (h2 : ∀ g ∈ gs', g.is_async = 0) (h3 : plainE iter = true) (h4 : ItR c A sp sc sl iter i)
    (h5 : IfsR c A sp s (slIn s sl v) ifs cnd) (h6 : CwR c A sp s (slIn s sl v) gs 0 elt s pos b)
theorem d_lc (L : Lw c A sp F) {r : Tr} (S : Snd c A sp r) {elt : PySem.Expr} {gs : List Comprehension} {s : Scope} {pos : Pos} {x : X} (h : hLC r sc sl elt gs s = some x) : LcR c A sp sc sl elt gs s pos x := by
  cases gs with
  | nil => cases h
  | cons g gs =>
    obtain ⟨t, it, ifs, a⟩ := g
    obtain ⟨v, h1, h2⟩ := bb_eq h
    obtain ⟨h3, h4⟩ := gd_eq h2
    obtain ⟨h5, h6⟩ := and2 h3
    obtain ⟨x, y, z, h9, h10, h11, rfl⟩ := b3_eq h4
    obtain ⟨p, rfl⟩ := nameOf_eq h1
    obtain rfl : a = 0 := beq_iff_eq.mp h5
    obtain ⟨j1, j2⟩ := it_of L S h9
    obtain ⟨k1, k2⟩ := cp_of (gens := ⟨.Name v p, it, ifs, 0⟩ :: gs) (scope := s) (pos := pos) (d := 0) L S h11 rfl
    refine ⟨v, p, it, ifs, gs, x, y, z, rfl, rfl, compOK_of h6, k1, j2, j1, ifs_of S h10, k2 fun g hg => ?_⟩
    rcases List.mem_cons.mp hg with rfl | hg
    · rfl
    · exact k1 g hg
inductive DcR (c : Cx) (A : Around) (sp : Sp) (sc : Scope) (sl : Sl) (k e : PySem.Expr) (gs : List Comprehension) (s : Scope) (x : X) : Prop
  | mk (v : Str) (pv : Pos) (iter : PySem.Expr) (i kx vx : X) (eg : gs = [⟨.Name v pv, iter, [], 0⟩]) (ex : x = .dcomp (maskOf s sl) i kx vx) (h1 : CompOK sc s v) (h2 : plainE iter = true) (h3 : ItR c A sp sc sl iter i) (h4 : EvR c A sp s (slIn s sl v) k kx) (h5 : EvR c A sp s (slIn s sl v) e vx)
theorem d_dc (L : Lw c A sp F) {r : Tr} (S : Snd c A sp r) {k e : PySem.Expr} {gs : List Comprehension} {s : Scope} {x : X} (h : hDC r sc sl k e gs s = some x) : DcR c A sp sc sl k e gs s x := by
  cases gs with
  | nil => cases h
  | cons g gs =>
    obtain ⟨t, it, ifs, a⟩ := g
    obtain ⟨v, h1, h2⟩ := bb_eq h
    obtain ⟨h3, h4⟩ := gd_eq h2
    obtain ⟨h5, h6⟩ := and2 h3
    obtain ⟨h7, h8⟩ := and2 h5
    obtain ⟨h9, h10⟩ := and2 h7
    obtain ⟨x, y, z, h11, h12, h13, rfl⟩ := b3_eq h4
    obtain ⟨p, rfl⟩ := nameOf_eq h1
    obtain rfl : a = 0 := beq_iff_eq.mp h9
    obtain ⟨j1, j2⟩ := it_of L S h11
    rw [List.isEmpty_iff.mp h6, List.isEmpty_iff.mp h8]
    exact ⟨v, p, it, x, y, z, rfl, rfl, compOK_of h10, j2, j1, S.x h12, S.x h13⟩
end
end Mine
end
section
open PySem PySem.W PySem.Calls PyProof.Rows
namespace Mine
section
variable {c : Cx} {A : Around} {sp : Sp} {F : Nat → Addr} {sc : Scope} {sl : Sl}
noncomputable def XOk (c : Cx) (A : Around) (sp : Sp) (sc : Scope) (sl : Sl) (e : PySem.Expr) (x : X) : Prop := EvR c A sp sc sl e x
theorem snd_x' (L : Lw c A sp F) {r : Tr} (S : Snd c A sp r) (e : PySem.Expr) : InvP (XOk c A sp sc sl e) (xStep c.T r sc sl e) := by
  refine vw_inv (f := xV c.T r sc sl) fun w q => ?_
  cases w <;> first | exact invN | (intro x h; first | obtain ⟨_, rfl⟩ := q | (obtain rfl : e = _ := q) | obtain ⟨_, _, rfl⟩ := q)
  case k => exact d_const h
  case nm => exact d_name L h
  case at_ =>
    obtain ⟨h1, h2⟩ := gd_eq h
    obtain ⟨k, y, h3, h4, rfl⟩ := b2_eq h2
    exact ev_attr L h1 h3 (S.x h4)
  case un => exact d_un (fun _ => S.x) h
  case bin =>
    obtain ⟨a, o, b, h1, h2, h3, rfl⟩ := b3_eq h
    rw [trOp_eq h2]
    exact ev_bin (S.x h1) (S.x h3)
  case cmp =>
    obtain ⟨p, h1, h2⟩ := bb_eq h
    obtain ⟨o, d, h3, h4, rfl⟩ := b2_eq h1
    obtain ⟨a, o', b, h5, h6, h7, rfl⟩ := b3_eq h2
    rw [one_eq h3, one_eq h4, trCm_eq (op := o) h6]
    exact ev_cmp L (S.pl h7).1 (S.x h5) (S.x h7)
  case ite =>
    obtain ⟨a, o, b, h1, h2, h3, rfl⟩ := b3_eq h
    exact ev_ite (S.co h1) (S.x h2) (S.x h3)
  case lst =>
    obtain ⟨h1, h2⟩ := gd_eq h
    obtain ⟨xs, h3, rfl⟩ := b1_eq h2
    exact ev_list (of_decide_eq_true h1) (ev_of S h3).es
  case tup =>
    obtain ⟨h1, h2⟩ := gd_eq h
    obtain ⟨xs, h3, rfl⟩ := b1_eq h2
    exact ev_tup (of_decide_eq_true h1) (ev_of S h3).es
  case dct => exact d_dict S h
  case sub => exact d_sub S h
  case call => exact d_call L S h
  case lc =>
    obtain ⟨v, pv, iter, ifs, gs', i, cnd, b, rfl, rfl, h1, h2, h3, h4, h5, h6⟩ := d_lc L S h
    exact ev_lcomp h1 h2 (fun env x => plain_fold h3) h4 h5 h6
  case dc =>
    obtain ⟨v, pv, iter, i, kx, vx, rfl, rfl, h1, h2, h3, h4, h5⟩ := d_dc L S h
    exact ev_dcomp h1 (fun env x => plain_fold h2) h3 h4 h5
theorem snd_x (L : Lw c A sp F) {r : Tr} (S : Snd c A sp r) {e : PySem.Expr} {x : X} (h : xStep c.T r sc sl e = some x) : EvR c A sp sc sl e x := snd_x' L S e x h
noncomputable def PlOk (e : PySem.Expr) (_ : X) : Prop := plainE e = true ∧ noSlice e = true
theorem snd_pl' {r : Tr} (T : Tb) (e : PySem.Expr) : InvP (PlOk e) (xStep T r sc sl e) := by
  refine vw_inv (f := xV T r sc sl) fun w q => ?_
  cases w <;> first | exact invN | (obtain ⟨_, rfl⟩ := q; exact fun _ _ => ⟨rfl, rfl⟩) | (obtain rfl : e = _ := q; exact fun _ _ => ⟨rfl, rfl⟩) | (obtain ⟨_, _, rfl⟩ := q; exact fun _ _ => ⟨rfl, rfl⟩)
theorem snd_pl {r : Tr} {e : PySem.Expr} {x : X} (T : Tb) (h : xStep T r sc sl e = some x) : plainE e = true ∧ noSlice e = true := snd_pl' T e x h
noncomputable def CoPl (e : PySem.Expr) : Prop := ∀ {env : Env} {whole : Sem Value}, isTrue e env whole = (do let v ← whole; standAt e.pos; holding [v] (truthy v))
theorem coPl (e : PySem.Expr) (h : (coOf e).isNone = true) : CoPl e := by
  cases e
  case UnaryOp o _ _ => cases o <;> first | exact fun {_ _} => rfl | cases h
  case BoolOp o _ _ => cases o <;> cases h
  all_goals first | exact fun {_ _} => rfl | cases h
theorem d_cmp (L : Lw c A sp F) {r : Tr} (S : Snd c A sp r) {l : PySem.Expr} {ops : List CmpOp} {cs : List PySem.Expr} {p : Pos} {x : X} (h : coCmp r sc sl l ops cs = some x) : CoR c A sp sc sl (.Compare l ops cs p) x := by
  unfold coCmp at h
  cases h0 : two ops with
  | some o =>
    rw [h0] at h
    obtain ⟨q, h1, h2⟩ := bb_eq h
    obtain ⟨oo, h3, h4⟩ := bb_eq h2
    obtain ⟨o1, o2, h5, h6, rfl⟩ := b2_eq h3
    obtain ⟨a, b, d, h7, h8, h9, rfl⟩ := b3_eq h4
    rw [two_eq h0, two_eq h1, trCm_eq h5, trCm_eq h6]
    exact co_cmp2 L (S.pl h9).1 (S.x h7) (S.x h8) (S.x h9)
  | none =>
    rw [h0] at h
    obtain ⟨p, h1, h2⟩ := bb_eq h
    obtain ⟨o, d, h3, h4, rfl⟩ := b2_eq h1
    obtain ⟨a, o', b, h5, h6, h7, rfl⟩ := b3_eq h2
    rw [one_eq h3, one_eq h4, trCm_eq (op := o) h6]
    exact co_cmp L (S.pl h7).1 (S.x h5) (S.x h7)
theorem snd_co (L : Lw c A sp F) {r : Tr} (S : Snd c A sp r) {e : PySem.Expr} {x : X} (h : coStep c.T r sc sl e = some x) : CoR c A sp sc sl e x := by
  unfold coStep at h
  cases h0 : coOf e with
  | none =>
    rw [h0] at h
    exact co_plain (coPl e (by rw [h0]; rfl)) (S.x h)
  | some k =>
    rw [h0] at h
    have q := coOf_inv e k h0
    clear h0
    cases k with
    | not y =>
      obtain ⟨p, rfl⟩ := q
      obtain ⟨z, h1, rfl⟩ := b1_eq h
      exact co_not (S.co h1)
    | and es =>
      obtain ⟨p, rfl⟩ := q
      exact and_of S h
    | or es =>
      obtain ⟨p, rfl⟩ := q
      exact or_of S h
    | cmp l ops cs =>
      obtain ⟨p, rfl⟩ := q
      exact d_cmp L S h
    | no => exact @nsm _ _ _ h
theorem snd (L : Lw c A sp F) : ∀ n : Nat, Snd c A sp (tr c.T n)
  | 0 => ⟨fun h => (by cases h), fun h => (by cases h), fun h => (by cases h)⟩
  | n + 1 => ⟨snd_x L (snd L n), snd_co L (snd L n), snd_pl c.T⟩
noncomputable def ownSlot (sc : Scope) (sl : Sl) (x : Str) : Option Nat := gd (varOK sc x) (slot sl x)
noncomputable def trSlots (sc : Scope) (sl : Sl) : List PySem.Expr → Option (List Nat)
  | [] => some []
  | e :: es => b2 ((nameOf e).bind (ownSlot sc sl)) (trSlots sc sl es) List.cons
noncomputable def subOf (e : PySem.Expr) : Option (PySem.Expr × PySem.Expr) := (vw e).el none (sub := fun o i => some (o, i))
noncomputable def IsSub (e : PySem.Expr) (x : PySem.Expr × PySem.Expr) : Prop := ∃ p, e = .Subscript x.1 x.2 p
theorem subOf_inv (e : PySem.Expr) : InvP (IsSub e) (subOf e) := vw_inv (f := fun w => w.el none (sub := fun o i => some (o, i))) fun w q => by cases w <;> first | exact invN | exact invS q
noncomputable def hSwap (f : PySem.Expr → Option X) (ts vs : List PySem.Expr) : Option S := (two ts).bind fun t => (two vs).bind fun v => (subOf t.1).bind fun a => (subOf t.2).bind fun b =>
  b3 (b2 (f a.1) (f a.2) fun x y => (x, y)) (b2 (f b.1) (f b.2) fun x y => (x, y)) (b2 (f v.1) (f v.2) fun x y => (x, y)) fun p q r => .swap p.1 p.2 q.1 q.2 r.1 r.2
noncomputable def tupOf (e : PySem.Expr) : Option (List PySem.Expr) := (vw e).el none (tup := some)
noncomputable def IsTup (e : PySem.Expr) (x : List PySem.Expr) : Prop := ∃ k p, e = .Tuple x k p
theorem tupOf_inv (e : PySem.Expr) : InvP (IsTup e) (tupOf e) := vw_inv (f := fun w => w.el none (tup := some)) fun w q => by cases w <;> first | exact invN | exact invS q
noncomputable def hAsgT (f : PySem.Expr → Option X) (sc : Scope) (sl : Sl) (ts vs : List PySem.Expr) : Option S := match trSlots sc sl ts with
  | some js => gd (ts.length == vs.length && decide js.Nodup && !vs.all (constantsAlone 8) && decide (vs.length ≤ sz)) ((trL f vs).map (.asgN js))
  | none => hSwap f ts vs
inductive Tg where
  | name (x : Str) | at_ (o : PySem.Expr) (n : Str) | sub (o i : PySem.Expr) | tup (ts : List PySem.Expr)
noncomputable def tgV (w : Vw) : Option Tg := w.el none (nm := fun x => some (.name x)) (at_ := fun o n _ => some (.at_ o n)) (sub := fun o i => some (.sub o i)) (tup := fun ts => some (.tup ts))
noncomputable def tgOf (e : PySem.Expr) : Option Tg := tgV (vw e)
noncomputable def IsTg (e : PySem.Expr) : Tg → Prop
  | .name x => ∃ p, e = .Name x p
  | .at_ o n => ∃ p, e = .Attribute o n p
  | .sub o i => ∃ p, e = .Subscript o i p
  | .tup ts => ∃ k p, e = .Tuple ts k p
theorem tgOf_inv (e : PySem.Expr) : InvP (IsTg e) (tgOf e) := vw_inv (f := tgV) fun w q => by cases w <;> first | exact invN | exact invS q | exact invS ⟨_, q⟩
noncomputable def hAsgG (f : PySem.Expr → Option X) (sc : Scope) (sl : Sl) (v : PySem.Expr) : Tg → Option S
  | .name x => b2 (ownSlot sc sl x) (f v) .asg
  | .at_ o n => b3 (nmOf n) (f v) (f o) fun k v o => .setA o k v
  | .sub o i => b3 (f v) (f o) (f i) fun v o i => .setI o i v
  | .tup ts => (tupOf v).bind (hAsgT f sc sl ts)
noncomputable def hAsg (f : PySem.Expr → Option X) (sc : Scope) (sl : Sl) (t v : PySem.Expr) : Option S := (tgOf t).bind (hAsgG f sc sl v)
noncomputable def isCall (e : PySem.Expr) : Bool := (callOf e).isSome
inductive Sw where
  | pass | raise (e c : Option PySem.Expr) | ex (x : PySem.Expr) | ret (v : Option PySem.Expr) | ite (t : PySem.Expr) (b o : List Stmt) | whl (t : PySem.Expr) (b o : List Stmt) | for_ (t it : PySem.Expr) (b o : List Stmt) | asg (ts : List PySem.Expr) (v : PySem.Expr) | no
noncomputable def Sw.el {α : Type} (d : α) (w : Sw) (pass : α := d) (raise : Option PySem.Expr → Option PySem.Expr → α := fun _ _ => d) (ex : PySem.Expr → α := fun _ => d) (ret : Option PySem.Expr → α := fun _ => d) (ite : PySem.Expr → List Stmt → List Stmt → α := fun _ _ _ => d)
    (whl : PySem.Expr → List Stmt → List Stmt → α := fun _ _ _ => d) (for_ : PySem.Expr → PySem.Expr → List Stmt → List Stmt → α := fun _ _ _ _ => d) (asg : List PySem.Expr → PySem.Expr → α := fun _ _ => d) : α := Sw.rec (motive := fun _ => α) pass raise ex ret ite whl for_ asg d w
noncomputable def sw : Stmt → Sw
  | .Pass _ => .pass
  | .Raise e c _ => .raise e c
  | .Expr x _ => .ex x
  | .Return v _ => .ret v
  | .If t b o _ => .ite t b o
  | .While t b o _ => .whl t b o
  | .For t it b o _ => .for_ t it b o
  | .Assign ts v _ => .asg ts v
  | _ => .no
noncomputable def SwOk (st : Stmt) (w : Sw) : Prop := w.el True (∃ p, st = .Pass p) (fun e c => ∃ p, st = .Raise e c p) (fun x => ∃ p, st = .Expr x p) (fun v => ∃ p, st = .Return v p) (fun t b o => ∃ p, st = .If t b o p) (fun t b o => ∃ p, st = .While t b o p) (fun t it b o => ∃ p, st = .For t it b o p) (fun ts v => ∃ p, st = .Assign ts v p)
theorem sw_ok (st : Stmt) : SwOk st (sw st) := by cases st <;> first | exact ⟨_, rfl⟩ | exact trivial
theorem sw_inv {α : Type} {P : α → Prop} {f : Sw → Option α} {st : Stmt} (h : ∀ w, SwOk st w → InvP P (f w)) : InvP P (f (sw st)) := h _ (sw_ok st)
noncomputable def sV (r : Tr) (rs : List Stmt → Option S) (sc : Scope) (sl : Sl) (w : Sw) : Option S :=
  w.el none (some .skip) (fun _ _ => some .fail) (fun x => gd (isCall x) ((r.x sc sl x).map .ex)) (fun v => (trO (r.x sc sl) v).map .ret) (fun t b o => b3 (r.co sc sl t) (rs b) (rs o) .ite) (fun t b o => gd o.isEmpty (b2 (r.co sc sl t) (rs b) .whl))
    (fun t it b o => gd o.isEmpty (b3 ((nameOf t).bind (ownSlot sc sl)) (trIt (r.x sc sl) sc it) (rs b) .for_)) (fun ts v => (one ts).bind fun t => hAsg (r.x sc sl) sc sl t v)
noncomputable def sStep (r : Tr) (rs : List Stmt → Option S) (sc : Scope) (sl : Sl) (st : Stmt) : Option S := sV r rs sc sl (sw st)
noncomputable def trSs (r : Tr) (sc : Scope) (sl : Sl) : Nat → List Stmt → Option S
  | 0, _ => none
  | n + 1, ss => match ss with
    | [] => some .skip
    | s :: rest => b2 (sStep r (trSs r sc sl n) sc sl s) (trSs r sc sl n rest) .seq
end
end Mine
end
section
open PySem PySem.W PySem.Calls PyProof.Rows
namespace Mine
section
variable {c : Cx} {A : Around} {sp : Sp} {F : Nat → Addr} {sc : Scope} {sl : Sl} {B : Bs} {env : Env} {own : List Str} {m : List V} {H : AH} {s : Shared} {E : Value → Shared → Prop}
noncomputable def StP (c : Cx) (B : Bs) (env : Env) (own : List Str) (sl : Sl) (Q : List V → AH → Prop) (R : V → AH → Prop) (fl : Flow) (s' : Shared) : Prop := match fl with
  | .next => Ex2 fun m' H' => Rep c B env own sl m' H' s' ∧ Q m' H'
  | .ret v => ∃ H', Hp c B H' s' ∧ R (av v) H'
  | _ => False
noncomputable abbrev StR (c : Cx) (A : Around) (sp : Sp) (sc : Scope) (sl : Sl) (t : Env → Sem Flow) (code : S) : Prop :=
  ∀ ⦃B : Bs⦄ ⦃env : Env⦄ ⦃m : List V⦄ ⦃H : AH⦄ ⦃s : Shared⦄ ⦃Q : List V → AH → Prop⦄ ⦃R : V → AH → Prop⦄, env.scope = sc → Rep c B env (ownOf sc) sl m H s → code.wp sp m H Q R →
    wpAny (model c.prog c.w) A (t env) (StP c B env (ownOf sc) sl Q R) (fun _ _ => False) s
theorem hsc_of (h : env.scope = sc) : ∀ n, kd env.scope n = kd sc n := fun n => by rw [h]
noncomputable abbrev UsR (c : Cx) (A : Around) (sp : Sp) (sc : Scope) (sl : Sl) (e : PySem.Expr) (x : X) : Prop :=
  ∀ ⦃B : Bs⦄ ⦃env : Env⦄ ⦃own : List Str⦄ ⦃m : List V⦄ ⦃H : AH⦄ ⦃s : Shared⦄ ⦃Q : V → AH → Prop⦄ ⦃E : Value → Shared → Prop⦄ ⦃i : Nat⦄ ⦃y : Str⦄ ⦃py : Pos⦄ ⦃P : Shared → Prop⦄, (∀ n, kd env.scope n = kd sc n) → Rep c B env own sl m H s → sl[i]? = some (some y) → y ∈ own → x.ev sp m H Q →
    (∀ s' H' v, Rep c B env own sl (m.set i v) H' s' → Q v H' → P s') → wpAny (model c.prog c.w) A (evalThenUse e env (assign (.Name y py) env)) (fun _ s' => P s') E s
noncomputable def isComp (e : PySem.Expr) : Bool := e.ctorIdx == 8 || e.ctorIdx == 9 || e.ctorIdx == 10
theorem use_of (L : Lw c A sp F) {r : Tr} (S : Snd c A sp r) {v : PySem.Expr} {x : X} (h : xStep c.T r sc sl v = some x) : isComp v = false ∨ UsR c A sp sc sl v x := by
  cases v <;> first | exact .inl rfl | skip
  case ListComp =>
    obtain ⟨v, pv, iter, ifs, gs', i, cnd, b, rfl, rfl, h1, h2, h3, h4, h5, h6⟩ := d_lc L S h
    refine .inr fun _ _ _ _ _ _ _ _ _ _ _ _ hsc R hi ho q k => ?_
    rw [arm_evalThenUse_ListComp]
    exact wpAny_bind (lcomp_run (Q' := fun v s' => wpAny (model c.prog c.w) A (pure ()) _ _ s') h1 h2 (fun env x => plain_fold h3) h4 h5 h6 hsc R q fun acc C r s' hb => post_use hi ho (fun s' H' v a b => wpAny_pure (k s' H' v a b)) hb)
  case SetComp => cases h
  case DictComp =>
    obtain ⟨v, pv, iter, i, kx, vx, rfl, rfl, h1, h2, h3, h4, h5⟩ := d_dc L S h
    refine .inr fun _ _ _ _ _ _ _ _ _ _ _ _ hsc R hi ho q k => ?_
    rw [arm_evalThenUse_DictComp]
    exact wpAny_bind (dcomp_run (Q' := fun v s' => wpAny (model c.prog c.w) A (pure ()) _ _ s') h1 (fun env x => plain_fold h2) h3 h4 h5 hsc R q fun acc C r s' hb => post_use hi ho (fun s' H' v a b => wpAny_pure (k s' H' v a b)) hb)
theorem swaps_plain {v : PySem.Expr} {t : Option PySem.Expr} {l : Nat} (h : isComp v = false) : swapsWith v t l env = pure false := by
  cases v <;> first | rfl | cases h
theorem swaps_name {v : PySem.Expr} {x : Str} {p : Pos} {l : Nat} : ∃ b, swapsWith v (some (.Name x p)) l env = pure b := by
  cases v <;> exact ⟨_, rfl⟩
noncomputable def isName (e : PySem.Expr) : Bool := e.ctorIdx == 23
theorem swaps_other {v t : PySem.Expr} {l : Nat} (h : isName t = false) : swapsWith v (some t) l env = pure false := by
  cases v <;> first | rfl | skip
  all_goals cases t <;> first | rfl | cases h
theorem own_var {x : Str} (h : varOK sc x = true) : x ∈ ownOf sc := by
  unfold varOK at h
  rw [Bool.or_eq_true, beq_iff_eq, beq_iff_eq] at h
  rcases h with q | q
  · exact List.mem_map.mpr ⟨_, List.mem_filter.mpr ⟨mem_of_lookup q, rfl⟩, rfl⟩
  · exact List.mem_map.mpr ⟨_, List.mem_filter.mpr ⟨mem_of_lookup q, rfl⟩, rfl⟩
theorem ownSlot_eq {x : Str} {i : Nat} (h : ownSlot sc sl x = some i) : slot sl x = some i ∧ x ∈ ownOf sc := by
  obtain ⟨h1, h2⟩ := gd_eq h
  exact ⟨h2, own_var h1⟩
theorem lift0 {M : Model} {t : Sem Unit} {P : AH → Prop} (R : Rep c B env own sl m H s) (h : Hp c (baseOf s.heap H) H s → wpAny M A t (fun _ s' => ∃ H', Hp c (baseOf s.heap H) H' s' ∧ P H') E s) :
    wpAny M A t (fun _ s' => ∃ H', Rep c B env own sl m H' s' ∧ P H') E s :=
  wpAny_mono (h R.hp.whole) (fun v s' ⟨H', a, b⟩ => ⟨H', R.back a, b⟩) fun _ _ x => x
theorem asg_tail {t v : PySem.Expr} {pos : Pos} {P : Flow → Shared → Prop} (hsw : swapsWith v (some t) pos.line env = pure false) (hst : swappedStores [t] v env = pure none) (hns : assignEach [t] env = [(false, assign t env)])
    (h : wpAny (model c.prog c.w) A (eval v env) (fun x s₁ => wpAny (model c.prog c.w) A (assign t env x) (fun _ => P .next) E s₁) E s) : wpAny (model c.prog c.w) A (exec (.Assign [t] v pos) env) P E s := by
  rw [arm_exec_Assign]
  refine wpAny_bind (wpAny_standAt (wpAny_bind (wpAny_of_eq hsw ?_)))
  rw [if_neg (by decide)]
  refine wpAny_bind (wpAny_mono h (fun x s₁ h₁ => ?_) fun _ _ x => x)
  rw [hst, hns]
  refine wpAny_bind (wpAny_pure ?_)
  show wpAny _ _ (do assignAll x [assign t env]; pure Flow.next) _ _ _
  exact wpAny_bind (wpAny_mono h₁ (fun _ _ x => wpAny_pure x) fun _ _ x => x)
theorem st_asg (L : Lw c A sp F) {v : PySem.Expr} {x : X} {n : Str} {p pos : Pos} {i : Nat} (hi : ownSlot sc sl n = some i) (hv : EvR c A sp sc sl v x) (hu : isComp v = false ∨ UsR c A sp sc sl v x) :
    StR c A sp sc sl (exec (.Assign [.Name n p] v pos)) (.asg i x) := fun B env m H s Q R hsc Re q => by
  obtain ⟨h1, h2⟩ := ownSlot_eq hi
  have plain : swapsWith v (some (.Name n p)) pos.line env = pure false → wpAny (model c.prog c.w) A (exec (.Assign [.Name n p] v pos) env) (StP c B env (ownOf sc) sl Q R) (fun _ _ => False) s := fun hsw => by
    refine asg_tail hsw rfl rfl (wpAny_mono (hv (hsc_of hsc) Re q) (fun y s1 e1 => ?_) fun _ _ x => x)
    obtain ⟨H1, R1, q1⟩ := e1
    rw [arm_assign_Name]
    exact wpAny_bind (wpAny_standAt (store_ok R1 h1 h2 fun s' R' => ⟨_, H1, R', q1⟩))
  rcases hu with hu | hu
  · exact plain (swaps_plain hu)
  · obtain ⟨b, hb⟩ := swaps_name (env := env) (v := v) (x := n) (p := p) (l := pos.line)
    cases b with
    | false => exact plain hb
    | true =>
      rw [arm_exec_Assign]
      refine wpAny_bind (wpAny_standAt (wpAny_bind (wpAny_of_eq hb ?_)))
      rw [if_pos rfl]
      refine wpAny_bind ?_
      exact hu (py := p) (hsc_of hsc) Re (slot_spec h1).1 h2 q fun s' H' v a b => wpAny_pure ⟨_, H', a, b⟩
theorem st_setA (L : Lw c A sp F) {o v : PySem.Expr} {x y : X} {f : Str} {p pos : Pos} {k : Nat} (hf : nmOf f = some k) (hv : EvR c A sp sc sl v x) (ho : EvR c A sp sc sl o y) :
    StR c A sp sc sl (exec (.Assign [.Attribute o f p] v pos)) (.setA y k x) := fun B env m H s Q R hsc Re q => by
  refine asg_tail (swaps_other rfl) rfl rfl (wpAny_mono (hv (hsc_of hsc) Re q) (fun z s1 e1 => ?_) fun _ _ x => x)
  obtain ⟨H1, R1, q1⟩ := e1
  rw [arm_assign_Attribute]
  refine wpAny_bind (wpAny_holding (wpAny_mono (ho (hsc_of hsc) R1 q1) (fun ov s2 e2 => ?_) fun _ _ x => x))
  obtain ⟨H2, R2, q2⟩ := e2
  obtain ⟨u, e, q3⟩ := ifS_eq q2
  obtain ⟨a, ha, hd, he⟩ := insV_eq e
  rw [av_ref ha]
  refine wpAny_bind (wpAny_standAt (wpAny_bind (wpAny_holding (wpAny_mono (lift0 (P := Q m) R2 fun R3 => o_setA L.G L.hK R3 hf hd he q3.1 q3.2) (fun _ s3 e3 => ?_) fun _ _ x => x))))
  obtain ⟨H3, R3, q3⟩ := e3
  exact wpAny_release' ⟨m, H3, R3, q3⟩
theorem sub_tail {o i : PySem.Expr} {y z : X} {p : Pos} {v : Value} {P : AH → Prop} (hsc : ∀ n, kd env.scope n = kd sc n) (ho : EvR c A sp sc sl o y) (hi : EvR c A sp sc sl i z) (Re : Rep c B env own sl m H s)
    (q : y.ev sp m H fun ov H => z.ev sp m H fun k H => setIW H ov k (av v) P) : wpAny (model c.prog c.w) A (assign (.Subscript o i p) env v) (fun _ s' => ∃ H', Rep c B env own sl m H' s' ∧ P H') E s := by
  rw [arm_assign_Subscript]
  refine wpAny_bind (wpAny_holding (wpAny_mono (ho hsc Re q) (fun ov s2 e2 => ?_) fun _ _ x => x))
  obtain ⟨H2, R2, q2⟩ := e2
  refine wpAny_bind (wpAny_holding (wpAny_mono (hi hsc R2 q2) (fun iv s3 e3 => ?_) fun _ _ x => x))
  obtain ⟨H3, R3, q3⟩ := e3
  exact wpAny_bind (wpAny_standAt (wpAny_bind (wpAny_holding (wpAny_mono (lift0 (P := P) R3 fun R4 => o_setItem R4 q3) (fun _ s4 e4 => wpAny_release' e4) fun _ _ x => x))))
theorem st_setI {o i v : PySem.Expr} {x y z : X} {p pos : Pos} (hv : EvR c A sp sc sl v x) (ho : EvR c A sp sc sl o y) (hi : EvR c A sp sc sl i z) :
    StR c A sp sc sl (exec (.Assign [.Subscript o i p] v pos)) (.setI y z x) := fun B env m H s Q R hsc Re q => by
  refine asg_tail (swaps_other rfl) rfl rfl (wpAny_mono (hv (hsc_of hsc) Re q) (fun w s1 e1 => ?_) fun _ _ x => x)
  obtain ⟨H1, R1, q1⟩ := e1
  exact wpAny_mono (sub_tail (P := Q m) (hsc_of hsc) ho hi R1 q1) (fun _ s2 ⟨H2, R2, q2⟩ => ⟨m, H2, R2, q2⟩) fun _ _ x => x
theorem tup_run {vs : List PySem.Expr} {xs : List X} {k : Nat} {tp : Pos} {P : Value → Shared → Prop} {Q : List V → AH → Prop} (hsc : ∀ n, kd env.scope n = kd sc n) (hl : vs.length ≤ sz) (hx : EsR c A sp sc sl vs xs) (R : Rep c B env own sl m H s) (q : X.evs sp xs m H Q)
    (h : ∀ t (items : List Value) H' s', Rep c B env own sl m H' s' → s'.heap.IsTuple t items.toArray → items.length = vs.length → Q (items.map av) H' → P (.ref t) s') : wpAny (model c.prog c.w) A (eval (.Tuple vs k tp) env) P E s := by
  rw [arm_eval_Tuple, plain_each hx.1.1, back_each]
  refine wpAny_bind (wpAny_standAt (wpAny_bind (wpAny_mono (hx.2 hsc R q) (fun items s1 e1 => ?_) fun _ _ x => x)))
  obtain ⟨z, H1, R1, q1⟩ := e1
  refine wpAny_newTuple (h _ items H1 _ (R1.grow (t := s1.toks) fun b o e => Heap.get?_push_of_some _ e) ⟨_, Heap.get?_push_size _ rfl, rfl, _, rfl⟩ z q1) (sz_line' (by rw [z]; exact hl))
inductive NmR (sc : Scope) (sl : Sl) : List PySem.Expr → List Str → List Nat → Prop
  | nil : NmR sc sl [] [] []
  | cons {n : Str} {p : Pos} {j : Nat} {ts : List PySem.Expr} {ns : List Str} {js : List Nat} (h : ownSlot sc sl n = some j) (r : NmR sc sl ts ns js) : NmR sc sl (.Name n p :: ts) (n :: ns) (j :: js)
theorem slots_names : ∀ {ts : List PySem.Expr} {js : List Nat}, trSlots sc sl ts = some js → ∃ ns, NmR sc sl ts ns js
  | [], js, h => by cases h; exact ⟨_, .nil⟩
  | t :: ts, js, h => by
    obtain ⟨j, js', h1, h2, rfl⟩ := b2_eq h
    obtain ⟨n, h3, h4⟩ := bb_eq h1
    obtain ⟨p, rfl⟩ := nameOf_eq h3
    obtain ⟨ns, r⟩ := slots_names h2
    exact ⟨_, .cons h4 r⟩
theorem NmR.len {ts : List PySem.Expr} {ns : List Str} {js : List Nat} (h : NmR sc sl ts ns js) : ts.length = ns.length ∧ js.length = ns.length := by
  induction h with
  | nil => exact ⟨rfl, rfl⟩
  | cons _ _ ih => exact ⟨congrArg (· + 1) ih.1, congrArg (· + 1) ih.2⟩
theorem set_comm {m : List V} {i j : Nat} {a b : V} (h : i ≠ j) : (m.set i a).set j b = (m.set j b).set i a := List.set_comm _ _ h
theorem puts_set : ∀ {js : List Nat} {vs m : List V} {j : Nat} {v : V}, j ∉ js → (putsN js vs m).set j v = putsN js vs (m.set j v)
  | [], vs, m, j, v, _ => rfl
  | i :: js, [], m, j, v, _ => rfl
  | i :: js, w :: vs, m, j, v, h => by
    simp only [List.mem_cons, not_or] at h
    show (putsN js vs (m.set i w)).set j v = putsN js vs ((m.set j v).set i w)
    rw [puts_set h.2, set_comm h.1]
theorem puts_rev : ∀ {js : List Nat} {vs m : List V}, js.Nodup → vs.length = js.length → putsN js.reverse vs.reverse m = putsN js vs m := by
  have snoc : ∀ {js : List Nat} {vs m : List V} {j : Nat} {v : V}, vs.length = js.length → putsN (js ++ [j]) (vs ++ [v]) m = (putsN js vs m).set j v := by
    intro js
    induction js with
    | nil => intro vs m j v h; cases vs with
      | nil => rfl
      | cons _ _ => cases h
    | cons i js ih => intro vs m j v h; cases vs with
      | nil => cases h
      | cons w vs => exact ih (m := m.set i w) (by simpa using h)
  intro js
  induction js with
  | nil => intro vs m _ h; cases vs with
    | nil => rfl
    | cons _ _ => cases h
  | cons i js ih => intro vs m hn h; cases vs with
    | nil => cases h
    | cons w vs =>
      have hl : vs.length = js.length := by simpa using h
      rw [List.nodup_cons] at hn
      rw [List.reverse_cons, List.reverse_cons, snoc (by simp [hl]), ih hn.2 hl, puts_set hn.1]; rfl
theorem puts_ok : ∀ (ts : List (Value → Sem Unit)) (js : List Nat) (vals : List Value) {m : List V} {s : Shared}, js.length = ts.length → vals.length = ts.length →
    (∀ (k : Nat) (t : Value → Sem Unit) (j : Nat), ts[k]? = some t → js[k]? = some j → ∀ v m s (P : Unit → Shared → Prop), Rep c B env own sl m H s → (∀ s', Rep c B env own sl (m.set j (av v)) H s' → P () s') → wpAny (model c.prog c.w) A (t v) P E s) →
    Rep c B env own sl m H s → wpAny (model c.prog c.w) A (assignInOrder ts vals) (fun _ s' => Rep c B env own sl (putsN js (vals.map av) m) H s') E s
  | [], js, vals, m, s, h1, h2, _, R => by
    cases js with
    | cons _ _ => cases h1
    | nil => exact wpAny_pure R
  | t :: ts, js, vals, m, s, h1, h2, h3, R => by
    cases js with
    | nil => cases h1
    | cons j js => cases vals with
      | nil => cases h2
      | cons v vals =>
        show wpAny _ _ (do holding vals (t v); assignInOrder ts vals) _ _ _
        refine wpAny_bind (wpAny_holding (h3 0 t j rfl rfl v m s _ R fun s' R' => ?_))
        exact puts_ok ts js vals (by simpa using h1) (by simpa using h2) (fun k t j a b => h3 (k + 1) t j a b) R'
end
end Mine
end
section
open PySem PySem.W PySem.Calls PyProof.Rows
namespace Mine
section
variable {c : Cx} {A : Around} {sp : Sp} {F : Nat → Addr} {sc : Scope} {sl : Sl} {B : Bs} {env : Env} {own : List Str} {m : List V} {H : AH} {s : Shared} {E : Value → Shared → Prop}
theorem iteO {α : Type} {c : Prop} [Decidable c] {x y z : α} (h : ¬ c → y = x ∨ y = z) : (if c then x else y) = x ∨ (if c then x else y) = z := by
  by_cases q : c
  · exact .inl (if_pos q)
  · rw [if_neg q]; exact h q
theorem iteN {α : Type} {c : Prop} [Decidable c] {x y : α} (h : ¬ c → y = x) : (if c then x else y) = x := by
  by_cases q : c
  · exact if_pos q
  · rw [if_neg q]; exact h q
theorem swap_ts {ts vs : List PySem.Expr} {ns : List Str} {js : List Nat} {k k' : Nat} {p p' : Pos} (N : NmR sc sl ts ns js) (hc : vs.all (constantsAlone 8) = false) :
    swappedStores [.Tuple ts k p] (.Tuple vs k' p') env = pure none ∨ swappedStores [.Tuple ts k p] (.Tuple vs k' p') env = pure (some ns) := by
  have key : ∀ {ts : List PySem.Expr} {ns : List Str} {js : List Nat} (line : Nat), NmR sc sl ts ns js → (ts.filterMap fun
      | .Name id pos => if (env.kindOf id == some .local && pos.line == line) = true then some id else none
      | _ => none).length ≤ ns.length ∧ ((ts.filterMap fun
      | .Name id pos => if (env.kindOf id == some .local && pos.line == line) = true then some id else none
      | _ => none).length = ns.length → (ts.filterMap fun
      | .Name id pos => if (env.kindOf id == some .local && pos.line == line) = true then some id else none
      | _ => none) = ns) := by
    intro ts ns js line N
    induction N with
    | nil => exact ⟨Nat.le_refl _, fun _ => rfl⟩
    | @cons n p j ts ns js h r ih =>
      rw [List.filterMap_cons]
      dsimp only
      by_cases hb : (env.kindOf n == some .local && p.line == line) = true
      · rw [if_pos hb]
        exact ⟨Nat.succ_le_succ ih.1, fun e => congrArg (n :: ·) (ih.2 (Nat.succ.inj e))⟩
      · rw [if_neg hb]
        refine ⟨Nat.le_succ_of_le ih.1, fun e => ?_⟩
        have := ih.1
        rw [e] at this
        exact absurd this (Nat.not_succ_le_self _)
  have hlen := N.len.1
  refine iteO fun _ => iteO fun _ => iteO fun hn => iteO fun _ => ?_
  rw [if_neg (by rw [hc]; decide)]
  refine .inr (congrArg (fun l => pure (some l)) ((key _ N).2 ?_))
  rw [← hlen]
  simp only [Bool.or_eq_true, not_or, bne_iff_ne, ne_eq, Decidable.not_not] at hn
  exact hn.1
theorem st_asgN (L : Lw c A sp F) {ts vs : List PySem.Expr} {xs : List X} {js : List Nat} {k k' : Nat} {p p' pos : Pos} (hs : trSlots sc sl ts = some js) (hl : ts.length = vs.length) (hn : js.Nodup) (hc : vs.all (constantsAlone 8) = false) (hz : vs.length ≤ sz) (hx : EsR c A sp sc sl vs xs) :
    StR c A sp sc sl (exec (.Assign [.Tuple ts k p] (.Tuple vs k' p') pos)) (.asgN js xs) := fun B env m H s Q R hsc Re q => by
  obtain ⟨ns, N⟩ := slots_names hs
  obtain ⟨n1, n2⟩ := N.len
  have unp : ∀ t (items : List Value) H' s' (P : List Value → Shared → Prop), Rep c B env (ownOf sc) sl m H' s' → s'.heap.IsTuple t items.toArray → items.length = vs.length → (∀ s'', Rep c B env (ownOf sc) sl m H' s'' → P items s'') → wpAny (model c.prog c.w) A (unpackItems (.ref t) vs.length none) P (fun _ _ => False) s' := fun t items H' s' P R' ht hi h => by
    have := wpAny_unpackItems_tuple (prog := c.prog) (w := c.w) (A := A) (E := fun _ _ => False) (Q := P) L.hh ht fun h' he => h _ (R'.grow (t := s'.toks) fun b o e => he b o (Nat.ne_of_lt (Heap.lt_size e)) e)
    rwa [List.size_toArray, hi] at this
  have nth : ∀ {ts : List PySem.Expr} {ns : List Str} {js : List Nat}, NmR sc sl ts ns js → ∀ (i : Nat) (n : Str) (j : Nat), ns[i]? = some n → js[i]? = some j → slot sl n = some j ∧ n ∈ ownOf sc := by
    intro ts ns js N
    induction N with
    | nil => intro i n j h _; simp at h
    | cons h r ih => intro i n j h1 h2; cases i with
      | zero => cases h1; cases h2; exact ownSlot_eq h
      | succ i => exact ih i n j h1 h2
  rw [arm_exec_Assign]
  refine wpAny_bind (wpAny_standAt (wpAny_bind (wpAny_of_eq (show swapsWithSole [.Tuple ts k p] (.Tuple vs k' p') pos.line env = pure false from swaps_other (env := env) (v := .Tuple vs k' p') (t := .Tuple ts k p) (l := pos.line) rfl) ?_)))
  rw [if_neg (by decide)]
  refine wpAny_bind (tup_run (hsc_of hsc) hz hx Re q fun t items H' s' R' ht hi q' => ?_)
  have fin : ∀ s'', Rep c B env (ownOf sc) sl (putsN js (items.map av) m) H' s'' → StP c B env (ownOf sc) sl Q R .next s'' := fun s'' R'' => ⟨_, H', R'', q'.2⟩
  rcases swap_ts (env := env) (k := k) (p := p) (k' := k') (p' := p') N hc with e | e <;> rw [e] <;> refine wpAny_bind (wpAny_pure ?_)
  · show wpAny _ _ (do assignAll (.ref t) [assign (.Tuple ts k p) env]; pure Flow.next) _ _ _
    have each : ∀ {ts : List PySem.Expr} {ns : List Str} {js : List Nat}, NmR sc sl ts ns js → (assignEach ts env).length = ns.length ∧ (assignEach ts env).findIdx? (·.1) = none ∧ ((assignEach ts env).map (·.2)).length = ns.length ∧
        ∀ (k : Nat) (t : Value → Sem Unit) (j : Nat), ((assignEach ts env).map (·.2))[k]? = some t → js[k]? = some j → ∀ v m s (P : Unit → Shared → Prop), Rep c B env (ownOf sc) sl m H' s → (∀ s', Rep c B env (ownOf sc) sl (m.set j (av v)) H' s' → P () s') → wpAny (model c.prog c.w) A (t v) P (fun _ _ => False) s := by
      intro ts ns js N
      induction N with
      | nil => exact ⟨rfl, rfl, rfl, fun k t j h => nsm h⟩
      | @cons n p j ts ns js h r ih =>
        have e : assignEach (.Name n p :: ts) env = (false, assign (.Name n p) env) :: assignEach ts env := rfl
        rw [e]
        refine ⟨congrArg (· + 1) ih.1, ?_, congrArg (· + 1) ih.2.2.1, fun k t j' h1 h2 => ?_⟩
        · rw [List.findIdx?_cons]; simp only [Bool.false_eq_true, if_false]; rw [ih.2.1]; rfl
        · cases k with
          | zero =>
            cases h1; cases h2
            intro v m s P R hP
            show wpAny _ _ (assign (.Name n p) env v) _ _ _
            rw [arm_assign_Name]
            exact wpAny_bind (wpAny_standAt (store_ok R (ownSlot_eq h).1 (ownSlot_eq h).2 hP))
          | succ k => exact ih.2.2.2 k t j' h1 h2
    refine nn fun hC => ?_
    obtain ⟨e1, e2, e3, e4⟩ := each N
    refine hC ?_
    refine wpAny_bind ?_
    show wpAny _ _ (assign (.Tuple ts k p) env (.ref t)) _ _ _
    rw [arm_assign_Tuple]
    refine wpAny_bind (wpAny_standAt ?_)
    unfold unpack
    rw [e1, e2, ← n1, hl]
    refine wpAny_bind (wpAny_holding (unp t items H' s' _ R' ht hi fun s'' R'' => ?_))
    exact wpAny_mono (puts_ok _ js items (n2.trans e3.symm) (by rw [hi, ← hl, n1, e3]) e4 R'') (fun _ s3 R3 => wpAny_pure (fin s3 R3)) fun _ _ x => x
  · show wpAny _ _ (do rule "assign.swapped-stores"; let items ← unpackItems (.ref t) ns.length none; assignInOrder (ns.reverse.map fun n => bindName env n) items.reverse; pure Flow.next) _ _ _
    rw [← n1, hl]
    refine wpAny_bind (wpAny_rule (wpAny_bind (unp t items H' s' _ R' ht hi fun s'' R'' => ?_)))
    refine wpAny_bind (wpAny_mono (puts_ok (ns.reverse.map fun n => bindName env n) js.reverse items.reverse (by simp [n2]) (by simp [hi, ← hl, n1]) (fun k t j h1 h2 v m s P R hP => ?_) R'') (fun _ s3 R3 => wpAny_pure (fin s3 ?_)) fun _ _ x => x)
    · rw [List.getElem?_map] at h1
      obtain ⟨n, h3, rfl⟩ := b1_eq h1
      have hk : k < ns.length := by have := (List.getElem?_eq_some_iff.mp h3).1; simpa using this
      rw [List.getElem?_reverse hk] at h3
      rw [List.getElem?_reverse (by rw [n2]; exact hk), n2] at h2
      obtain ⟨a1, a2⟩ := nth N _ n j h3 h2
      exact store_ok R a1 a2 hP
    · rw [List.map_reverse, puts_rev hn (by simp [hi, ← hl, n1, n2])] at R3
      exact R3
theorem st_swap (L : Lw c A sp F) {o1 i1 o2 i2 v1 v2 : PySem.Expr} {y1 z1 y2 z2 x1 x2 : X} {k k' : Nat} {q1 q2 p p' pos : Pos} (p1 : plainE v1 = true) (p2 : plainE v2 = true) (h1 : EvR c A sp sc sl o1 y1) (h2 : EvR c A sp sc sl i1 z1) (h3 : EvR c A sp sc sl o2 y2) (h4 : EvR c A sp sc sl i2 z2) (h5 : EvR c A sp sc sl v1 x1) (h6 : EvR c A sp sc sl v2 x2) :
    StR c A sp sc sl (exec (.Assign [.Tuple [.Subscript o1 i1 q1, .Subscript o2 i2 q2] k p] (.Tuple [v1, v2] k' p') pos)) (.swap y1 z1 y2 z2 x1 x2) := fun B env m H s Q R hsc Re q => by
  have hsw : swappedStores [.Tuple [.Subscript o1 i1 q1, .Subscript o2 i2 q2] k p] (.Tuple [v1, v2] k' p') env = pure none := iteN fun _ => iteN fun _ => rfl
  refine asg_tail (swaps_other rfl) hsw rfl ?_
  refine tup_run (Q := fun vs H => ifS (pairL vs) fun w => y1.ev sp m H fun v H => z1.ev sp m H fun k H => setIW H v k w.1 fun H => y2.ev sp m H fun v H => z2.ev sp m H fun k H => setIW H v k w.2 fun H => Q m H) (hsc_of hsc) (show 2 ≤ sz by decide) (es_cons p1 h5 (es_cons p2 h6 es_nil)) Re q fun t items H' s' R' ht hi q' => ?_
  refine nn fun hC => ?_
  obtain ⟨w, e, q0⟩ := ifS_eq q'
  clear q'
  obtain ⟨a1, a2, rfl, e1, e2⟩ := map2 (pairL_inv _ _ e)
  clear e
  refine hC ?_
  rw [← e1, ← e2] at q0
  refine wpAny_assign_Tuple L.hh ht rfl rfl fun h' he => ?_
  show wpAny _ _ (do holding [a2] (assign (.Subscript o1 i1 q1) env a1); assignInOrder [assign (.Subscript o2 i2 q2) env] [a2]) _ _ _
  refine wpAny_bind (wpAny_holding (wpAny_mono (sub_tail (hsc_of hsc) h1 h2 (R'.grow (t := s'.toks) fun b o e => he b o (Nat.ne_of_lt (Heap.lt_size e)) e) q0) (fun _ s2 e2 => ?_) fun _ _ x => x))
  obtain ⟨H2, R2, q2'⟩ := e2
  show wpAny _ _ (do holding [] (assign (.Subscript o2 i2 q2) env a2); assignInOrder [] []) _ _ _
  refine wpAny_bind (wpAny_holding (wpAny_mono (sub_tail (P := Q m) (hsc_of hsc) h3 h4 R2 q2') (fun _ s3 e3 => ?_) fun _ _ x => x))
  obtain ⟨H3, R3, q3⟩ := e3
  exact wpAny_pure ⟨m, H3, R3, q3⟩
theorem st_if {t : PySem.Expr} {b o : List Stmt} {x : X} {sb so : S} {pos : Pos} (ht : CoR c A sp sc sl t x) (hb : StR c A sp sc sl (execs b) sb) (ho : StR c A sp sc sl (execs o) so) : StR c A sp sc sl (exec (.If t b o pos)) (.ite x sb so) := fun B env m H s Q R hsc Re q => by
  refine wpAny_If (wpAny_mono (ht (hsc_of hsc) (fun v H h => ifB_b h) Re q) (fun b s1 e1 => ?_) fun _ _ x => x)
  obtain ⟨H1, R1, q1⟩ := e1
  cases b with
  | true => exact hb hsc R1 q1
  | false => exact ho hsc R1 q1
theorem st_whl {t : PySem.Expr} {b : List Stmt} {x : X} {sb : S} {pos : Pos} (ht : CoR c A sp sc sl t x) (hb : StR c A sp sc sl (execs b) sb) : StR c A sp sc sl (exec (.While t b [] pos)) (.whl x sb) := fun B env m H s Q R hsc Re q => by
  refine nn fun hC => ?_
  obtain ⟨I, n, h1, h2⟩ := q
  refine hC ?_
  refine wpAny_While ?_
  refine codeAny_whileLoop (fun n s => Ex2 fun m H => Rep c B env (ownOf sc) sl m H s ∧ I n m H) (fun n s hI => ?_) n ⟨m, H, Re, h1⟩
  refine nn fun hC => ?_
  obtain ⟨m1, H1, R1, q1⟩ := hI
  refine hC ?_
  refine wpAny_mono (ht (E := fun _ _ => False) (hsc_of hsc) (fun v H h => ifB_b h) R1 (h2 n m1 H1 q1)) (fun b s2 e2 => ?_) fun _ _ f => f.elim
  obtain ⟨H2, R2, q2⟩ := e2
  cases b with
  | false => exact wpAny_execs_nil ⟨m1, H2, R2, q2⟩
  | true =>
    refine wpAny_mono (hb hsc R2 q2) (fun fl s3 e3 => ?_) fun _ _ f => f.elim
    cases fl with
    | next =>
      refine nn fun hC => ?_
      obtain ⟨m3, H3, R3, k, hk, q3⟩ := e3
      refine hC ?_
      exact ⟨k, hk, m3, H3, R3, q3⟩
    | ret v => exact e3
    | brk => exact e3.elim
    | cont => exact e3.elim
theorem st_for {n : Str} {np pos : Pos} {it : PySem.Expr} {b : List Stmt} {x : X} {i : Nat} {sb : S} (hi : ownSlot sc sl n = some i) (hp : plainE it = true) (ht : ItR c A sp sc sl it x) (hb : StR c A sp sc sl (execs b) sb) :
    StR c A sp sc sl (exec (.For (.Name n np) it b [] pos)) (.for_ i x sb) := fun B env m H s Q R hsc Re q => by
  obtain ⟨hs, hown⟩ := ownSlot_eq hi
  refine wpAny_For (wpAny_mono (ht (hsc_of hsc) Re q) (fun v s1 e1 => wpAny_mono e1 (fun y s2 e2 => ?_) fun _ _ x => x) fun _ _ x => x) (fun _ => plain_fold hp)
  obtain ⟨I, items, chk, thaw, H2, St, rfl, P⟩ := e2
  refine codeAny_forLoop (fun k s => Ex3 fun i' m H => An7 (k = items.length - i') (i' ≤ items.length) (Rep c B env (ownOf sc) sl m H s) (St i' s.heap) (Out B env H I) ((∃ o, s.heap.get? I = some o)) (floop chk (fun v m H Q R => sb.wp sp (m.set i v) H Q R) (items.drop i') m H (fun m H => Q m (thaw H)) (fun v H => chk H ∧ R v (thaw H)))) (fun k s hI => ?_) items.length ⟨0, m, H2, rfl, Nat.zero_le _, P.rep, P.st, P.out, P.live, P.k⟩
  refine nn fun hC => ?_
  obtain ⟨j, m1, H1, rfl, hj, R1, st, oI, ⟨w0, aI⟩, hl⟩ := hI
  refine hC ?_
  cases hx : items[j]? with
  | none =>
    obtain rfl : j = items.length := Nat.le_antisymm hj (by simpa using hx)
    rw [List.drop_length] at hl
    refine P.it.done st R1.hp hl.1 fun h' tk he => wpAny_execs_nil ?_
    exact ⟨m1, _, (R1.away oI he).thawed P.tw hl.1, hl.2⟩
  | some v =>
    obtain ⟨hlt, hxe⟩ := List.getElem?_eq_some_iff.mp hx
    rw [List.drop_eq_getElem_cons hlt, hxe] at hl
    refine P.it.item hx st R1.hp hl.1 fun y h' tk hy st' hs' => ?_
    have R2 := R1.away (t := tk) oI hs'.extBut
    have ho : ∀ a ∈ [I], Out B env H1 a := allC oI allN
    dsimp only
    rw [arm_assign_Name]
    refine wpAny_bind (wpAny_standAt (store_ok (R2.hold ho) hs hown fun s3 R3' => ?_))
    obtain ⟨w1, aI1⟩ := P.it.live st'
    obtain ⟨R3, k3⟩ := R2.unhold R3' ho
    obtain ⟨aI3, oI3⟩ := k3 I (.head _) _ aI1
    have ho3 : ∀ a ∈ [I], Out B env H1 a := allC oI3 allN
    rw [hy] at R3
    refine wpAny_mono (hb hsc (R3.hold ho3) hl.2) (fun fl s4 e4 => ?_) fun _ _ f => f.elim
    have hB : ∀ a ∈ [I], OutH B H1 a := fun a ha => ⟨(ho3 a ha).b, (ho3 a ha).h⟩
    cases fl with
    | next =>
      refine nn fun hC => ?_
      obtain ⟨m4, H4, R4', q4⟩ := e4
      obtain ⟨R4, k4⟩ := R3.unhold R4' ho3
      obtain ⟨aI4, oI4⟩ := k4 I (.head _) _ aI3
      refine hC ?_
      exact ⟨items.length - (j + 1), by omega, j + 1, m4, H4, rfl, hlt, R4, P.it.frame st' (aI4.trans aI1.symm), oI4, ⟨_, aI4⟩, q4⟩
    | ret v =>
      refine nn fun hC => ?_
      obtain ⟨H4, R4', ck, q4⟩ := e4
      refine hC ?_
      exact ⟨_, P.tw.1 _ _ _ (R3.hp.unhold R4' hB).1 ck, q4⟩
    | brk => exact e4.elim
    | cont => exact e4.elim
end
end Mine
end
section
open PySem PySem.W PySem.Calls PyProof.Rows
namespace Mine
section
variable {c : Cx} {A : Around} {sp : Sp} {F : Nat → Addr} {sc : Scope} {sl : Sl} {B : Bs} {env : Env} {own : List Str} {m : List V} {H : AH} {s : Shared} {E : Value → Shared → Prop}
theorem st_skip : StR c A sp sc sl (execs []) .skip := fun _ _ _ _ _ _ _ hsc R q => wpAny_execs_nil ⟨_, _, R, q⟩
theorem st_seq {st : Stmt} {rest : List Stmt} {a b : S} (h1 : StR c A sp sc sl (exec st) a) (h2 : StR c A sp sc sl (execs rest) b) : StR c A sp sc sl (execs (st :: rest)) (.seq a b) := fun B env m H s Q R hsc Re q => by
  refine wpAny_execs_cons (wpAny_mono (h1 hsc Re q) (fun fl s1 e1 => ?_) fun _ _ x => x)
  cases fl with
  | next =>
    refine nn fun hC => ?_
    obtain ⟨m1, H1, R1, q1⟩ := e1
    refine hC ?_
    exact h2 hsc R1 q1
  | ret v => exact e1
  | brk => exact e1.elim
  | cont => exact e1.elim
theorem st_ret {e : PySem.Expr} {x : X} {pos : Pos} (h : EvR c A sp sc sl e x) : StR c A sp sc sl (exec (.Return (some e) pos)) (.ret x) := fun B env m H s Q R hsc Re q =>
  wpAny_Return_some (wpAny_mono (h (hsc_of hsc) Re q) (fun v s1 ⟨H1, R1, q1⟩ => ⟨H1, R1.hp, q1⟩) fun _ _ x => x)
theorem st_ret0 {pos : Pos} : StR c A sp sc sl (exec (.Return none pos)) (.ret (.c .none)) := fun B env m H s Q R hsc Re q => wpAny_Return_none ⟨H, Re.hp, q⟩
theorem st_ex {e : PySem.Expr} {x : X} {pos : Pos} (hc : isCall e = true) (h : EvR c A sp sc sl e x) : StR c A sp sc sl (exec (.Expr e pos)) (.ex x) := fun B env m H s Q R hsc Re q => by
  have hi : interactive env = false := by
    unfold interactive
    rw [Re.fm.eok.kind]; rfl
  refine wpAny_Expr_any (wpAny_mono (h (hsc_of hsc) Re q) (fun v s1 ⟨H1, R1, q1⟩ => ⟨m, H1, R1, q1⟩) fun _ _ x => x) hi ?_
  obtain ⟨y, hy⟩ := Option.isSome_iff_exists.mp hc
  rw [show e = _ from callOf_inv e y hy]
  rfl
theorem snd_tup (L : Lw c A sp F) {n : Nat} {ts vs : List PySem.Expr} {k k' : Nat} {p p' pos : Pos} {code : S} (h2 : hAsgT ((tr c.T (n + 1)).x sc sl) sc sl ts vs = some code) : StR c A sp sc sl (exec (.Assign [.Tuple ts k p] (.Tuple vs k' p') pos)) code := by
  have S := snd L (n + 1)
  unfold hAsgT at h2
  cases h3 : trSlots sc sl ts with
  | some js =>
    rw [h3] at h2
    obtain ⟨h4, h5⟩ := gd_eq h2
    obtain ⟨h6, h7⟩ := and2 h4
    obtain ⟨h8, h9⟩ := and2 h6
    obtain ⟨h10, h11⟩ := and2 h8
    obtain ⟨xs, h12, rfl⟩ := b1_eq h5
    rw [Bool.not_eq_true'] at h9
    exact st_asgN L h3 (beq_iff_eq.mp h10) (of_decide_eq_true h11) h9 (of_decide_eq_true h7) (ev_of S h12).es
  | none =>
    rw [h3] at h2
    obtain ⟨t, h4, h5⟩ := bb_eq h2
    obtain ⟨v, h6, h7⟩ := bb_eq h5
    obtain ⟨a, h8, h9⟩ := bb_eq h7
    obtain ⟨b, h10, h11⟩ := bb_eq h9
    obtain ⟨p1, p2, p3, h12, h13, h14, rfl⟩ := b3_eq h11
    obtain ⟨x1, y1, a1, a2, rfl⟩ := b2_eq h12
    obtain ⟨x2, y2, a3, a4, rfl⟩ := b2_eq h13
    obtain ⟨x3, y3, a5, a6, rfl⟩ := b2_eq h14
    obtain ⟨q1, e1⟩ := subOf_inv _ a h8
    obtain ⟨q2, e2⟩ := subOf_inv _ b h10
    rw [two_eq h4, two_eq h6, e1, e2]
    exact st_swap L (S.pl a5).1 (S.pl a6).1 (S.x a1) (S.x a2) (S.x a3) (S.x a4) (S.x a5) (S.x a6)
theorem snd_asg (L : Lw c A sp F) {n : Nat} {t v : PySem.Expr} {pos : Pos} {code : S} (h : hAsg ((tr c.T (n + 1)).x sc sl) sc sl t v = some code) : StR c A sp sc sl (exec (.Assign [t] v pos)) code := by
  have S := snd L (n + 1)
  obtain ⟨g, h0, hh⟩ := bb_eq h
  clear h
  have e := tgOf_inv t g h0
  clear h0
  cases g with
  | name x =>
    obtain ⟨p, rfl⟩ := e
    obtain ⟨i, x, h1, h2, rfl⟩ := b2_eq hh
    exact st_asg L h1 (S.x h2) (use_of L (snd L n) h2)
  | at_ o f =>
    obtain ⟨p, rfl⟩ := e
    obtain ⟨k, x, y, h1, h2, h3, rfl⟩ := b3_eq hh
    exact st_setA L h1 (S.x h2) (S.x h3)
  | sub o i =>
    obtain ⟨p, rfl⟩ := e
    obtain ⟨x, y, z, h1, h2, h3, rfl⟩ := b3_eq hh
    exact st_setI (S.x h1) (S.x h2) (S.x h3)
  | tup ts =>
    obtain ⟨k, p, rfl⟩ := e
    obtain ⟨vs, h1, h2⟩ := bb_eq (show (tupOf v).bind _ = _ from hh)
    obtain ⟨k', p', rfl⟩ := tupOf_inv v vs h1
    exact snd_tup L h2
noncomputable def StOk (c : Cx) (A : Around) (sp : Sp) (sc : Scope) (sl : Sl) (st : Stmt) (code : S) : Prop := code ≠ .fail → StR c A sp sc sl (exec st) code
theorem snd_st' (L : Lw c A sp F) {n : Nat} {rs : List Stmt → Option Mine.S} (hr : ∀ {ss : List Stmt} {code : Mine.S}, rs ss = some code → StR c A sp sc sl (execs ss) code) (st : Stmt) : InvP (StOk c A sp sc sl st) (sStep (tr c.T (n + 1)) rs sc sl st) := by
  have S := snd L (n + 1)
  refine sw_inv (f := sV (tr c.T (n + 1)) rs sc sl) fun w q => ?_
  cases w <;> first | exact invN | (intro code h hf; obtain ⟨_, rfl⟩ := q)
  case pass => cases h; exact fun _ _ _ _ _ _ _ hsc R q => wpAny_Pass ⟨_, _, R, q⟩
  case raise => cases h; exact absurd rfl hf
  case ex =>
    obtain ⟨h1, h2⟩ := gd_eq h
    obtain ⟨x, h3, rfl⟩ := b1_eq h2
    exact st_ex h1 (S.x h3)
  case ret v _ =>
    obtain ⟨x, h1, rfl⟩ := b1_eq h
    cases v with
    | none => cases h1; exact st_ret0
    | some e => exact st_ret (S.x h1)
  case ite =>
    obtain ⟨x, y, z, h1, h2, h3, rfl⟩ := b3_eq h
    exact st_if (S.co h1) (hr h2) (hr h3)
  case whl =>
    obtain ⟨h1, h2⟩ := gd_eq h
    obtain ⟨x, y, h3, h4, rfl⟩ := b2_eq h2
    rw [List.isEmpty_iff.mp h1]
    exact st_whl (S.co h3) (hr h4)
  case for_ =>
    obtain ⟨h1, h2⟩ := gd_eq h
    obtain ⟨i, x, y, h3, h4, h5, rfl⟩ := b3_eq h2
    obtain ⟨nn, h6, h7⟩ := bb_eq h3
    obtain ⟨p, rfl⟩ := nameOf_eq h6
    rw [List.isEmpty_iff.mp h1]
    obtain ⟨j1, j2⟩ := it_of L S h4
    exact st_for h7 j2 j1 (hr h5)
  case asg =>
    obtain ⟨t, h1, h2⟩ := bb_eq h
    rw [one_eq h1]
    exact snd_asg L h2
theorem snd_st (L : Lw c A sp F) {n : Nat} {rs : List Stmt → Option Mine.S} (hr : ∀ {ss : List Stmt} {code : Mine.S}, rs ss = some code → StR c A sp sc sl (execs ss) code) {st : Stmt} {code : Mine.S} (hf : code ≠ .fail)
    (h : sStep (tr c.T (n + 1)) rs sc sl st = some code) : StR c A sp sc sl (exec st) code := snd_st' L hr st code h hf
theorem st_fail {st : Stmt} : StR c A sp sc sl (exec st) .fail := fun _ _ _ _ _ _ _ hsc R q => q.elim
theorem snd_ss (L : Lw c A sp F) {n : Nat} : ∀ {k : Nat} {ss : List Stmt} {code : Mine.S}, trSs (tr c.T (n + 1)) sc sl k ss = some code → StR c A sp sc sl (execs ss) code
  | 0, ss, code, h => by cases h
  | k + 1, [], code, h => by cases h; exact st_skip
  | k + 1, st :: rest, code, h => by
    obtain ⟨a, b, h1, h2, rfl⟩ := b2_eq h
    refine st_seq ?_ (snd_ss L h2)
    by_cases hf : a = .fail
    · rw [hf]; exact st_fail
    · exact snd_st L (fun h => snd_ss L h) hf h1
structure Fa where
  np : Nat
  ns : Nat
  code : S
noncomputable def spN (tab : List Fa) : Nat → Sp
  | 0 => fun _ _ _ _ => False
  | n + 1 => fun g vs H Q => match tab[g]? with
    | some f => vs.length = f.np ∧ f.code.wp (spN tab n) (vs ++ List.replicate (f.ns - f.np) .un) H (fun _ H => Q .none H) Q
    | none => False
structure Good (A : Around) (n : Nat) : Prop where
  hh : A.handled = none
  dp : A.depth + 5 * n < recursionLimit
  un : A.units + 50 * n + 100 < cLine
theorem Good.deeper {n : Nat} (g : Good A (n + 1)) : Good (A.deeper env) n ∧ Good (A.deeper env).in1.in1 n ∧ ∀ a vs, Good ((A.deeper env).under (.builtin "type.__call__" ⟨.ref a :: vs, []⟩)) n := by
  obtain ⟨h1, h2, h3⟩ := g
  refine ⟨⟨h1, ?_, ?_⟩, ⟨h1, ?_, ?_⟩, fun a vs => ⟨h1, ?_, ?_⟩⟩
  · show A.depth + 1 + 5 * n < _; lia
  · show A.units + 3 + 50 * n + 100 < _; lia
  · show A.depth + 1 + 5 * n < _; lia
  · show A.units + 3 + 1 + 1 + 50 * n + 100 < _; lia
  · show A.depth + 1 + (Code.builtin "type.__call__" ⟨.ref a :: vs, []⟩).weight + 5 * n < _
    have : (Code.builtin "type.__call__" ⟨.ref a :: vs, []⟩).weight ≤ 4 := Nat.le_of_ble_eq_true (by kernel_rfl)
    lia
  · show A.units + 3 + (Code.builtin "type.__call__" ⟨.ref a :: vs, []⟩).cUnits + 50 * n + 100 < _
    have : (Code.builtin "type.__call__" ⟨.ref a :: vs, []⟩).cUnits ≤ 40 := Nat.le_of_ble_eq_true (by kernel_rfl)
    lia
end
end Mine
end
section
open PySem PySem.W PySem.Calls PyProof.Rows
namespace Mine
section
variable {c : Cx} {A : Around} {sp : Sp} {F : Nat → Addr} {B : Bs} {m : List V} {H : AH} {s : Shared} {E : Value → Shared → Prop}
structure SupOK (c : Cx) (fd : FuncData) (f g2 : Addr) (ar : Arg) : Prop where
  par : (fd.params.posonlyargs ++ fd.params.args).head? = some ar
  look : ∃ o, c.K.lookup f = some o ∧ o.data = .func fd
  code : Ex7 fun cda ccl cdd vs ccs file tf => An4 (fd.code = .ref cda) (c.K.lookup cda = some ⟨ccl, cdd, .fields vs, ccs⟩) (vs[2]? = some (.str file tf)) (((c.prog.main.file : Str) == file) = true)
  cell : Ex6 fun cc cl cld csl D cdD => An5 (fd.closure.lookup ("__class__" : Str) = some cc) (c.K.lookup cc = some ⟨cl, cld, .cell (some (.ref D)), csl⟩) (clsIn c.K D = some cdD) (mroIn c.K c.C (.ref D) = some true) (ks_superIn c.K c.C D "__init__" = some (some (.ref g2)))
  fn : Ex2 fun o fd2 => An3 (c.K.lookup g2 = some o) (o.data = .func fd2) (o.cls = .type "function")
  top : (c.prog.main.scope.names.lookup ("super" : Str)).isSome = false
  any : nsIn c.K cStatics "thirdparty.any" = some none
  sup : fd.scope.names.lookup ("super" : Str) = some .globalImplicit
  cls : fd.scope.names.lookup ("__class__" : Str) = some .free
  self : slot (slotsOf fd.scope) ar.arg = some 0
  bi : nsIn c.K mainGlobals "super" = some none
theorem st_sup (G : Gd c) {fd : FuncData} {f : Addr} {L : Addr} {g : Nat} {ar : Arg} {body : List Stmt} {p0 p1 p2 p3 ap : Pos} {a d : Addr} {es : List (Nat × V)} {r : List V} {Q : AH → Prop} (hline : (ap.endLine == p2.line) = true) (hc : Calls c A sp F) (S : SupOK c fd f (F g) ar)
    (Re : Rep c B (callEnv fd L f) (ownOf fd.scope) (slotsOf fd.scope) (.ref a :: r) H s) (ha : H a = some (.inst d)) (hd : H d = some (.att es)) (q : sp g [.ref a] H fun _ H => Q H) :
    _root_.PySem.wpAt (model c.prog c.w) A (.func body (callEnv fd L f)) (exec (.Expr (.Call (.Attribute (.Call (.Name "super" p0) [] [] p1) "__init__" ap) [] [] p2) p3) (callEnv fd L f))
      (fun fl s' => fl = .next ∧ ∃ H', Rep c B (callEnv fd L f) (ownOf fd.scope) (slotsOf fd.scope) (.ref a :: r) H' s' ∧ Q H') E s := by
  refine nn fun hC => ?_
  obtain ⟨S1, ⟨o, S2, S2'⟩, ⟨cda, ccl, cdd, vs, ccs, file, tf, S3, S4, S5, S6⟩, ⟨cc, cl, cld, csl, D, cdD, S7, S8, S9, S10, S11⟩, ⟨o2, fd2, S12, S12', S12''⟩, S13, S14, S15, S16, S17, S18⟩ := S
  refine hC ?_
  have X := Re.hp.kin G
  have hk := Re.fm.eok.kind
  have hi : interactive (callEnv fd L f) = false := by unfold interactive; rw [hk]; rfl
  refine ks_wpAt_Expr_any ?_ hi rfl
  refine ks_wpAt_MethodCall (pl := (do return (← importBound (.Call (.Name "super" p0) [] [] p1) (callEnv fd L f)).getD true)) ?_ ?_
  rotate_left
  · rw [arm_eval_Call]
    have hpos : methodCallPos true (.Call (.Name "super" p0) [] [] p1) (callEnv fd L f) ap p2 = pure p2 := by unfold methodCallPos; simp [hline]
    have hform : methodCallForm (([] : List PySem.Expr).length + ([] : List Keyword).length) (backTo p2 (starEach [] (callEnv fd L f))) (backToKw p2 (keywordEach [] (callEnv fd L f))) = true := rfl
    unfold methodCall calleeOf
    rw [hform, hpos]
    simp only [if_true, pure_bind]
    rfl
  obtain ⟨oD, hD1, hD2⟩ : ∃ oD, s.heap.get? D = some oD ∧ oD.data = .cls cdD := by
    unfold clsIn at S9
    cases ho : c.K.lookup D with
    | none => rw [ho] at S9; exact nsm S9
    | some o =>
      rw [ho] at S9
      obtain ⟨c', d', x, sl⟩ := o
      cases x <;> first | exact nsm S9 | (cases S9; exact ⟨_, X _ _ ho, rfl⟩)
  refine ks_wpAt_super_base (fd := fd) S15 S16 rfl rfl (X _ _ S2) S2' S1 S3 (X _ _ S4) rfl S5 S6 S13 ?_
  refine nn fun hC => ?_
  obtain ⟨mg, hmg⟩ := G.mg
  obtain ⟨mb, hmb, hb⟩ := G.mb
  refine hC ?_
  have hmg' := hmg.keeps Re.hp.h0
  have hmb' := hmb.keeps Re.hp.h0
  refine ks_loadName_global hk S15 (loadGlobal_builtin (by rw [Re.fm.eok.glob]; exact hmg') (mg_none_of X hmg' S18) (by rw [Re.fm.eok.bi]; exact hmb') ((hb "super" (by decide +kernel)).trans boot_super) ⟨rfl, ?_⟩)
  refine wpAny_loadName_free hk S16 S7 ⟨_, X _ _ S8, rfl⟩ ?_ (by decide +kernel)
  refine load_ok Re S17 (v := .ref a) rfl (by simp) fun x hx => ?_
  obtain rfl := av_ref hx
  refine ks_wpAny_isType_cls hD1 hD2 ⟨rfl, ?_⟩
  refine nn fun hC => ?_
  obtain ⟨l, n, kvs, I, ho, hkk, hp, hn, e1, e2⟩ := inst_at Re.hp ha hd
  refine hC ?_
  refine ks_wpAny_call_super hD1 hD2 I.at_ I.cls (fun c' e => ?_) (looks_mroIn X S10) fun h' e k => ?_
  · cases e
  have R2 : Rep c B (callEnv fd L f) (ownOf fd.scope) (slotsOf fd.scope) (.ref a :: r) H { s with heap := h' } := Re.grow (t := s.toks) k
  have X2 := R2.hp.kin G
  refine nn fun hC => ?_
  obtain ⟨l2, n2, kvs2, I2, _⟩ := inst_at R2.hp ha hd
  refine hC ?_
  have hcl : ∃ cd, clsIn c.K c.C = some cd ∧ alongIn c.K "__init__" ((cd.mro.dropWhile (· != .ref D)).drop 1) = some (some (.ref (F g))) := by
    unfold ks_superIn at S11
    exact Option.bind_eq_some_iff.mp S11
  obtain ⟨cd, hcd, hal⟩ := hcl
  refine ks_wpAny_getMethod_super e (looks_opaque X2 S14) (l₀ := cd.mro) ?_ rfl X2 hal (X2 _ _ S12) S12'' (ks_ne X2 I2 hcd) (by decide +kernel) ?_
  · exact fun A Q E s k q => wpAny_bind ((looks_clsIn X2 hcd) A _ E s k (wpAny_pure q))
  have R3 : Rep c B (callEnv fd L f) (ownOf fd.scope) (slotsOf fd.scope) (.ref a :: r) H { s with heap := h'.push { cls := .type "method", data := .fields #[.ref (F g), .ref a] }, toks := s.toks + 1 } := R2.grow (t := s.toks + 1) fun b o e => Heap.get?_push_of_some _ e
  refine callWith_of (P := fun h => h.get? h'.objs.size = some { cls := .type "method", data := .fields #[.ref (F g), .ref a] } ∧ h.get? (F g) = some o2) rfl (fun h ⟨y1, y2⟩ => ⟨.boundFrame, .inr (.inr rfl), fun A Q E s k z => ?_⟩) (evalArgs_nil3 ⟨⟨Heap.get?_push_size _ rfl, (R3.hp.kin G) _ _ S12⟩, ?_⟩)
  · unfold keeperOf
    refine wpAny_bind (wpAny_load (k _ _ y1) ?_)
    show wpAny _ _ (load (F g) >>= _) _ _ _
    refine wpAny_bind (wpAny_load (k _ _ y2) ?_)
    rw [S12']
    exact wpAny_pure z
  · refine wpAny_call (ks_codeAny_call_bound (x := .ref a) (f := F g) (Heap.get?_push_size _ rfl) ?_)
    refine codeAny_mono (hc g [.ref a] R3.hp.whole q) fun rr s' hr => ?_
    refine nn fun hC => ?_
    obtain ⟨v, rfl, H', b1, b2⟩ := hr
    refine hC ?_
    exact ⟨rfl, H', R3.back b1, b2⟩
end
end Mine
end
section
open PySem PySem.W PySem.Calls PyProof.Rows
namespace Mine
noncomputable def isSupB (e : PySem.Expr) : Bool := (callOf e).any fun x => x.2.1.isEmpty && x.2.2.1.isEmpty && nameOf x.1 == some ("super" : Str)
noncomputable def isSupE (e : PySem.Expr) : Bool := (callOf e).any fun x => (atOf x.1).any fun y => x.2.1.isEmpty && x.2.2.1.isEmpty && y.2.1 == ("__init__" : Str) && (y.2.2.endLine == x.2.2.2.line) && isSupB y.1
noncomputable def exOf (st : Stmt) : Option PySem.Expr := (sw st).el none (ex := some)
noncomputable def IsEx (st : Stmt) (e : PySem.Expr) : Prop := ∃ p, st = .Expr e p
theorem exOf_inv (st : Stmt) : InvP (IsEx st) (exOf st) := sw_inv (f := fun w => w.el none (ex := some)) fun w q => by cases w <;> first | exact invN | exact invS q
noncomputable def isSup (st : Stmt) : Bool := (exOf st).any isSupE
theorem isSup_eq {st : Stmt} (h : isSup st = true) : Ex5 fun p0 p1 p2 p3 ap => st = .Expr (.Call (.Attribute (.Call (.Name "super" p0) [] [] p1) "__init__" ap) [] [] p2) p3 ∧ (ap.endLine == p2.line) = true := by
  refine nn fun hC => ?_
  obtain ⟨e, h1, h⟩ := anyO h
  obtain ⟨x, h2, h⟩ := anyO h
  obtain ⟨y, h3, h⟩ := anyO h
  obtain ⟨h, h4⟩ := and2 h
  obtain ⟨h, h5⟩ := and2 h
  obtain ⟨h, h6⟩ := and2 h
  obtain ⟨h7, h8⟩ := and2 h
  obtain ⟨z, k1, h4⟩ := anyO h4
  obtain ⟨h4, k2⟩ := and2 h4
  obtain ⟨k3, k4⟩ := and2 h4
  obtain ⟨p3, e1⟩ := exOf_inv st e h1
  obtain ⟨p0, e2⟩ := nameOf_eq (eqO k2)
  refine hC ?_
  refine ⟨p0, z.2.2.2, x.2.2.2, p3, y.2.2, ?_, h5⟩
  rw [e1, show e = _ from callOf_inv e x h2, show x.1 = _ from atOf_inv _ y h3, show y.1 = _ from callOf_inv _ z k1, e2, List.isEmpty_iff.mp h7, List.isEmpty_iff.mp h8, List.isEmpty_iff.mp k3, List.isEmpty_iff.mp k4, eqS h6]
noncomputable def trBody (T : Tb) (n : Nat) (sc : Scope) : List Stmt → Option S
  | [] => some .skip
  | st :: rest => bif isSup st then (trSs (tr T (n + 1)) sc (slotsOf sc) 60 rest).map fun rc => .seq (.ex (.sup T.supF)) rc else trSs (tr T (n + 1)) sc (slotsOf sc) 60 (st :: rest)
section
variable {c : Cx} {F : Nat → Addr}
structure FnC (c : Cx) (F : Nat → Addr) (g : Nat) (f : Fn) : Prop where
  ok : FnOK c f
  addr : F g = f.addr
  code : trBody c.T 30 f.fd.scope f.body = some f.code
  sup : (f.body.head?.any isSup) = true → f.fd.closure.isEmpty = false ∧ ∃ ar, SupOK c f.fd f.addr (F c.T.supF) ar
noncomputable def tabOf (fns : List Fn) : List Fa := fns.map fun f => ⟨f.ps.length, (slotsOf f.fd.scope).length, f.code⟩
structure Txt (c : Cx) (F : Nat → Addr) (fns : List Fn) : Prop where
  G : Gd c
  hK : attrChk c.K c.C = true
  tb : TbOK c F
  key : keyChk c.K c.C c.T.keyN (F c.T.keyF) = true
  cls : clsChk c.K c.C c.T.cls (F c.T.initF) = true
  fns : ∀ (g : Nat) (f : Fn), fns[g]? = some f → FnC c F g f
theorem calls_ok {fns : List Fn} (T : Txt c F fns) : ∀ (n : Nat) {A : Around}, Good A n → Calls c A (spN (tabOf fns) n) F := by
  intro n
  induction n with
  | zero => intro A g B H s Q i vs R h; exact False.elim h
  | succ n ih =>
    intro A gA B H s Q i vs R h
    have h' : match (tabOf fns)[i]? with
      | some f => (vs.map av).length = f.np ∧ f.code.wp (spN (tabOf fns) n) (vs.map av ++ List.replicate (f.ns - f.np) .un) H (fun _ H => Q .none H) Q
      | none => False := h
    unfold tabOf at h'
    rw [List.getElem?_map] at h'
    cases hf : fns[i]? with
    | none => rw [hf] at h'; exact h'.elim
    | some f =>
      rw [hf] at h'
      have h2 : (vs.map av).length = f.ps.length ∧ f.code.wp (spN (tabOf fns) n) (vs.map av ++ List.replicate ((slotsOf f.fd.scope).length - f.ps.length) .un) H (fun _ H => Q .none H) Q := h'
      obtain ⟨hl, hw⟩ := h2
      have C := T.fns i f hf
      have hl' : vs.length = f.ps.length := by rw [List.length_map] at hl; exact hl
      have L : ∀ env, Lw c (A.deeper env) (spN (tabOf fns) n) F := fun env => by
        obtain ⟨g1, g2, g3⟩ := gA.deeper (env := env)
        exact ⟨T.G, g1.hh, Nat.lt_of_le_of_lt (by omega) g1.un, T.hK, T.tb, T.key, T.cls, ih g1, fun vs => ih (g3 _ vs), ih g2⟩
      have hm : m0 f.fd.scope (vs.map av) = vs.map av ++ List.replicate ((slotsOf f.fd.scope).length - f.ps.length) .un := by
        unfold m0; rw [List.length_map, hl']
      have fin : ∀ {B : Bs} {env : Env} {fl : Flow} {s' : Shared}, StP c B env (ownOf f.fd.scope) (slotsOf f.fd.scope) (fun _ H => Q .none H) Q fl s' → PH c B Q (match fl with | .ret v => v | _ => .none) s' := fun {B env fl s'} x => by
        cases fl with
        | next => obtain ⟨m', H', a, b⟩ := x; exact ⟨H', a.hp, b⟩
        | ret v => exact x
        | brk => exact x.elim
        | cont => exact x.elim
      rw [C.addr]
      have hcode := C.code
      refine code_fn T.G C.ok (by have := gA.dp; omega) R hl' ?_
      cases hb : f.body with
      | nil =>
        rw [hb] at hcode
        refine .inl fun env' s₁ he Re => wpAny_execs_nil ?_
        cases hcode' : f.code <;> rw [hcode'] at hcode <;> first | cases hcode | skip
        rw [hcode'] at hw
        exact ⟨H, Re.hp, hw⟩
      | cons st rest =>
        rw [hb] at hcode
        replace hcode : (bif isSup st then (trSs (tr c.T 31) f.fd.scope (slotsOf f.fd.scope) 60 rest).map (fun rc => Mine.S.seq (.ex (.sup c.T.supF)) rc) else trSs (tr c.T 31) f.fd.scope (slotsOf f.fd.scope) 60 (st :: rest)) = some f.code := hcode
        cases hs : isSup st with
        | false =>
          rw [hs] at hcode
          refine .inl fun env' s₁ he Re => ?_
          exact wpAny_mono (snd_ss (L env') hcode he Re (by rw [hm]; exact hw)) (fun fl s' x => fin x) fun _ _ x => x
        | true =>
          rw [hs] at hcode
          refine nn fun hC => ?_
          obtain ⟨rc, h1, h2⟩ := b1_eq hcode
          obtain ⟨p0, p1, p2, p3, ap, rfl, hline⟩ := isSup_eq hs
          obtain ⟨hcl, ar, SO⟩ := C.sup (by rw [hb]; exact hs)
          refine hC ?_
          refine .inr ⟨hcl, fun s₁ Re => ?_⟩
          rw [← h2] at hw
          rw [hm] at Re
          have hw' : X.ev (spN (tabOf fns) n) (.sup c.T.supF) (vs.map av ++ List.replicate ((slotsOf f.fd.scope).length - f.ps.length) .un) H (fun _ H => rc.wp (spN (tabOf fns) n) (vs.map av ++ List.replicate ((slotsOf f.fd.scope).length - f.ps.length) .un) H (fun _ H => Q .none H) Q) := hw
          generalize hmm : vs.map av ++ List.replicate ((slotsOf f.fd.scope).length - f.ps.length) .un = m at hw' Re
          cases m with
          | nil => exact hw'.elim
          | cons v r =>
            obtain ⟨p, e, hw2⟩ := ifS_eq (show ifS (insV H v) _ from hw')
            clear hw' hw
            obtain ⟨a, ha, hi, hd⟩ := insV_eq e
            subst ha
            refine ks_wpAt_execs_cons (ks_wpAt_mono (st_sup T.G hline (L _).calls SO Re hi hd hw2) (fun fl s2 e2 => ?_) fun _ _ x => x)
            obtain ⟨rfl, H2, R2, q2⟩ := e2
            exact wpAt_of_wpAny (wpAny_mono (snd_ss (L _) h1 rfl R2 q2) (fun fl s' x => fin x) fun _ _ x => x)
end
end Mine
end
section
open PySem PySem.W PySem.Calls PyProof.Rows
namespace Mine
noncomputable def fragAt (as : List Addr) (h : Heap) : Frag := as.filterMap fun a => (h.get? a).map fun o => (a, o)
theorem frag_in {as : List Addr} {h : Heap} : (fragAt as h).In h := fun a o e => by
  obtain ⟨l, l', e1, _⟩ := List.lookup_eq_some_iff.mp e
  have hm : (a, o) ∈ fragAt as h := by rw [e1]; simp
  obtain ⟨b, _, h2⟩ := List.mem_filterMap.mp hm
  obtain ⟨o', h3, h4⟩ := b1_eq h2
  cases h4
  exact h3
noncomputable def funcOf : Data → Option FuncData
  | .func fd => some fd
  | _ => none
noncomputable def stmtsOf : FuncBody → Option (List Stmt)
  | .stmts b => some b
  | _ => none
noncomputable def psOf (a : Arguments) : Option (List Arg) := bif a.posonlyargs.isEmpty && a.vararg.isNone && a.kwonlyargs.isEmpty && a.kw_defaults.isEmpty && a.kwarg.isNone && a.defaults.isEmpty then some a.args else none
theorem funcOf_eq {d : Data} {fd : FuncData} (h : funcOf d = some fd) : d = .func fd := by cases d <;> cases h; rfl
theorem stmtsOf_eq {d : FuncBody} {b : List Stmt} (h : stmtsOf d = some b) : d = .stmts b := by cases d <;> cases h; rfl
theorem psOf_eq {a : Arguments} {ps : List Arg} (h : psOf a = some ps) : a = ⟨[], ps, none, [], [], none, []⟩ := by
  unfold psOf at h
  cases hb : (a.posonlyargs.isEmpty && a.vararg.isNone && a.kwonlyargs.isEmpty && a.kw_defaults.isEmpty && a.kwarg.isNone && a.defaults.isEmpty) with
  | false => rw [hb] at h; cases h
  | true =>
    rw [hb] at h
    cases h
    simp only [Bool.and_eq_true, List.isEmpty_iff, Option.isNone_iff_eq_none] at hb
    obtain ⟨⟨⟨⟨⟨h1, h2⟩, h3⟩, h4⟩, h5⟩, h6⟩ := hb
    cases a
    dsimp only at h1 h2 h3 h4 h5 h6 ⊢
    subst h1 h2 h3 h4 h5 h6
    rfl
noncomputable def fnAt (T : Tb) (K : Frag) (a : Addr) : Option Fn :=
  (K.lookup a).bind fun o => (funcOf o.data).bind fun fd => (stmtsOf fd.body).bind fun b => (psOf fd.params).bind fun ps => (trBody T 30 fd.scope b).map fun code => ⟨a, o, fd, b, ps, code⟩
noncomputable def refOf : Value → Option Addr
  | .ref a => some a
  | _ => none
noncomputable def strOf : Value → Option Str
  | .str s _ => some s
  | _ => none
noncomputable def fieldsOf : Data → Option (Array Value)
  | .fields v => some v
  | _ => none
noncomputable def cellOf : Data → Option (Option Value)
  | .cell v => some v
  | _ => none
theorem refOf_eq {v : Value} {a : Addr} (h : refOf v = some a) : v = .ref a := by cases v <;> cases h; rfl
theorem strOf_eq {v : Value} {a : Str} (h : strOf v = some a) : ∃ t, v = .str a t := by cases v <;> cases h; exact ⟨_, rfl⟩
theorem fieldsOf_eq {v : Data} {a : Array Value} (h : fieldsOf v = some a) : v = .fields a := by cases v <;> cases h; rfl
theorem cellOf_eq {v : Data} {a : Option Value} (h : cellOf v = some a) : v = .cell a := by cases v <;> cases h; rfl
noncomputable def supA (fd : FuncData) (ar : Arg) : Bool := slot (slotsOf fd.scope) ar.arg == some 0
noncomputable def supB (prog : Program) (K : Frag) (fd : FuncData) : Bool :=
  (refOf fd.code).any fun cda => (K.lookup cda).any fun o => (fieldsOf o.data).any fun vs => (vs[2]?).any fun v => (strOf v).any fun file => (prog.main.file : Str) == file
noncomputable def supC (K : Frag) (C g2 : Addr) (fd : FuncData) : Bool :=
  (fd.closure.lookup ("__class__" : Str)).any fun cc => (K.lookup cc).any fun o => (cellOf o.data).any fun v => v.any fun v => (refOf v).any fun D => (clsIn K D).isSome && mroIn K C (.ref D) == some true && ks_superIn K C D "__init__" == some (some (.ref g2))
noncomputable def supD (K : Frag) (g2 : Addr) : Bool := (K.lookup g2).any fun o => (funcOf o.data).isSome && o.cls == .type "function"
noncomputable def supE (prog : Program) (K : Frag) (fd : FuncData) : Bool :=
  !(prog.main.scope.names.lookup ("super" : Str)).isSome && nsIn K cStatics "thirdparty.any" == some none && fd.scope.names.lookup ("super" : Str) == some .globalImplicit && fd.scope.names.lookup ("__class__" : Str) == some .free && nsIn K mainGlobals "super" == some none
noncomputable def supChk (prog : Program) (K : Frag) (C g2 : Addr) (fd : FuncData) : Bool :=
  !fd.closure.isEmpty && (fd.params.posonlyargs ++ fd.params.args).head?.any (supA fd) && supB prog K fd && supC K C g2 fd && supD K g2 && supE prog K fd
noncomputable def fnChk (prog : Program) (K : Frag) (C g2 : Addr) (f : Fn) : Bool :=
  codeIn K f.fd.code f.fd.qualname && fdChk f.fd f.ps && cloChk K f.fd && (!f.body.head?.any isSup || supChk prog K C g2 f.fd)
noncomputable def constChk (K : Frag) (x : Str × Int) : Bool := match nsIn K mainGlobals x.1 with
  | some (some (.int j _)) => x.2 == j
  | _ => false
noncomputable def tbChk (T : Tb) (K : Frag) (C : Addr) (fs : List Addr) : Bool :=
  T.globs.all (fun x => nsIn K mainGlobals x.1 == some (some (.ref (fs.getD x.2 0))) && keepIn K (.ref (fs.getD x.2 0))) &&
  T.meths.all (fun x => methChk K C x.1 (fs.getD x.2 0) && keepIn K (.ref (fs.getD x.2 0))) && T.consts.all (constChk K) &&
  (["abs", "len", "list", "tuple", "int", "isinstance", "bool", "range", "sorted", "super"] : List Str).all fun n => nsIn K mainGlobals n == some none
noncomputable def txtChk (prog : Program) (T : Tb) (K : Frag) (C : Addr) (fs : List Addr) : Bool :=
  attrChk K C && keyChk K C T.keyN (fs.getD T.keyF 0) && clsChk K C T.cls (fs.getD T.initF 0) && tbChk T K C fs && fs.all fun a => (fnAt T K a).all (fnChk prog K C (fs.getD T.supF 0))
noncomputable def toFa (f : Fn) : Fa := ⟨f.ps.length, (slotsOf f.fd.scope).length, f.code⟩
noncomputable def codesAt (T : Tb) (K : Frag) : List Addr → List (Option Fa)
  | [] => []
  | a :: r => (fnAt T K a).map toFa :: codesAt T K r
noncomputable def somes : List Fa → List (Option Fa)
  | [] => []
  | f :: r => some f :: somes r
theorem codes_fns {T : Tb} {K : Frag} : ∀ {fs : List Addr} {tab : List Fa}, codesAt T K fs = somes tab → ∃ fns : List Fn, fs.map (fnAt T K) = fns.map some ∧ tabOf fns = tab
  | [], [], _ => ⟨[], rfl, rfl⟩
  | a :: r, f :: tab, h => by
    refine nn fun hC => ?_
    obtain ⟨h1, h2⟩ := List.cons.inj h
    obtain ⟨g, h3, rfl⟩ := b1_eq h1
    obtain ⟨fns, h4, rfl⟩ := codes_fns h2
    refine hC ?_
    exact ⟨g :: fns, by rw [List.map_cons, h3, h4]; rfl, rfl⟩
  | [], _ :: _, h => by cases h
  | _ :: _, [], h => by cases h
theorem mem_lookup {K V : Type} [BEq K] [LawfulBEq K] {l : List (K × V)} {k : K} {v : V} (h : l.lookup k = some v) : (k, v) ∈ l := by
  obtain ⟨l1, l2, e, _⟩ := List.lookup_eq_some_iff.mp h
  rw [e]; simp
theorem sup_ok {c : Cx} {f g2 : Addr} {fd : FuncData} {o : Obj} (hl : c.K.lookup f = some o) (hd : o.data = .func fd) (h : supChk c.prog c.K c.C g2 fd = true) : fd.closure.isEmpty = false ∧ ∃ ar, SupOK c fd f g2 ar := by
  refine nn fun hC => ?_
  obtain ⟨h, h6⟩ := and2 h
  obtain ⟨h, h5⟩ := and2 h
  obtain ⟨h, h4⟩ := and2 h
  obtain ⟨h, h3⟩ := and2 h
  obtain ⟨h1, h2⟩ := and2 h
  obtain ⟨ar, h2, hs⟩ := anyO h2
  obtain ⟨cda, a1, h3⟩ := anyO h3
  obtain ⟨oc, a2, h3⟩ := anyO h3
  obtain ⟨vs, a3, h3⟩ := anyO h3
  obtain ⟨v, a4, h3⟩ := anyO h3
  obtain ⟨file, a5, hfile⟩ := anyO h3
  obtain ⟨tf, a6⟩ := strOf_eq a5
  obtain ⟨cc, b1, h4⟩ := anyO h4
  obtain ⟨ob, b2, h4⟩ := anyO h4
  obtain ⟨v', b3, h4⟩ := anyO h4
  obtain ⟨v2, b4, h4⟩ := anyO h4
  obtain ⟨D, b5, h4⟩ := anyO h4
  obtain ⟨h4, b6⟩ := and2 h4
  obtain ⟨b7, b8⟩ := and2 h4
  obtain ⟨cdD, b9⟩ := Option.isSome_iff_exists.mp b7
  obtain ⟨of, d1, h5⟩ := anyO h5
  obtain ⟨d2, d3⟩ := and2 h5
  obtain ⟨fd2, d4⟩ := Option.isSome_iff_exists.mp d2
  obtain ⟨h6, e1⟩ := and2 h6
  obtain ⟨h6, e2⟩ := and2 h6
  obtain ⟨h6, e3⟩ := and2 h6
  obtain ⟨e4, e5⟩ := and2 h6
  refine hC ?_
  rw [Bool.not_eq_true'] at h1 e4
  refine ⟨h1, ar, h2, ⟨o, hl, hd⟩, ?_, ?_, ⟨of, fd2, d1, funcOf_eq d4, beq_iff_eq.mp d3⟩, e4, beq_iff_eq.mp e5, beq_iff_eq.mp e3, beq_iff_eq.mp e2, beq_iff_eq.mp hs, beq_iff_eq.mp e1⟩
  · obtain ⟨c1, c2, c3, c4⟩ := oc
    obtain rfl : c3 = .fields vs := fieldsOf_eq a3
    exact ⟨cda, c1, c2, vs, c4, file, tf, refOf_eq a1, a2, by rw [a4, a6], hfile⟩
  · obtain ⟨c1, c2, c3, c4⟩ := ob
    obtain rfl : c3 = .cell v' := cellOf_eq b3
    refine ⟨cc, c1, c2, c4, D, cdD, b1, ?_, b9, beq_iff_eq.mp b8, beq_iff_eq.mp b6⟩
    rw [b2, b4, refOf_eq b5]
theorem fnAt_eq {T : Tb} {K : Frag} {a : Addr} {f : Fn} (h : fnAt T K a = some f) : f.addr = a ∧ K.lookup a = some f.obj ∧ f.obj.data = .func f.fd ∧ f.fd.body = .stmts f.body ∧ f.fd.params = ⟨[], f.ps, none, [], [], none, []⟩ ∧ trBody T 30 f.fd.scope f.body = some f.code := by
  refine nn fun hC => ?_
  obtain ⟨o, h1, h⟩ := bb_eq h
  obtain ⟨fd, h2, h⟩ := bb_eq h
  obtain ⟨b, h3, h⟩ := bb_eq h
  obtain ⟨ps, h4, h⟩ := bb_eq h
  obtain ⟨code, h5, rfl⟩ := b1_eq h
  refine hC ?_
  exact ⟨rfl, h1, funcOf_eq h2, stmtsOf_eq h3, psOf_eq h4, h5⟩
theorem txt_of {c : Cx} {fs : List Addr} {tab : List Fa} (G : Gd c) (h : txtChk c.prog c.T c.K c.C fs = true) (hc : codesAt c.T c.K fs = somes tab) :
    ∃ fns : List Fn, Txt c (fun g => fs.getD g 0) fns ∧ tabOf fns = tab := by
  obtain ⟨fns, h1, h2⟩ := codes_fns hc
  refine ⟨fns, ?_, h2⟩
  refine nn fun hC => ?_
  obtain ⟨h, k5⟩ := and2 h
  obtain ⟨h, k4⟩ := and2 h
  obtain ⟨h, k3⟩ := and2 h
  obtain ⟨k1, k2⟩ := and2 h
  obtain ⟨k4, t4⟩ := and2 k4
  obtain ⟨k4, t3⟩ := and2 k4
  obtain ⟨t1, t2⟩ := and2 k4
  refine hC ?_
  refine ⟨G, k1, ⟨fun n g e => ?_, fun n g e => ?_, fun n i e => ?_, fun n e => ?_⟩, k2, k3, fun g f hg => ?_⟩
  · obtain ⟨x, y⟩ := and2 (List.all_eq_true.mp t1 _ (mem_lookup e))
    exact ⟨beq_iff_eq.mp x, y⟩
  · exact and2 (List.all_eq_true.mp t2 _ (mem_lookup e))
  · have := List.all_eq_true.mp t3 _ (mem_lookup e)
    unfold constChk at this
    dsimp only at this
    cases hv : nsIn c.K mainGlobals n with
    | none => rw [hv] at this; cases this
    | some v =>
      rw [hv] at this
      cases v with
      | none => cases this
      | some v =>
        cases v <;> try cases this
        rename_i j t
        obtain rfl := beq_iff_eq.mp this
        exact ⟨t, rfl⟩
  · exact beq_iff_eq.mp (List.all_eq_true.mp t4 _ e)
  · have e1 : (fs.map (fnAt c.T c.K))[g]? = some (some f) := by rw [h1, List.getElem?_map, hg]; rfl
    rw [List.getElem?_map] at e1
    refine nn fun hC => ?_
    obtain ⟨a, e2, e3⟩ := b1_eq e1
    obtain ⟨q1, q2, q3, q4, q5, q6⟩ := fnAt_eq e3
    refine hC ?_
    have hF : fs.getD g 0 = a := by rw [List.getD_eq_getElem?_getD, e2]; rfl
    have := List.all_eq_true.mp k5 _ (List.mem_of_getElem? e2)
    rw [e3] at this
    obtain ⟨this, r4⟩ := and2 this
    obtain ⟨this, r3⟩ := and2 this
    obtain ⟨r1, r2⟩ := and2 this
    refine ⟨⟨by rw [q1]; exact q2, q3, q4, q5, r1, r2, r3⟩, by rw [q1]; exact hF, q6, fun hs => ?_⟩
    rw [hs] at r4
    rw [q1]
    exact sup_ok q2 q3 r4
noncomputable def fragChk (K : Frag) : Bool := (K.lookup sysModules).isSome && K.all fun x => x.2.cls != .type "list"
noncomputable def obsOf (prog : Program) (T : Tb) (as fs : List Addr) (C : Addr) (s : Shared) : Bool × List (Option Fa) := (fragChk (fragAt as s.heap) && txtChk prog T (fragAt as s.heap) C fs, codesAt T (fragAt as s.heap) fs)
noncomputable def SaysT (prog : Program) (T : Tb) (as fs : List Addr) (C : Addr) (tab : List Fa) (_ : World) (h : Heap) : Prop :=
  ∃ (K : Frag), An3 (K.In h) ((fragChk K && txtChk prog T K C fs) = true) (codesAt T K fs = somes tab)
theorem says_of {prog : Program} {T : Tb} {as fs : List Addr} {C : Addr} {tab : List Fa} (w : World) (s : Shared) (e : obsOf prog T as fs C s = (true, somes tab)) : SaysT prog T as fs C tab w s.heap :=
  ⟨_, frag_in, congrArg Prod.fst e, congrArg Prod.snd e⟩
theorem says_keeps {prog : Program} {T : Tb} {as fs : List Addr} {C : Addr} {tab : List Fa} (w : World) (h h' : Heap) (x : SaysT prog T as fs C tab w h) (k : ∀ b o, h.get? b = some o → h'.get? b = some o) : SaysT prog T as fs C tab w h' :=
  let ⟨K, a, b, d⟩ := x; ⟨K, a.keeps k, b, d⟩
end Mine
end
section
open PySem PySem.W PySem.Calls PyProof.Rows
set_option tactic.hygienic false
namespace Mine
noncomputable def topRunG (ok : Thread → Bool) (stp : SharedT → Thread → Option (SharedT × Thread)) : Nat → SharedT → Thread → Option SharedT
  | 0, _, _ => none
  | n + 1, s, t => match through t with
    | true => some s
    | false => match ok t with
      | false => none
      | true => match stp s t with
        | some (s', t') => topRunG ok stp n s' t'
        | none => none
section
variable {tb : String → Option Builtin} {p : Program} {w : World} {n₀ : Nat} {ann : Option Value}
theorem topRunG_of : ∀ {n : Nat} {s s' : SharedT} {t : Thread}, topRunG (stepOk n₀ ann) (stepT (denote tb) p w) n s t = some s' → topRun tb p w n₀ ann n s.abs t = some s'.abs
  | 0, _, _, _, h => by cases h
  | n + 1, s, s', t, h => by
    unfold topRunG at h
    unfold topRun
    cases ht : through t with
    | true => rw [ht] at h; cases h; rfl
    | false =>
      rw [ht] at h
      cases hk : stepOk n₀ ann t with
      | false => rw [hk] at h; cases h
      | true =>
        rw [hk] at h
        cases hs : stepT (denote tb) p w s t with
        | none => rw [hs] at h; cases h
        | some r => obtain ⟨s₂, t₂⟩ := r; rw [hs] at h; rw [stepT_spec hs]; exact topRunG_of h
noncomputable def topQ (p : Program) (w : World) (ann : Option Value) (N : Nat) (s : SharedT) : Option SharedT :=
  topRunG (Fast.tw6613529449190102663 11 ann) (Fast.tw10156331382660048174 (Fast.tw11892475500146522536 Fast.tw14364793385576792824) p w) N s (topStub p)
theorem topQ_of {N : Nat} {s s' : SharedT} (h : topQ p w ann N s = some s') : topRun treeTable p w 11 ann N s.abs (topStub p) = some s'.abs := by
  unfold topQ at h
  rw [← Fast.te6613529449190102663, ← Fast.te10156331382660048174, ← Fast.te11892475500146522536, ← Fast.te14364793385576792824] at h
  exact topRunG_of h
end
noncomputable def btOf : Nat → List Obj → BT → BT
  | _, [], t => t
  | i, o :: r, t => btOf (i + 1) r (t.ins i o)
noncomputable def boot0 (w : World) (os : OsState) : SharedT := ⟨btOf 0 (boot_heap w.params).objs.toList .nil, 11, (boot_heap w.params).life, Array.mk [], boot_drawn, boot_toks, os⟩
theorem left_top {p q : Program} {loose : List Str} {Xt : Shared → Bool} {α : Type} {Yf : Shared → α} {Ya : World → α} {N : Nat} (e : opening p = plainProg p.main.scope.names) (hN : Nat.ble 600 N = true) (f : ∀ s, fenceModules? p s = some s)
    (b : ∀ (w : World) (os : OsState), (boot0 w os).abs = ⟨boot_heap w.params, Array.mk [], boot_drawn, boot_toks, os⟩ ∧ ((boot_heap w.params).isNs mainGlobals && (Array.mk ([] : List GenState)).size == 0) = true ∧ (boot_heap w.params).objs.size = 11)
    (h1 : ∀ (w : World) (os : OsState), (topQ p w ((boot_heap w.params).nsMap mainGlobals "__annotations__") N (boot0 w os)).map (fun s => (staticsOk (importedModules p.main.body) (boot_heap w.params) s.abs.heap && namesBound p s.abs.heap && gensDone s.abs && laidKept (boot_heap w.params) s.abs.heap, Fast.tw4187177175401517315 q loose (importedModules p.main.body) Xt true s.abs)) = some (true, openGood q loose))
    (h2 : ∀ (w : World) (os : OsState), (topQ p w ((boot_heap w.params).nsMap mainGlobals "__annotations__") N (boot0 w os)).map (fun s => Yf s.abs) = some (Ya w)) : LeftO p q loose Xt Yf Ya N := fun w => by
  refine nn fun hC => ?_
  obtain ⟨⟨hp, gs, d, k, os⟩, e1, e2⟩ := Option.map_eq_some_iff.mp (boot_open e hN f w)
  refine hC ?_
  simp only [Prod.mk.injEq] at e2
  refine nn fun hC => ?_
  obtain ⟨rfl, rfl, rfl, rfl⟩ := e2
  refine hC ?_
  unfold openEnds
  rw [e1]
  refine nn fun hC => ?_
  obtain ⟨b1, b2, b3⟩ := b w os
  obtain ⟨s, g1, g2⟩ := Option.map_eq_some_iff.mp (h1 w os)
  refine hC ?_
  have g3 := h2 w os
  rw [g1] at g3
  have r := topQ_of g1
  rw [b1] at r
  obtain ⟨g4, g5⟩ := Prod.mk.inj g2
  rw [← Fast.te4187177175401517315] at g5
  have t : topFrom treeTable p w N ⟨boot_heap w.params, Array.mk [], boot_drawn, boot_toks, os⟩ = some s.abs := by
    unfold topFrom
    dsimp only
    rw [b2, b3, r]
    show (match staticsOk (importedModules p.main.body) (boot_heap w.params) s.abs.heap && namesBound p s.abs.heap && gensDone s.abs && laidKept (boot_heap w.params) s.abs.heap with | true => _ | false => _) = _
    rw [g4]
  show (topFrom treeTable p w N _).map _ = _
  rw [t]
  exact congrArg some (Prod.ext g5 (Option.some.inj g3))
theorem boot_is (w : World) (os : OsState) : (boot0 w os).abs = ⟨boot_heap w.params, Array.mk [], boot_drawn, boot_toks, os⟩ ∧ ((boot_heap w.params).isNs mainGlobals && (Array.mk ([] : List GenState)).size == 0) = true ∧ (boot_heap w.params).objs.size = 11 :=
  ⟨by kernel_rfl, by kernel_rfl, by kernel_rfl⟩
end Mine
end
section
open PySem PySem.W PySem.Calls PyProof.Rows
set_option tactic.hygienic false
namespace Mine
theorem gone (h : Heap) (a : Addr) : ∃ h' : Heap, (∀ b, b ≠ a → h'.get? b = h.get? b) ∧ h'.get? a = none := by
  refine ⟨h.update a fun o => { o with data := .freed }, fun b hb => Heap.get?_update_other _ _ (Ne.symm hb), ?_⟩
  unfold Heap.get? Heap.update
  simp only [Array.getElem?_modify]
  cases h.objs[a]? <;> simp
noncomputable def intsOf (ns : List Int) : List V := ns.map V.int
theorem ints_av {vs : List Value} {ns : List Int} (h : IntsAre vs ns) : vs.map av = intsOf ns := by
  induction h with
  | nil => rfl
  | cons n t _ ih => exact congrArg (V.int n :: ·) ih
noncomputable def oneAt (a : Addr) (x : O) : AH := fun b => if b = a then some x else none
theorem law_walk {prog : Program} {w : World} {T : Tb} {fs : List Addr} {C : Addr} {tab : List Fa} {n g : Nat} {sa a : Addr} {vs : List Value} {ns : List Int} {s : Shared} {mg mb : Str → Option Value} {name : Str}
    {as : List Addr} (Y : SaysT prog T as fs C tab w s.heap) (hg : s.gens = #[]) (hns : s.heap.Ns mainGlobals mg) (hnb : s.heap.Ns builtinsNs mb) (hb : ∀ x : Str, x ≠ "__name__" → mb x = bootBuiltins x) (hl : s.heap.NoLimit)
    (hsa : s.heap.get? sa = some { cls := .type "list", data := .seq vs.toArray }) (hi : IntsAre vs ns) (hlen : ns.length ≤ sz) (hname : T.globs.lookup name = some g) (hm : mg name = some (.ref a)) (hn : 5 * n < 600)
    (law : ∀ (H : AH) (Q : V → AH → Prop) (osa : O), H sa = some osa → H.see sa = some (.lst (intsOf ns)) → (∀ H', H' sa = some osa → Q (.bool true) H') → spN tab n g [.ref sa] H Q) :
    codeAny (model prog w) callerA (.call (.ref a) ⟨[.ref sa], []⟩) (fun r s' => r = .ok (.ret (.bool true)) ∧ s'.gens = #[] ∧ s'.os = s.os ∧ ∀ b o, s.heap.get? b = some o → s'.heap.get? b = some o) s := by
  obtain ⟨K, hK, t1, t2⟩ := Y
  obtain ⟨t0, t1⟩ := and2 t1
  obtain ⟨t3, t4⟩ := and2 t0
  have out : ∀ {b : Addr} {o : Obj}, s.heap.get? b = some o → o.cls ≠ .type "list" ∨ (∃ es ep, o.data = .dict es ep) → b ≠ sa := fun {b o} e hc => by
    rintro rfl
    rw [hsa] at e
    cases e
    rcases hc with hc | ⟨_, _, hc⟩
    · exact hc rfl
    · cases hc
  obtain ⟨h₀, g1, g2⟩ := gone s.heap sa
  have back : ∀ b o, h₀.get? b = some o → s.heap.get? b = some o ∧ b ≠ sa := fun b o e => by
    have hbs : b ≠ sa := by rintro rfl; rw [g2] at e; cases e
    exact ⟨(g1 b hbs).symm.trans e, hbs⟩
  have nsK : ∀ {b : Addr} {m : Str → Option Value}, s.heap.Ns b m → h₀.Ns b m := fun {b m} x => by
    refine nn fun hC => ?_
    obtain ⟨o, es, ep, ho, hd, r⟩ := x
    refine hC ?_
    exact ⟨o, es, ep, (g1 b (out ho (.inr ⟨_, _, hd⟩))).trans ho, hd, r⟩
  have kin : K.In h₀ := fun b o e => by
    refine (g1 b (out (hK b o e) (.inl ?_))).trans (hK b o e)
    have := List.all_eq_true.mp t4 _ (mem_lookup e)
    simpa using this
  have G : Gd ⟨prog, w, K, C, T, h₀, s.os⟩ := ⟨kin, ?_, ?_, ⟨mg, nsK hns⟩, ⟨mb, nsK hnb, hb⟩⟩
  rotate_left
  · obtain ⟨mc, x, y⟩ := hl
    exact ⟨mc, nsK x, y⟩
  · obtain ⟨o, ho⟩ := Option.isSome_iff_exists.mp t3
    exact ⟨o, kin _ _ ho⟩
  obtain ⟨fns, X, rfl⟩ := txt_of (c := ⟨prog, w, K, C, T, h₀, s.os⟩) G t1 t2
  have ha : a = fs.getD g 0 := by
    have := mg_of hK hns (X.tb.glob _ _ hname).1
    rw [hm] at this
    cases this
    rfl
  rw [ha]
  let o : Obj := { cls := .type "list", data := .seq vs.toArray }
  let x : O := .froz (.lst (intsOf ns)) o
  have hx : (oneAt sa x) sa = some x := if_pos rfl
  have hne : ∀ {b y}, (oneAt sa x) b = some y → b = sa ∧ y = x := fun {b y} e => by
    unfold oneAt at e
    by_cases hbs : b = sa
    · rw [if_pos hbs] at e; cases e; exact ⟨hbs, rfl⟩
    · rw [if_neg hbs] at e; cases e
  have hlist : Real prog w C s.heap sa (.lst (intsOf ns)) := ⟨_, ⟨0, hsa⟩, by rw [← ints_av hi], by unfold intsOf; rw [List.length_map]; exact hlen⟩
  have R : Hp ⟨prog, w, K, C, T, h₀, s.os⟩ (baseOf s.heap (oneAt sa x)) (oneAt sa x) s := by
    refine ⟨⟨hg, rfl⟩, fun b y e => ?_, fun b y e => ?_, fun b y e => ?_, fun b y e => ?_⟩
    · obtain ⟨e1, e2⟩ := back b y e
      unfold baseOf oneAt
      rw [if_neg e2]
      exact e1
    · exact (baseOf_get e).2
    · obtain ⟨rfl, rfl⟩ := hne e
      exact ⟨hsa, hlist⟩
    · unfold baseOf; rw [e]; rfl
  have gd : Good callerA n := ⟨rfl, by show 1 + claimMargin + 5 * n < _; have : claimMargin = 300 := rfl; have : recursionLimit = 1000 := rfl; lia, by show 4 + 50 * n + 100 < _; have : cLine = 9900 := rfl; lia⟩
  refine codeAny_mono (calls_ok X n gd g [.ref sa] R (Q := fun v H' => v = .bool true ∧ H' sa = some x) (law _ _ x hx (congrArg (Option.map O.un) hx) fun H' h => ⟨rfl, h⟩)) fun r s' hr => ?_
  refine nn fun hC => ?_
  obtain ⟨v, rfl, H', R', hv, h'⟩ := hr
  refine hC ?_
  refine ⟨by rw [av_bool hv], R'.gens.1, R'.gens.2, fun b o' e => ?_⟩
  by_cases hbs : b = sa
  · subst hbs
    rw [hsa] at e
    cases e
    exact (R'.real _ _ h').1
  · refine R'.keep _ _ ?_
    unfold baseOf oneAt
    rw [if_neg hbs]
    exact e
theorem well_plain {P : Params} {h : Heap} {sa : Addr} {vs : List Value} {d : List WData} (wl : Well P h (.ref sa) (.list d)) (hL : h.IsList sa vs.toArray) : h.get? sa = some { cls := .type "list", data := .seq vs.toArray } := by
  cases wl with
  | list h1 _ =>
    obtain ⟨o, h2, _, n, h3⟩ := hL
    rw [h1] at h2
    cases h2
    obtain ⟨h4, _⟩ := Data.seq.inj h3
    rw [h1, h4]
end Mine
end
section
open PySem PySem.W
namespace Mine
noncomputable def k0 : S := (.seq (.asg 1 .dict0) (.seq (.for_ 2 (.src (.loc 0)) (.seq (.ite (.cmp .mem (.neg (.loc 2)) (.loc 1)) (.seq (.ret (.c .none)) .skip) .skip) (.seq (.setI (.loc 1) (.loc 2) (.c (.bool true))) .skip))) (.seq (.ret (.bi .toTuple [(.bi .sortAbs [(.loc 1)])])) .skip)))
noncomputable def k1 : S := (.seq (.setA (.loc 0) 0 .dict0) (.seq (.setA (.loc 0) 1 .dict0) (.seq (.setA (.loc 0) 2 .dict0) (.seq (.setA (.loc 0) 3 (.list [])) (.seq (.setA (.loc 0) 4 (.list [])) (.seq (.setA (.loc 0) 5 (.c (.int 0))) (.seq (.setA (.loc 0) 6 .dict0) .skip)))))))
noncomputable def k2 : S := (.seq (.asg 2 (.bm .dget1 (.attr (.loc 0) 0) [(.bi .abs [(.loc 1)])])) (.seq (.ret (.ite (.cmp .is (.loc 2) (.c .none)) (.c .none) (.cmp .eq (.loc 2) (.cmp .gt (.loc 1) (.c (.int 0)))))) .skip))
noncomputable def k3 : S := (.seq (.asg 3 (.bi .abs [(.loc 1)])) (.seq (.setI (.attr (.loc 0) 0) (.loc 3) (.cmp .gt (.loc 1) (.c (.int 0)))) (.seq (.setI (.attr (.loc 0) 1) (.loc 3) (.bi .len [(.attr (.loc 0) 4)])) (.seq (.setI (.attr (.loc 0) 2) (.loc 3) (.loc 2)) (.seq (.ex (.bm .append (.attr (.loc 0) 3) [(.loc 1)])) .skip)))))
noncomputable def k4 : S := (.seq (.ite (.cmp .lt (.loc 1) (.bi .len [(.attr (.loc 0) 4)])) (.seq (.whl (.cmp .gt (.bi .len [(.attr (.loc 0) 3)]) (.sub (.attr (.loc 0) 4) (.loc 1))) (.seq (.asg 2 (.bi .abs [(.bm .pop (.attr (.loc 0) 3) [])])) (.seq (.setI (.attr (.loc 0) 6) (.loc 2) (.bm .dpop1 (.attr (.loc 0) 0) [(.loc 2)])) .skip))) (.seq (.setA (.loc 0) 4 (.slice (.attr (.loc 0) 4) (.c .none) (.loc 1))) (.seq (.setA (.loc 0) 5 (.bi .len [(.attr (.loc 0) 3)])) .skip))) .skip) .skip)
noncomputable def k5 : S := (.seq (.ex (.sup 1)) (.seq (.setA (.loc 0) 7 (.list [])) (.seq (.setA (.loc 0) 8 .dict0) (.seq (.setA (.loc 0) 9 (.dcomp [false, false, false, false] (.rng (.c (.int 1)) (.bin .add (.loc 2) (.c (.int 1)))) (.loc 4) (.c (.int 0)))) (.seq (.setA (.loc 0) 10 (.c (.int 1))) (.seq (.setA (.loc 0) 11 (.list [])) (.seq (.setA (.loc 0) 12 (.c (.bool false))) (.seq (.setA (.loc 0) 13 (.tup [])) (.seq (.setA (.loc 0) 14 (.c (.int 0))) (.seq (.setA (.loc 0) 15 (.c (.int 0))) (.seq (.for_ 3 (.src (.loc 1)) (.seq (.ex (.callM 6 (.loc 0) [(.loc 3)])) .skip)) .skip)))))))))))
noncomputable def k6 : S := (.seq (.ex (.callM 4 (.loc 0) [(.c (.int 0))])) (.seq (.asg 2 (.callG 0 [(.loc 1)])) (.seq (.for_ 3 (.src (.loc 1)) (.seq (.ex (.bm .setdef (.attr (.loc 0) 9) [(.bi .abs [(.loc 3)]), (.c (.int 0))])) .skip)) (.seq (.ite (.or (.cmp .is (.loc 2) (.c .none)) (.or (.attr (.loc 0) 12) (.or (.cmp .mem (.c (.bool true)) (.lcomp [true, false, false, false, false] (.src (.loc 2)) (.c (.bool true)) (.emit (.callM 2 (.loc 0) [(.loc 5)])))) (.c (.bool false))))) (.seq (.ret (.not (.attr (.loc 0) 12))) .skip) .skip) (.seq (.asg 4 (.lcomp [true, false, false, false, false] (.src (.loc 2)) (.cmp .is (.callM 2 (.loc 0) [(.loc 5)]) (.c .none)) (.emit (.loc 5)))) (.seq (.ite (.cmp .eq (.bi .len [(.loc 4)]) (.c (.int 0))) (.seq (.ex (.callM 7 (.loc 0) [])) .skip) (.seq (.ite (.cmp .eq (.bi .len [(.loc 4)]) (.c (.int 1))) (.seq (.ex (.callM 3 (.loc 0) [(.sub (.loc 4) (.c (.int 0))), (.c .none)])) .skip) (.seq (.ex (.callM 8 (.loc 0) [(.loc 4)])) .skip)) .skip)) (.seq (.ret (.not (.attr (.loc 0) 12))) .skip)))))))
noncomputable def k7 : S := (.seq (.setA (.loc 0) 12 (.c (.bool true))) (.seq (.ex (.bm .append (.attr (.loc 0) 11) [(.tup [])])) .skip))
noncomputable def k8 : S := (.seq (.ex (.bm .append (.attr (.loc 0) 7) [(.bi .toList [(.loc 1)])])) (.seq (.for_ 2 (.src (.slice (.loc 1) (.c .none) (.c (.int 2)))) (.seq (.ex (.bm .append (.bm .setdef (.attr (.loc 0) 8) [(.loc 2), (.list [])]) [(.bin .sub (.bi .len [(.attr (.loc 0) 7)]) (.c (.int 1)))])) .skip)) (.seq (.ret (.bin .sub (.bi .len [(.attr (.loc 0) 7)]) (.c (.int 1)))) .skip)))
noncomputable def k9 : S := (.seq (.whl (.cmp .lt (.attr (.loc 0) 5) (.bi .len [(.attr (.loc 0) 3)])) (.seq (.asg 1 (.neg (.sub (.attr (.loc 0) 3) (.attr (.loc 0) 5)))) (.seq (.setA (.loc 0) 5 (.bin .add (.attr (.loc 0) 5) (.c (.int 1)))) (.seq (.asgN [2, 3] [(.bm .dpop2 (.attr (.loc 0) 8) [(.loc 1), (.list [])]), (.list [])]) (.seq (.setI (.attr (.loc 0) 8) (.loc 1) (.loc 3)) (.seq (.for_ 4 (.rng (.c (.int 0)) (.bi .len [(.loc 2)])) (.seq (.ite (.not (.callM 10 (.loc 0) [(.sub (.loc 2) (.loc 4)), (.loc 1)])) (.seq (.ex (.bm .append (.loc 3) [(.sub (.loc 2) (.loc 4))])) (.seq (.asg 5 (.sub (.sub (.attr (.loc 0) 7) (.sub (.loc 2) (.loc 4))) (.c (.int 0)))) (.seq (.ite (.cmp .eq (.callM 2 (.loc 0) [(.loc 5)]) (.c (.bool false))) (.seq (.ex (.bm .extend (.loc 3) [(.slice (.loc 2) (.bin .add (.loc 4) (.c (.int 1))) (.c .none))])) (.seq (.ret (.sub (.loc 2) (.loc 4))) .skip)) .skip) (.seq (.ite (.cmp .is (.callM 2 (.loc 0) [(.loc 5)]) (.c .none)) (.seq (.ex (.callM 3 (.loc 0) [(.loc 5), (.sub (.loc 2) (.loc 4))])) .skip) .skip) .skip)))) .skip) .skip)) .skip)))))) (.seq (.ret (.neg (.c (.int 1)))) .skip))
noncomputable def k10 : S := (.seq (.asg 3 (.sub (.attr (.loc 0) 7) (.loc 1))) (.seq (.ite (.cmp .eq (.sub (.loc 3) (.c (.int 0))) (.loc 2)) (.seq (.swap (.loc 3) (.c (.int 0)) (.loc 3) (.c (.int 1)) (.sub (.loc 3) (.c (.int 1))) (.loc 2)) .skip) .skip) (.seq (.ite (.cmp .eq (.callM 2 (.loc 0) [(.sub (.loc 3) (.c (.int 0)))]) (.c (.bool true))) (.seq (.ret (.c (.bool false))) .skip) .skip) (.seq (.for_ 4 (.rng (.c (.int 2)) (.bi .len [(.loc 3)])) (.seq (.ite (.cmp .ne (.callM 2 (.loc 0) [(.sub (.loc 3) (.loc 4))]) (.c (.bool false))) (.seq (.swap (.loc 3) (.c (.int 1)) (.loc 3) (.loc 4) (.sub (.loc 3) (.loc 4)) (.loc 2)) (.seq (.ex (.bm .append (.bm .setdef (.attr (.loc 0) 8) [(.sub (.loc 3) (.c (.int 1))), (.list [])]) [(.loc 1)])) (.seq (.ret (.c (.bool true))) .skip))) .skip) .skip)) (.seq (.ret (.c (.bool false))) .skip)))))
noncomputable def k11 : S := (.seq (.setI (.attr (.loc 0) 9) (.loc 1) (.bin .add (.sub (.attr (.loc 0) 9) (.loc 1)) (.attr (.loc 0) 10))) (.seq (.ite (.cmp .gt (.sub (.attr (.loc 0) 9) (.loc 1)) (.c (.int 1000000000))) (.seq (.setA (.loc 0) 9 (.dcomp [true, false] (.src (.attr (.loc 0) 9)) (.loc 2) (.bin .fdiv (.sub (.attr (.loc 0) 9) (.loc 2)) (.c (.int 1000000000))))) (.seq (.setA (.loc 0) 10 (.c (.int 1))) .skip)) .skip) .skip))
noncomputable def k12 : S := (.seq (.asgN [2, 3, 4, 5, 6] [.dict0, (.list []), (.c (.int 0)), (.bi .len [(.attr (.loc 0) 3)]), (.c (.int 0))]) (.seq (.whl (.c (.bool true)) (.seq (.for_ 7 (.src (.sub (.attr (.loc 0) 7) (.loc 1))) (.seq (.asg 8 (.bi .abs [(.loc 7)])) (.seq (.ite (.and (.cmp .ne (.loc 7) (.loc 6)) (.and (.cmp .notMem (.loc 8) (.loc 2)) (.and (.cmp .gt (.sub (.attr (.loc 0) 1) (.loc 8)) (.c (.int 0))) (.c (.bool true))))) (.seq (.setI (.loc 2) (.loc 8) (.c (.bool true))) (.seq (.ex (.callM 11 (.loc 0) [(.loc 8)])) (.seq (.ite (.cmp .eq (.sub (.attr (.loc 0) 1) (.loc 8)) (.bi .len [(.attr (.loc 0) 4)])) (.seq (.asg 4 (.bin .add (.loc 4) (.c (.int 1)))) .skip) (.seq (.ex (.bm .append (.loc 3) [(.loc 7)])) .skip)) .skip))) .skip) .skip))) (.seq (.asg 5 (.bin .sub (.loc 5) (.c (.int 1)))) (.seq (.whl (.cmp .notMem (.bi .abs [(.sub (.attr (.loc 0) 3) (.loc 5))]) (.loc 2)) (.seq (.asg 5 (.bin .sub (.loc 5) (.c (.int 1)))) .skip)) (.seq (.asgN [6, 4] [(.sub (.attr (.loc 0) 3) (.loc 5)), (.bin .sub (.loc 4) (.c (.int 1)))]) (.seq (.ite (.cmp .eq (.loc 4) (.c (.int 0))) (.seq (.ret (.bin .add (.list [(.neg (.loc 6))]) (.loc 3))) .skip) .skip) (.seq (.asg 1 (.sub (.attr (.loc 0) 2) (.bi .abs [(.loc 6)]))) .skip))))))) .skip))
noncomputable def k13 : S := (.seq (.ret (.sub (.attr (.loc 0) 1) (.bi .abs [(.loc 1)]))) .skip)
noncomputable def k14 : S := (.seq (.setA (.loc 0) 14 (.bin .add (.attr (.loc 0) 14) (.c (.int 1)))) (.seq (.ite (.cmp .eq (.bi .len [(.attr (.loc 0) 4)]) (.c (.int 0))) (.seq (.ex (.callM 7 (.loc 0) [])) (.seq (.ret (.c .none)) .skip)) .skip) (.seq (.asg 2 (.callM 12 (.loc 0) [(.loc 1)])) (.seq (.ex (.bm .append (.attr (.loc 0) 11) [(.callG 0 [(.loc 2)])])) (.seq (.asg 2 (.bin .add (.slice (.loc 2) (.c .none) (.c (.int 1))) (.sortH 13 (.slice (.loc 2) (.c (.int 1)) (.c .none)) (.loc 0)))) (.seq (.ex (.callM 4 (.loc 0) [(.ite (.cmp .gt (.bi .len [(.loc 2)]) (.c (.int 1))) (.callM 13 (.loc 0) [(.sub (.loc 2) (.c (.int 1)))]) (.c (.int 0)))])) (.seq (.ex (.callM 3 (.loc 0) [(.sub (.loc 2) (.c (.int 0))), (.ite (.cmp .gt (.bi .len [(.loc 2)]) (.c (.int 1))) (.callM 8 (.loc 0) [(.loc 2)]) (.c .none))])) (.seq (.setA (.loc 0) 10 (.bin .add (.bin .add (.attr (.loc 0) 10) (.bin .fdiv (.attr (.loc 0) 10) (.c (.int 8)))) (.c (.int 1)))) .skip))))))))
noncomputable def k15 : S := (.seq (.asgN [2, 3] [(.list [(.loc 1)]), (.dict1 (.bi .abs [(.loc 1)]) (.c (.bool true)))]) (.seq (.for_ 4 (.src (.rev (.attr (.loc 0) 3))) (.seq (.asg 5 (.bi .abs [(.loc 4)])) (.seq (.ite (.and (.cmp .mem (.loc 5) (.loc 3)) (.and (.cmp .gt (.sub (.attr (.loc 0) 1) (.loc 5)) (.c (.int 0))) (.c (.bool true)))) (.seq (.ite (.cmp .is (.sub (.attr (.loc 0) 2) (.loc 5)) (.c .none)) (.seq (.ex (.bm .append (.loc 2) [(.loc 4)])) .skip) (.seq (.ex (.bm .update (.loc 3) [(.dcomp [false, false, false, false, false, false, false] (.src (.sub (.attr (.loc 0) 7) (.sub (.attr (.loc 0) 2) (.loc 5)))) (.bi .abs [(.loc 7)]) (.c (.bool true)))])) .skip)) .skip) .skip) .skip))) (.seq (.setA (.loc 0) 13 (.bi .toTuple [(.loc 2)])) (.seq (.asg 6 (.callG 0 [(.lcomp [false, false, false, false, false, false, false] (.src (.loc 2)) (.c (.bool true)) (.emit (.neg (.loc 7))))])) (.seq (.ite (.cmp .isNot (.loc 6) (.c .none)) (.seq (.ex (.bm .append (.attr (.loc 0) 11) [(.loc 6)])) .skip) .skip) .skip)))))
noncomputable def k16 : S := (.seq (.asg 1 (.c (.int 0))) (.seq (.for_ 2 (.src (.attr (.loc 0) 9)) (.seq (.ite (.cmp .notMem (.loc 2) (.attr (.loc 0) 0)) (.seq (.ite (.or (.cmp .eq (.loc 1) (.c (.int 0))) (.or (.cmp .gt (.tup [(.sub (.attr (.loc 0) 9) (.loc 2)), (.neg (.loc 2))]) (.tup [(.sub (.attr (.loc 0) 9) (.loc 1)), (.neg (.loc 1))])) (.c (.bool false)))) (.seq (.asg 1 (.loc 2)) .skip) .skip) .skip) .skip) .skip)) (.seq (.ret (.loc 1)) .skip)))
noncomputable def k17 : S := (.seq (.ite (.cmp .lt (.bi .len [(.attr (.loc 0) 4)]) (.bi .len [(.loc 1)])) (.seq (.asg 2 (.sub (.loc 1) (.bi .len [(.attr (.loc 0) 4)]))) (.seq (.ite (.cmp .eq (.callM 2 (.loc 0) [(.loc 2)]) (.c (.bool false))) (.seq (.ex (.callM 15 (.loc 0) [(.loc 2)])) (.seq (.ret (.c (.bool false))) .skip)) .skip) .skip)) (.seq (.asg 3 (.callM 16 (.loc 0) [])) (.seq (.ite (.cmp .eq (.loc 3) (.c (.int 0))) (.seq (.ret (.c (.bool true))) .skip) .skip) (.seq (.asg 2 (.ite (.bm .dget2 (.attr (.loc 0) 6) [(.loc 3), (.c (.bool false))]) (.loc 3) (.neg (.loc 3)))) .skip)))) (.seq (.ex (.bm .append (.attr (.loc 0) 4) [(.bi .len [(.attr (.loc 0) 3)])])) (.seq (.ite (.cmp .is (.callM 2 (.loc 0) [(.loc 2)]) (.c .none)) (.seq (.ex (.callM 3 (.loc 0) [(.loc 2), (.c .none)])) .skip) .skip) (.seq (.ret (.c .none)) .skip))))
noncomputable def k18 : S := (.seq (.ex (.callM 4 (.loc 0) [(.c (.int 0))])) (.seq (.setA (.loc 0) 13 (.tup [])) (.seq (.for_ 2 (.src (.loc 1)) (.seq (.ex (.bm .setdef (.attr (.loc 0) 9) [(.bi .abs [(.loc 2)]), (.c (.int 0))])) .skip)) (.seq (.asgN [3, 4, 5, 6] [(.attr (.loc 0) 14), (.attr (.loc 0) 14), (.c (.int 16)), (.c .none)]) (.seq (.whl (.and (.cmp .is (.loc 6) (.c .none)) (.and (.not (.attr (.loc 0) 12)) (.c (.bool true)))) (.seq (.asg 7 (.callM 9 (.loc 0) [])) (.seq (.ite (.cmp .ge (.loc 7) (.c (.int 0))) (.seq (.ex (.callM 14 (.loc 0) [(.loc 7)])) .skip) (.seq (.ite (.cmp2 .lt .le (.c (.int 0)) (.attr (.loc 0) 15) (.bin .sub (.attr (.loc 0) 14) (.loc 3))) (.seq .fail .skip) (.seq (.ite (.cmp .ge (.bin .sub (.attr (.loc 0) 14) (.loc 4)) (.loc 5)) (.seq (.asgN [4, 5] [(.attr (.loc 0) 14), (.bin .add (.loc 5) (.bin .fdiv (.loc 5) (.c (.int 2))))]) (.seq (.ex (.callM 4 (.loc 0) [(.c (.int 0))])) .skip)) (.seq (.asg 6 (.callM 17 (.loc 0) [(.loc 1)])) .skip)) .skip)) .skip)) .skip))) (.seq (.ret (.cmp .eq (.loc 6) (.c (.bool true)))) .skip))))))
noncomputable def k19 : S := (.seq (.ret (.bm .dget2 (.attr (.loc 0) 0) [(.loc 1), (.c (.bool false))])) .skip)
noncomputable def k20 : S := (.seq (.ret (.attr (.loc 0) 13)) .skip)
noncomputable def k21 : S := (.seq (.asgN [2, 3] [(.sub (.loc 0) (.c (.str 16))), (.sub (.loc 0) (.c (.str 17)))]) (.seq (.setI (.loc 0) (.c (.str 17)) (.bin .add (.loc 3) (.c (.int 1)))) (.seq (.ite (.cmp .lt (.loc 3) (.bi .len [(.loc 2)])) (.seq (.ret (.bin .mod (.bi .toInt [(.sub (.loc 2) (.loc 3))]) (.loc 1))) .skip) .skip) (.seq (.ret (.bin .mod (.bin .mod (.bin .add (.bin .add (.bin .mul (.bin .mul (.c (.int 7)) (.loc 3)) (.loc 3)) (.bin .mul (.c (.int 3)) (.loc 3))) (.bi .len [(.loc 2)])) (.c (.int 97))) (.loc 1))) .skip))))
noncomputable def k22 : S := (.seq (.asgN [2, 3] [(.bin .add (.c (.int 1)) (.callG 21 [(.loc 0), (.bin .sub (.bin .pow (.c (.int 2)) (.loc 1)) (.c (.int 1)))])), (.callG 21 [(.loc 0), (.bin .pow (.c (.int 2)) (.loc 1))])]) (.seq (.asg 4 (.lcomp [false, false, true, false, false] (.rng (.c (.int 0)) (.loc 1)) (.cmp .eq (.bin .mod (.bin .fdiv (.loc 2) (.bin .pow (.c (.int 2)) (.loc 5))) (.c (.int 2))) (.c (.int 1))) (.emit (.loc 5)))) (.seq (.ret (.bi .toTuple [(.lcomp [false, false, false, true, false] (.src (.loc 4)) (.c (.bool true)) (.emit (.ite (.cmp .eq (.bin .mod (.bin .fdiv (.loc 3) (.bin .pow (.c (.int 2)) (.loc 5))) (.c (.int 2))) (.c (.int 1))) (.neg (.bin .add (.loc 5) (.c (.int 1)))) (.bin .add (.loc 5) (.c (.int 1))))))])) .skip)))
noncomputable def k23 : S := (.seq (.asg 2 (.bin .add (.c (.int 1)) (.callG 21 [(.loc 0), (.loc 1)]))) (.seq (.ret (.ite (.cmp .eq (.callG 21 [(.loc 0), (.c (.int 2))]) (.c (.int 0))) (.loc 2) (.neg (.loc 2)))) .skip))
noncomputable def k24 : S := (.seq (.ret (.lcomp [false, true] (.src (.loc 0)) (.cmp .mem (.c (.bool true)) (.lcomp [false, false, true] (.src (.loc 1)) (.c (.bool true)) (.emit (.cmp .eq (.sub (.loc 2) (.bin .sub (.bi .abs [(.loc 3)]) (.c (.int 1)))) (.cmp .gt (.loc 3) (.c (.int 0))))))) (.emit (.loc 2)))) .skip)
noncomputable def k25 : S := (.seq (.asg 2 (.loc 0)) (.seq (.for_ 3 (.src (.loc 1)) (.seq (.asg 2 (.callG 24 [(.loc 2), (.tup [(.loc 3)])])) .skip)) (.seq (.ret (.loc 2)) .skip)))
noncomputable def k26 : S := (.seq (.ite (.callM 18 (.loc 0) [(.bi .toList [(.loc 2)])]) (.seq (.asg 4 (.bi .toTuple [(.lcomp [true, false, false, false, false, false] (.rng (.c (.int 1)) (.bin .add (.loc 3) (.c (.int 1)))) (.c (.bool true)) (.emit (.callM 19 (.loc 0) [(.loc 6)])))])) (.seq (.ret (.cmp .mem (.loc 4) (.callG 25 [(.loc 1), (.loc 2)]))) .skip)) .skip) (.seq (.asg 5 (.callM 20 (.loc 0) [])) (.seq (.ite (.or (.cmp .ne (.callG 25 [(.loc 1), (.loc 2)]) (.list [])) (.or (.cmp .ne (.callG 25 [(.loc 1), (.loc 5)]) (.list [])) (.c (.bool false)))) (.seq (.ret (.c (.bool false))) .skip) .skip) (.seq (.ite (.cmp .ne (.lcomp [false, false, true, false, false, true] (.rng (.c (.int 0)) (.bi .len [(.loc 5)])) (.or (.cmp .notMem (.sub (.loc 5) (.loc 6)) (.loc 2)) (.or (.cmp .mem (.sub (.loc 5) (.loc 6)) (.slice (.loc 5) (.c .none) (.loc 6))) (.c (.bool false)))) (.emit (.loc 6))) (.list [])) (.seq (.ret (.c (.bool false))) .skip) .skip) (.seq (.ite (.cmp .ne (.lcomp [false, false, false, false, false, true] (.src (.loc 5)) (.cmp .mem (.neg (.loc 6)) (.loc 5)) (.emit (.loc 6))) (.list [])) (.seq (.ret (.c (.bool true))) .skip) .skip) (.seq (.ret (.cmp .eq (.sub (.attr (.loc 0) 11) (.neg (.c (.int 1)))) (.bi .toTuple [(.bi .sortAbs [(.lcomp [false, false, false, false, false, false] (.src (.loc 5)) (.c (.bool true)) (.emit (.neg (.loc 6))))])]))) .skip))))))
noncomputable def k27 : S := (.seq (.asg 1 (.dictS [16, 17] [(.bi .toList [(.slice (.loc 0) (.c .none) (.c (.int 40)))]), (.c (.int 0))])) (.seq (.asg 2 (.bin .add (.c (.int 3)) (.callG 21 [(.loc 1), (.c (.int 2))]))) (.seq (.asg 3 (.list [(.tup [])])) (.seq (.for_ 4 (.rng (.c (.int 0)) (.loc 2)) (.seq (.asg 3 (.lcomp [false, false, false, false, false, false, false, false, false, false] (.src (.loc 3)) (.c (.bool true)) (.cfor (.src (.tup [(.c (.bool false)), (.c (.bool true))])) (.c (.bool true)) (.emit (.bin .add (.loc 10) (.tup [(.loc 11)])))))) .skip)) (.seq (.asg 6 (.lcomp [false, true, true, false, false, false, false, false, false, false] (.rng (.c (.int 0)) (.bin .add (.c (.int 3)) (.callG 21 [(.loc 1), (.c (.int 6))]))) (.c (.bool true)) (.emit (.callG 22 [(.loc 1), (.loc 2)])))) (.seq (.for_ 7 (.src (.loc 6)) (.seq (.asg 3 (.callG 24 [(.loc 3), (.loc 7)])) .skip)) (.seq (.asg 8 (.new 5 [(.loc 6), (.loc 2)])) (.seq (.for_ 5 (.rng (.c (.int 0)) (.bin .add (.c (.int 2)) (.callG 21 [(.loc 1), (.c (.int 3))]))) (.seq (.ite (.cmp .eq (.callG 21 [(.loc 1), (.c (.int 3))]) (.c (.int 0))) (.seq (.asg 7 (.callG 22 [(.loc 1), (.loc 2)])) (.seq (.asg 3 (.callG 24 [(.loc 3), (.loc 7)])) (.seq (.ite (.and (.not (.callM 6 (.loc 8) [(.loc 7)])) (.and (.cmp .ne (.loc 3) (.list [])) (.c (.bool true)))) (.seq (.ret (.c (.bool false))) .skip) .skip) .skip))) .skip) (.seq (.asg 9 (.lcomp [false, true, true, false, false, false, false, false, false, false] (.rng (.c (.int 0)) (.callG 21 [(.loc 1), (.c (.int 4))])) (.c (.bool true)) (.emit (.callG 23 [(.loc 1), (.loc 2)])))) (.seq (.ite (.not (.callG 26 [(.loc 8), (.loc 3), (.loc 9), (.loc 2)])) (.seq (.ret (.c (.bool false))) .skip) .skip) .skip)))) (.seq (.ret (.c (.bool true))) .skip)))))))))
noncomputable def tab02 : List Fa := [⟨1, 3, k0⟩, ⟨1, 1, k1⟩, ⟨2, 3, k2⟩, ⟨3, 4, k3⟩, ⟨2, 3, k4⟩, ⟨3, 4, k5⟩, ⟨2, 5, k6⟩, ⟨1, 1, k7⟩, ⟨2, 3, k8⟩, ⟨1, 6, k9⟩, ⟨3, 5, k10⟩, ⟨2, 2, k11⟩, ⟨2, 9, k12⟩, ⟨2, 2, k13⟩, ⟨2, 3, k14⟩, ⟨2, 7, k15⟩, ⟨1, 3, k16⟩, ⟨2, 4, k17⟩, ⟨2, 8, k18⟩, ⟨2, 2, k19⟩, ⟨1, 1, k20⟩, ⟨2, 4, k21⟩, ⟨2, 5, k22⟩, ⟨2, 3, k23⟩, ⟨2, 2, k24⟩, ⟨2, 4, k25⟩, ⟨4, 6, k26⟩, ⟨1, 10, k27⟩]
noncomputable def negV (v : V) : Option V := v.i?.map fun i => .int (-i)
noncomputable def notV (v : V) : Option V := v.b?.map fun b => .bool (!b)
noncomputable def binV (op : Op) (v w : V) : Option V := v.i?.bind fun a => w.i?.bind fun b => (intBin op a b).map .int
noncomputable def lenV (H : AH) (v : V) : Option V := v.r?.bind fun a => (H.see a).bind fun o => o.n?.map fun (n : Nat) => .int n
noncomputable def bi1V (H : AH) (f : B) (v : V) : Option V := match f with
  | .abs => v.i?.map fun i => .int i.natAbs
  | .len => lenV H v
  | .toInt => v.i?.map .int
  | _ => none
noncomputable def biV (H : AH) (f : B) : List V → Option V
  | [v] => bi1V H f v
  | _ => none
noncomputable def dgetV (H : AH) (d v k : V) : Option V := v.r?.bind fun a => k.i?.bind fun i => (H.see a).bind fun o => o.d?.map fun es => (get es i).getD d
noncomputable def bm1V (H : AH) (o : V) (f : B) (k : V) : Option V := match f with
  | .dget1 => dgetV H .none o k
  | _ => none
noncomputable def bm2V (H : AH) (o : V) (f : B) (k d : V) : Option V := match f with
  | .dget2 => dgetV H d o k
  | _ => none
noncomputable def bmV (H : AH) (o : V) (f : B) : List V → Option V
  | [k] => bm1V H o f k
  | [k, d] => bm2V H o f k d
  | _ => none
mutual
noncomputable def X.pv (m : List V) (H : AH) : X → Option V
  | .c v => some v
  | .loc i => (m[i]?).bind nun
  | .attr x f => (x.pv m H).bind fun v => attrV H v f
  | .neg x => (x.pv m H).bind negV
  | .not x => (x.pv m H).bind notV
  | .bin op l r => (l.pv m H).bind fun v => (r.pv m H).bind fun w => binV op v w
  | .cmp op l r => (l.pv m H).bind fun v => (r.pv m H).bind fun w => (cmpV H op v w).map .bool
  | .sub x i => (x.pv m H).bind fun v => (i.pv m H).bind fun k => subV H v k
  | .bi f xs => (X.pvs m H xs).bind (biV H f)
  | .bm f o xs => (o.pv m H).bind fun v => (X.pvs m H xs).bind (bmV H v f)
  | .ite c0 a b => ((c0.pv m H).bind V.b?).bind fun t => bif t then a.pv m H else b.pv m H
  | .and l r => ((l.pv m H).bind V.b?).bind fun t => bif t then ((r.pv m H).bind V.b?).map .bool else some (.bool false)
  | .or l r => ((l.pv m H).bind V.b?).bind fun t => bif t then some (.bool true) else ((r.pv m H).bind V.b?).map .bool
  | _ => none
noncomputable def X.pvs (m : List V) (H : AH) : List X → Option (List V)
  | [] => some []
  | x :: xs => (x.pv m H).bind fun v => (X.pvs m H xs).map (v :: ·)
end
section
variable {sp : Sp} {m : List V} {H : AH}
theorem pvT {T F : AH → Prop} (h : T H) : (X.c (.bool true)).ev sp m H fun v H => ifB v (T H) (F H) := h
theorem bd {α β : Type} {o : Option α} {f : α → Option β} {z : β} (h : o.bind f = some z) : BB o f z := bb_eq h
theorem bi1_ok {f : B} {w v : V} {Q : V → AH → Prop} (h : bi1V H f w = some v) (q : Q v H) : bi1 f w H Q := by
  cases f with
  | abs => obtain ⟨i, e, rfl⟩ := b1_eq h; exact ifS_mk e q
  | toInt => obtain ⟨i, e, rfl⟩ := b1_eq h; exact ifS_mk e q
  | len =>
    obtain ⟨a, e, h⟩ := bb_eq h
    obtain ⟨o, e', h⟩ := bb_eq h
    obtain ⟨n, e2, rfl⟩ := b1_eq h
    exact ifS_mk e (ifS_mk e' (ifS_mk e2 q))
  | _ => exact nsm h
theorem bi_ok {f : B} {vs : List V} {v : V} {Q : V → AH → Prop} (h : biV H f vs = some v) (q : Q v H) : biW f vs H Q := match vs, h with
  | [], h => nsm h
  | [_], h => bi1_ok h q
  | _ :: _ :: _, h => nsm h
inductive Dg (H : AH) (d w k v : V) : Prop
  | mk (a : Addr) (es : List (Int × V)) (i : Int) (e1 : w = .ref a) (e2 : k = .int i) (e3 : H.see a = some (.dct es)) (e4 : (get es i).getD d = v)
theorem dgetV_eq {d w k v : V} (h : dgetV H d w k = some v) : Dg H d w k v := by
  obtain ⟨a, e, h⟩ := bb_eq h
  obtain ⟨i, e', h⟩ := bb_eq h
  obtain ⟨o, e2, h⟩ := bb_eq h
  obtain ⟨es, e3, h⟩ := b1_eq h
  exact ⟨a, es, i, V.r_eq e, V.i_eq e', by rw [e2, O.d_eq e3], h⟩
inductive Bm (H : AH) (f : B) (w v : V) (vs : List V) : Prop
  | mk (a : Addr) (es : List (Int × V)) (e1 : w = .ref a) (e3 : H.see a = some (.dct es)) (hf : f.onDict = true) (k : ∀ {Q : V → AH → Prop}, Q v H → biW f (w :: vs) H Q)
theorem dg_ok {d w k v : V} {Q : V → AH → Prop} (h : Dg H d w k v) (q : Q v H) : dgetW H w k d Q := by
  obtain ⟨a, es, i, rfl, rfl, ha, rfl⟩ := h
  show ifS (H.see a) _
  exact ifD_mk ha q
theorem bm1_ok {f : B} {w k v : V} (h : bm1V H w f k = some v) : Bm H f w v [k] := by
  cases f with
  | dget1 => have g := dgetV_eq h; obtain ⟨a, es, i, e1, e2, e3, e4⟩ := g; exact ⟨a, es, e1, e3, rfl, fun q => dg_ok ⟨a, es, i, e1, e2, e3, e4⟩ q⟩
  | _ => exact nsm h
theorem bm2_ok {f : B} {w k d v : V} (h : bm2V H w f k d = some v) : Bm H f w v [k, d] := by
  cases f with
  | dget2 => have g := dgetV_eq h; obtain ⟨a, es, i, e1, e2, e3, e4⟩ := g; exact ⟨a, es, e1, e3, rfl, fun q => dg_ok ⟨a, es, i, e1, e2, e3, e4⟩ q⟩
  | _ => exact nsm h
theorem bm_ok {f : B} {w v : V} {vs : List V} (h : bmV H w f vs = some v) : Bm H f w v vs := match vs, h with
  | [], h => nsm h
  | [_], h => bm1_ok h
  | [_, _], h => bm2_ok h
  | _ :: _ :: _ :: _, h => nsm h
noncomputable def PvOk (sp : Sp) (m : List V) (H : AH) (x : X) : Prop := ∀ (v : V) (Q : V → AH → Prop), x.pv m H = some v → Q v H → x.ev sp m H Q
noncomputable def PvsOk (sp : Sp) (m : List V) (H : AH) (xs : List X) : Prop := ∀ (vs : List V) (Q : List V → AH → Prop), X.pvs m H xs = some vs → Q vs H → X.evs sp xs m H Q
theorem pvNo {x : X} (e : x.pv m H = none) : PvOk sp m H x := fun _ _ h _ => nsm (e.symm.trans h)
theorem pvN : PvsOk sp m H [] := fun _ _ h q => by cases h; exact q
theorem pvC {x : X} {xs : List X} (h1 : PvOk sp m H x) (h2 : PvsOk sp m H xs) : PvsOk sp m H (x :: xs) := fun vs Q h q => by
  obtain ⟨w, e1, e2⟩ := bd h
  obtain ⟨ws, e3, rfl⟩ := b1_eq e2
  exact h1 _ _ e1 (h2 _ _ e3 q)
theorem pvX (x : X) : PvOk sp m H x := by
  induction x using X.rec (motive_2 := PvsOk sp m H) with
  | c v => exact fun w Q h q => Option.some.inj h ▸ q
  | loc i => exact fun w Q h q => ifS_mk h q
  | attr x f i1 =>
    intro v Q h q
    obtain ⟨w, h1, h2⟩ := bd h
    exact i1 _ _ h1 (ifS_mk h2 q)
  | neg x i1 =>
    intro v Q h q
    obtain ⟨w, h1, h2⟩ := bd h
    obtain ⟨i, e, rfl⟩ := b1_eq h2
    exact i1 _ _ h1 (ifS_mk e q)
  | not x i1 =>
    intro v Q h q
    obtain ⟨w, h1, h2⟩ := bd h
    obtain ⟨i, e, rfl⟩ := b1_eq h2
    exact i1 _ _ h1 (ifS_mk e q)
  | bin op l r i1 i2 =>
    intro v Q h q
    obtain ⟨w, h1, h2⟩ := bd h
    obtain ⟨u, h3, h4⟩ := bd h2
    obtain ⟨a, e, h5⟩ := bb_eq h4
    obtain ⟨b, e', h6⟩ := bb_eq h5
    obtain ⟨z, h7, rfl⟩ := b1_eq h6
    refine i1 _ _ h1 (i2 _ _ h3 ?_)
    rw [V.i_eq e, V.i_eq e']
    exact ifS_mk (o := intBin op a b) h7 q
  | cmp op l r i1 i2 =>
    intro v Q h q
    obtain ⟨w, h1, h2⟩ := bd h
    obtain ⟨u, h3, h4⟩ := bd h2
    obtain ⟨z, h5, rfl⟩ := b1_eq h4
    exact i1 _ _ h1 (i2 _ _ h3 (ifS_mk h5 q))
  | sub x i i1 i2 =>
    intro v Q h q
    obtain ⟨w, h1, h2⟩ := bd h
    obtain ⟨u, h3, h4⟩ := bd h2
    exact i1 _ _ h1 (i2 _ _ h3 (ifS_mk h4 q))
  | bi f xs i1 =>
    intro v Q h q
    obtain ⟨vs, h1, h2⟩ := bd h
    exact i1 _ _ h1 (bi_ok h2 q)
  | bm f o xs i1 i2 =>
    intro v Q h q
    obtain ⟨w, h1, h2⟩ := bd h
    obtain ⟨vs, h3, h4⟩ := bd h2
    obtain ⟨a, es, e, ha, hf, hb⟩ := bm_ok h4
    exact i1 _ _ h1 (ifS_mk (show w.r? = some a from e ▸ rfl) (ifS_mk ha ⟨hf, i2 _ _ h3 (hb q)⟩))
  | ite c a b i1 i2 i3 =>
    intro v Q h q
    obtain ⟨t, h1, h2⟩ := bd h
    obtain ⟨w, h3, h4⟩ := bd h1
    refine i1 _ _ h3 (ifS_mk h4 ?_)
    cases t
    · exact i3 _ _ h2 q
    · exact i2 _ _ h2 q
  | and l r i1 i2 =>
    intro v Q h q
    obtain ⟨t, h1, h2⟩ := bd h
    obtain ⟨w, h3, h4⟩ := bd h1
    refine i1 _ _ h3 (ifS_mk h4 ?_)
    cases t
    · cases h2; exact q
    · obtain ⟨b, h5, rfl⟩ := b1_eq h2
      obtain ⟨u, h6, h7⟩ := bd h5
      exact i2 _ _ h6 (ifS_mk h7 q)
  | or l r i1 i2 =>
    intro v Q h q
    obtain ⟨t, h1, h2⟩ := bd h
    obtain ⟨w, h3, h4⟩ := bd h1
    refine i1 _ _ h3 (ifS_mk h4 ?_)
    cases t
    · obtain ⟨b, h5, rfl⟩ := b1_eq h2
      obtain ⟨u, h6, h7⟩ := bd h5
      exact i2 _ _ h6 (ifS_mk h7 q)
    · cases h2; exact q
  | nil => exact pvN
  | cons x xs i1 i2 => exact pvC i1 i2
  | _ => exact pvNo rfl
theorem pv_ok (x : X) (v : V) (Q : V → AH → Prop) (h : x.pv m H = some v) (q : Q v H) : x.ev sp m H Q := pvX x v Q h q
theorem pvs_ok : ∀ xs : List X, PvsOk sp m H xs
  | [] => pvN
  | x :: xs => pvC (pvX x) (pvs_ok xs)
end
end Mine
end
section
open PySem PySem.W
set_option tactic.hygienic false
namespace Mine
structure St where
  kn : List (Int × V)
  he : List (Int × V)
  ca : List (Int × V)
  ro : List Int
  be : List Nat
  seen : Nat
  li : List (Int × V)
  rows : List (List Int)
  wks : List Int
  wat : Int → List Nat
  ht : List (Int × V)
  gain : Int
  lg : List (List Int)
  ref : Bool
  bl : List Int
  cl : Nat
  lim : Int
inductive Ro where | ins | att | kn | he | ca | ro | be | li | rs | wa | ht | lg | bl | cl (i : Nat) | wt (l : Int) | le (i : Nat)
  deriving DecidableEq
noncomputable def use (s : St) : Ro → Prop
  | .cl i => i < s.rows.length
  | .wt l => l ∈ s.wks
  | .le i => i < s.lg.length
  | _ => True
noncomputable def zs (l : List Int) : List V := l.map .int
noncomputable def nz (l : List Nat) : List V := l.map fun (n : Nat) => .int n
noncomputable def attL (lay : Ro → Addr) (s : St) : List (Nat × V) :=
  [(0, .ref (lay .kn)), (1, .ref (lay .he)), (2, .ref (lay .ca)), (3, .ref (lay .ro)), (4, .ref (lay .be)), (5, .int s.seen), (6, .ref (lay .li)), (7, .ref (lay .rs)), (8, .ref (lay .wa)), (9, .ref (lay .ht)),
   (10, .int s.gain), (11, .ref (lay .lg)), (12, .bool s.ref), (13, .ref (lay .bl)), (14, .int s.cl), (15, .int s.lim)]
noncomputable def refs (n : Nat) (f : Nat → Addr) : List V := (List.range n).map fun i => .ref (f i)
noncomputable def wkD (lay : Ro → Addr) (ks : List Int) : List (Int × V) := ks.map fun l => (l, .ref (lay (.wt l)))
noncomputable def cont (lay : Ro → Addr) (s : St) : Ro → O
  | .ins => .inst (lay .att)
  | .att => .att (attL lay s)
  | .kn => .dct s.kn
  | .he => .dct s.he
  | .ca => .dct s.ca
  | .ro => .lst (zs s.ro)
  | .be => .lst (nz s.be)
  | .li => .dct s.li
  | .rs => .lst (refs s.rows.length fun i => lay (.cl i))
  | .wa => .dct (wkD lay s.wks)
  | .ht => .dct s.ht
  | .lg => .lst (refs s.lg.length fun i => lay (.le i))
  | .bl => .tup (zs s.bl)
  | .cl i => .lst (zs (s.rows.getD i []))
  | .wt l => .lst (nz (s.wat l))
  | .le i => .tup (zs (s.lg.getD i []))
structure Sol (H : AH) (lay : Ro → Addr) (s : St) : Prop where
  at_ : ∀ r, use s r → H (lay r) = some (cont lay s r)
  inj : ∀ r r', use s r → use s r' → lay r = lay r' → r = r'
theorem set_eq {H : AH} {a : Addr} {x : O} : H.set a x a = some x := if_pos rfl
theorem set_ne {H : AH} {a b : Addr} {x : O} (h : b ≠ a) : H.set a x b = H b := if_neg h
theorem set_set {H : AH} {a : Addr} {x y : O} : (H.set a x).set a y = H.set a y := by
  funext b
  unfold AH.set
  by_cases h : b = a <;> simp [h]
theorem see_lst {H : AH} {a : Addr} {l : List V} (h : H a = some (.lst l)) : H.see a = some (.lst l) := congrArg (Option.map O.un) h
theorem see_tup {H : AH} {a : Addr} {l : List V} (h : H a = some (.tup l)) : H.see a = some (.tup l) := congrArg (Option.map O.un) h
theorem see_dct {H : AH} {a : Addr} {l : List (Int × V)} (h : H a = some (.dct l)) : H.see a = some (.dct l) := congrArg (Option.map O.un) h
theorem see_att {H : AH} {a : Addr} {l : List (Nat × V)} (h : H a = some (.att l)) : H.see a = some (.att l) := congrArg (Option.map O.un) h
theorem see_froz {H : AH} {a : Addr} {x : O} {o : Obj} (h : H a = some (.froz x o)) : H.see a = some x := congrArg (Option.map O.un) h
noncomputable def up (lay : Ro → Addr) (r : Ro) (x : Addr) : Ro → Addr := fun q => if q = r then x else lay q
theorem up_eq {lay : Ro → Addr} {r : Ro} {x : Addr} : up lay r x r = x := if_pos rfl
theorem up_ne {lay : Ro → Addr} {r q : Ro} {x : Addr} (h : q ≠ r) : up lay r x q = lay q := if_neg h
noncomputable def fp (lay : Ro → Addr) (s : St) (x : Addr) : Prop := ∃ r, use s r ∧ lay r = x
noncomputable def fixd : Ro → Bool
  | .be => false
  | .bl => false
  | .ht => false
  | .wt _ => false
  | _ => true
structure Fr (H : AH) (lay : Ro → Addr) (s : St) (H' : AH) (lay' : Ro → Addr) (s' : St) : Prop where
  keep : ∀ x o, H x = some o → ¬ fp lay s x → H' x = some o
  new : ∀ x, fp lay' s' x → fp lay s x ∨ H x = none
  fix : ∀ q, fixd q = true → use s q → use s' q ∧ lay' q = lay q
section
variable {H H' H'' : AH} {lay lay' lay'' : Ro → Addr} {s s' s'' : St}
theorem Fr.refl : Fr H lay s H lay s := ⟨fun _ _ h _ => h, fun _ h => .inl h, fun _ _ u => ⟨u, rfl⟩⟩
theorem Fr.ins (F : Fr H lay s H' lay' s') : lay' .ins = lay .ins := (F.fix .ins rfl trivial).2
theorem Fr.trans (F : Fr H lay s H' lay' s') (G : Fr H' lay' s' H'' lay'' s'') : Fr H lay s H'' lay'' s'' := by
  refine ⟨fun x o h n => G.keep x o (F.keep x o h n) fun q => ?_, fun x q => ?_, fun q f u => ⟨(G.fix q f (F.fix q f u).1).1, (G.fix q f (F.fix q f u).1).2.trans (F.fix q f u).2⟩⟩
  · rcases F.new x q with q | q
    · exact n q
    · rw [h] at q; cases q
  · rcases G.new x q with q | q
    · exact F.new x q
    · by_cases n : fp lay s x
      · exact .inl n
      · cases h : H x with
        | none => exact .inr rfl
        | some o => rw [F.keep x o h n] at q; cases q
theorem Sol.ne (S : Sol H lay s) {x : Addr} (h : H x = none) {r : Ro} (u : use s r) : lay r ≠ x := by
  rintro rfl
  rw [S.at_ r u] at h; cases h
theorem Sol.nfp (S : Sol H lay s) {x : Addr} (h : H x = none) : ¬ fp lay s x := fun ⟨r, u, e⟩ => S.ne h u e
theorem Sol.frame (S : Sol H lay s) (h : ∀ r, use s r → H' (lay r) = H (lay r)) : Sol H' lay s := ⟨fun r u => (h r u).trans (S.at_ r u), S.inj⟩
theorem Sol.out (S : Sol H lay s) (F : Fr H lay s H' lay' s') {x : Addr} {o : O} (h : H x = some o) (n : ¬ fp lay s x) : H' x = some o ∧ ¬ fp lay' s' x := by
  refine ⟨F.keep x o h n, fun q => ?_⟩
  rcases F.new x q with q | q
  · exact n q
  · rw [h] at q; cases q
theorem Sol.junk (S : Sol H lay s) {x : Addr} {o : O} (h : H x = none) : Sol (H.set x o) lay s := S.frame fun r u => set_ne (S.ne h u)
theorem Fr.junk {x : Addr} {o : O} (h : H x = none) : Fr H lay s (H.set x o) lay s :=
  ⟨fun y q e _ => (set_ne (by rintro rfl; rw [h] at e; cases e)).trans e, fun _ h => .inl h, fun _ _ u => ⟨u, rfl⟩⟩
theorem Sol.side (S : Sol H lay s) {x : Addr} {o : O} (h : ¬ fp lay s x) : Sol (H.set x o) lay s := S.frame fun r u => set_ne fun e => h ⟨r, u, e⟩
theorem Sol.upd (S : Sol H lay s) (r : Ro) (s' : St) (hr : use s r) (hu : ∀ q, use s' q → use s q) (hc : ∀ q, q ≠ r → cont lay s' q = cont lay s q) : Sol (H.set (lay r) (cont lay s' r)) lay s' := by
  refine ⟨fun q u => ?_, fun q q' u u' e => S.inj q q' (hu q u) (hu q' u') e⟩
  by_cases h : q = r
  · subst h; exact set_eq
  · rw [set_ne fun e => h (S.inj _ _ (hu q u) hr e), hc q h]
    exact S.at_ q (hu q u)
theorem Fr.upd (r : Ro) (s' : St) {o : O} (hr : use s r) (hu : ∀ q, use s' q → use s q) (hf : ∀ q, fixd q = true → use s q → use s' q) : Fr H lay s (H.set (lay r) o) lay s' :=
  ⟨fun x o e n => (set_ne fun q => n ⟨r, hr, q.symm⟩).trans e, fun x ⟨q, u, e⟩ => .inl ⟨q, hu q u, e⟩, fun q f u => ⟨hf q f u, rfl⟩⟩
theorem Sol.reb (S : Sol H lay s) (x : Addr) (r p : Ro) (s' : St) (hx : H x = none) (hp : use s p) (hpr : p ≠ r) (hi : r ≠ .ins) (hu : ∀ q, q ≠ r → use s' q → use s q) (hc : ∀ q, q ≠ r → q ≠ p → cont (up lay r x) s' q = cont lay s q) :
    Sol ((H.set x (cont (up lay r x) s' r)).set (lay p) (cont (up lay r x) s' p)) (up lay r x) s' := by
  have hxp : lay p ≠ x := S.ne hx hp
  refine ⟨fun q u => ?_, fun q q' u u' e => ?_⟩
  · by_cases h : q = r
    · subst h
      rw [up_eq, set_ne hxp.symm]; exact set_eq
    · rw [up_ne h]
      by_cases h' : q = p
      · subst h'; exact set_eq
      · rw [set_ne fun e => h' (S.inj _ _ (hu q h u) hp e), set_ne (S.ne hx (hu q h u)), hc q h h']
        exact S.at_ q (hu q h u)
  · by_cases h : q = r
    · by_cases h' : q' = r
      · rw [h, h']
      · subst h
        rw [up_eq, up_ne h'] at e
        exact absurd e.symm (S.ne hx (hu q' h' u'))
    · by_cases h' : q' = r
      · subst h'
        rw [up_eq, up_ne h] at e
        exact absurd e (S.ne hx (hu q h u))
      · rw [up_ne h, up_ne h'] at e
        exact S.inj q q' (hu q h u) (hu q' h' u') e
theorem Fr.reb (S : Sol H lay s) (x : Addr) (r p : Ro) (s' : St) {o o' : O} (hx : H x = none) (hp : use s p) (hi : fixd r = true → ¬ use s r) (hu : ∀ q, q ≠ r → use s' q → use s q) (hf : ∀ q, fixd q = true → use s q → use s' q) : Fr H lay s ((H.set x o).set (lay p) o') (up lay r x) s' := by
  refine ⟨fun y o e n => ?_, fun y ⟨q, u, e⟩ => ?_, fun q f u => ⟨hf q f u, up_ne fun e => hi (e ▸ f) (e ▸ u)⟩⟩
  · rw [set_ne fun q => n ⟨p, hp, q.symm⟩, set_ne (by rintro rfl; rw [hx] at e; cases e)]; exact e
  · by_cases h : q = r
    · subst h
      rw [up_eq] at e
      exact .inr (e ▸ hx)
    · rw [up_ne h] at e
      exact .inl ⟨q, hu q h u, e⟩
end
theorem attr_of {H : AH} {a d : Addr} {es : List (Nat × V)} {k : Nat} {v : V} (h1 : H a = some (.inst d)) (h2 : H d = some (.att es)) (h3 : get es k = some v) (h4 : nun v = some v) : attrV H (.ref a) k = some v := bindM (insV_mk h1 h2) (bindM h3 h4)
section
variable {H : AH} {lay : Ro → Addr} {s : St} {a : Addr}
theorem Sol.a_ (S : Sol H lay s) (ha : lay .ins = a) {k : Nat} {v : V} (h3 : get (attL lay s) k = some v) (h4 : nun v = some v) : attrV H (.ref a) k = some v :=
  attr_of (ha ▸ S.at_ .ins trivial) (S.at_ .att trivial) h3 h4
end
section
variable {sp : Sp} {m : List V} {H : AH} {Q : List V → AH → Prop} {R : V → AH → Prop}
theorem s_seq {s t : S} (h : s.wp sp m H (fun m H => t.wp sp m H Q R) R) : (S.seq s t).wp sp m H Q R := h
theorem s_asg {i : Nat} {x : X} (h : x.ev sp m H fun v H => Q (m.set i v) H) : (S.asg i x).wp sp m H Q R := h
theorem s_ret {x : X} (h : x.ev sp m H R) : (S.ret x).wp sp m H Q R := h
theorem s_ex {x : X} (h : x.ev sp m H fun _ H => Q m H) : (S.ex x).wp sp m H Q R := h
theorem s_skip (h : Q m H) : S.skip.wp sp m H Q R := h
theorem s_ite {c : X} {s t : S} {b : Bool} (h : c.pv m H = some (.bool b)) (h1 : b = true → s.wp sp m H Q R) (h2 : b = false → t.wp sp m H Q R) : (S.ite c s t).wp sp m H Q R := by
  refine pv_ok c _ _ h (ifS_mk (o := (V.bool b).b?) rfl ?_)
  cases b
  · exact h2 rfl
  · exact h1 rfl
theorem s_whl {c : X} {s : S} (I : Nat → List V → AH → Prop) (n : Nat) (h : I n m H) (h' : ∀ n m H, I n m H → c.ev sp m H fun v H => ifB v (s.wp sp m H (fun m H => ∃ k, k < n ∧ I k m H) R) (Q m H)) : (S.whl c s).wp sp m H Q R := ⟨I, n, h, h'⟩
end
theorem sp_go {tab : List Fa} {n g : Nat} {f : Fa} {vs : List V} {H : AH} {Q : V → AH → Prop} (hf : tab[g]? = some f) (hl : vs.length = f.np) (h : f.code.wp (spN tab n) (vs ++ List.replicate (f.ns - f.np) .un) H (fun _ H => Q .none H) Q) : spN tab (n + 1) g vs H Q := by
  unfold spN
  rw [hf]
  exact ⟨hl, h⟩
end Mine
end
section
open PySem PySem.W
set_option tactic.hygienic false
namespace Mine
theorem pvb {α β : Type} {o : Option α} {f : α → Option β} {x : α} {z : β} (h : o = some x) (h' : f x = some z) : o.bind f = some z := by rw [h]; exact h'
theorem pcm {o : Option Bool} {b : Bool} (h : o = some b) : o.map V.bool = some (.bool b) := by rw [h]; rfl
section
variable {H : AH} {a : Addr} {l : List V} {es : List (Int × V)}
theorem dg {d : V} {k : Int} (h : H a = some (.dct es)) : dgetV H d (.ref a) (.int k) = some ((get es k).getD d) := by show (H.see a).bind _ = _; rw [see_dct h]; rfl
theorem ln_l (h : H a = some (.lst l)) : lenV H (.ref a) = some (.int l.length) := by show (H.see a).bind _ = _; rw [see_lst h]; rfl
theorem ln_t (h : H a = some (.tup l)) : lenV H (.ref a) = some (.int l.length) := by show (H.see a).bind _ = _; rw [see_tup h]; rfl
theorem sb_l {n : Int} {v : V} (h : H a = some (.lst l)) (e : idx l n = some v) : subV H (.ref a) (.int n) = some v := bindM (x := a) rfl (bindM (see_lst h) e)
theorem sb_t {n : Int} {v : V} (h : H a = some (.tup l)) (e : idx l n = some v) : subV H (.ref a) (.int n) = some v := bindM (x := a) rfl (bindM (see_tup h) e)
theorem sb_d {n : Int} {v : V} (h : H a = some (.dct es)) (e : get es n = some v) : subV H (.ref a) (.int n) = some v := bindM (x := a) rfl (bindM (see_dct h) e)
theorem idx_nat {n : Nat} {v : V} (e : l[n]? = some v) : idx l (n : Int) = some v := by
  unfold idx; rw [if_pos (Int.natCast_nonneg n), Int.toNat_natCast]; exact e
theorem zs_get {l : List Int} {n : Nat} {x : Int} (e : l[n]? = some x) : (zs l)[n]? = some (.int x) := by unfold zs; rw [List.getElem?_map, e]; rfl
theorem nz_get {l : List Nat} {n x : Nat} (e : l[n]? = some x) : (nz l)[n]? = some (.int x) := by unfold nz; rw [List.getElem?_map, e]; rfl
theorem zs_len {l : List Int} : (zs l).length = l.length := List.length_map ..
theorem nz_len {l : List Nat} : (nz l).length = l.length := List.length_map ..
theorem refs_len {n : Nat} {f : Nat → Addr} : (refs n f).length = n := by unfold refs; simp
theorem refs_get {n i : Nat} {f : Nat → Addr} (h : i < n) : (refs n f)[i]? = some (.ref (f i)) := by unfold refs; simp [h]
theorem ln_zs {l : List Int} (h : H a = some (.lst (zs l))) : lenV H (.ref a) = some (.int l.length) := by rw [ln_l h, zs_len]
theorem ln_nz {l : List Nat} (h : H a = some (.lst (nz l))) : lenV H (.ref a) = some (.int l.length) := by rw [ln_l h, nz_len]
theorem ln_rf {n : Nat} {f : Nat → Addr} (h : H a = some (.lst (refs n f))) : lenV H (.ref a) = some (.int n) := by rw [ln_l h, refs_len]
end
section
variable {sp : Sp} {H : AH} {lay : Ro → Addr} {s : St} {a : Addr} {Q : AH → Prop}
theorem setI_d {o : Addr} {es : List (Int × V)} {k : Int} {v : V} (h : H o = some (.dct es)) (hl : es.length < sz) (q : Q (H.set o (.dct (put es k v)))) : setIW H (.ref o) (.int k) v Q := by
  show ifS (H o) _
  exact ifS_mk h ⟨hl, q⟩
theorem setI_l {o : Addr} {l : List V} {k : Nat} {v : V} (h : H o = some (.lst l)) (hl : k < l.length) (q : Q (H.set o (.lst (l.set k v)))) : setIW H (.ref o) (.int k) v Q := by
  show ifS (H o) _
  refine ifS_mk h ?_
  show ifS (idxN l (k : Int)) _
  refine ifS_mk (x := k) ?_ q
  exact gdP_mk ⟨Int.natCast_nonneg k, Int.ofNat_lt.mpr hl⟩
theorem app_ok {o : Addr} {l : List V} {v : V} {P : V → AH → Prop} (h : H o = some (.lst l)) (hl : l.length < sz) (q : P .none (H.set o (.lst (l ++ [v])))) : biW .append [.ref o, v] H P := by
  show ifS (H o) _
  exact ifL_mk h ⟨hl, q⟩
theorem att_set (S : Sol H lay s) (ha : lay .ins = a) {P : AH → Prop} {k : Nat} {v : V} (q : P (H.set (lay .att) (.att (put (attL lay s) k v)))) : ifS (insV H (.ref a)) fun p => p.2.length < 900 ∧ P (H.set p.1 (.att (put p.2 k v))) :=
  ifS_mk (insV_mk (ha ▸ S.at_ .ins trivial) (S.at_ .att trivial)) ⟨show 16 < 900 by decide, q⟩
theorem bm_l {m : List V} {f : B} {o : X} {xs : List X} {b : Addr} {l : List V} {P : V → AH → Prop} (ho : o.pv m H = some (.ref b)) (h : H b = some (.lst l)) (hf : f.onList = true) (q : X.evs sp xs m H fun vs H => biW f (.ref b :: vs) H P) : (X.bm f o xs).ev sp m H P := by
  exact pv_ok o _ _ ho (ifS_mk (x := b) rfl (ifS_mk (see_lst h) ⟨hf, q⟩))
theorem bm_d {m : List V} {f : B} {o : X} {xs : List X} {b : Addr} {l : List (Int × V)} {P : V → AH → Prop} (ho : o.pv m H = some (.ref b)) (h : H b = some (.dct l)) (hf : f.onDict = true) (q : X.evs sp xs m H fun vs H => biW f (.ref b :: vs) H P) : (X.bm f o xs).ev sp m H P := by
  exact pv_ok o _ _ ho (ifS_mk (x := b) rfl (ifS_mk (see_dct h) ⟨hf, q⟩))
theorem cm_ok (S : Sol H lay s) (ha : lay .ins = a) {m r : List V} {f : Nat} {xs : List X} {P : V → AH → Prop} (hm : m = .ref a :: r) (q : X.evs sp xs m H fun vs H => sp f (.ref a :: vs) H P) : (X.callM f (.loc 0) xs).ev sp m H P := by
  subst hm
  show ifS (insV H (.ref a)) _
  exact ifS_mk (insV_mk (ha ▸ S.at_ .ins trivial) (S.at_ .att trivial)) q
end
section
variable {n : Nat} {H : AH} {lay : Ro → Addr} {s : St} {a : Addr} {Q : V → AH → Prop}
noncomputable def KnOK (s : St) : Prop := ∀ k v, get s.kn k = some v → ∃ b, v = .bool b
noncomputable def sayV (s : St) (l : Int) : V := match get s.kn l.natAbs with
  | some (.bool b) => .bool (b == decide (0 < l))
  | _ => .none
theorem c_says (S : Sol H lay s) (ha : lay .ins = a) (K : KnOK s) {l : Int} (q : Q (sayV s l) H) : spN tab02 (n + 1) 2 [.ref a, .int l] H Q := by
  refine sp_go rfl rfl (s_seq (s_asg (pv_ok _ _ _ (pvb (S.a_ ha rfl rfl) (pvb rfl (dg (S.at_ .kn trivial)))) (s_seq (s_ret ?_)))))
  unfold sayV at q
  cases h : get s.kn l.natAbs with
  | none => rw [h] at q; exact pv_ok _ .none _ rfl q
  | some v =>
    rw [h] at q
    obtain ⟨b, rfl⟩ := K _ _ h
    exact pv_ok _ (.bool (b == decide (0 < l))) _ rfl q
theorem c_height (S : Sol H lay s) (ha : lay .ins = a) {l : Int} {v : V} (h : get s.he l.natAbs = some v) (q : Q v H) : spN tab02 (n + 1) 13 [.ref a, .int l] H Q :=
  sp_go rfl rfl (s_seq (s_ret (pv_ok _ _ _ (pvb (S.a_ ha rfl rfl) (pvb rfl (sb_d (S.at_ .he trivial) h))) q)))
theorem c_value (S : Sol H lay s) (ha : lay .ins = a) {v : Int} (q : Q ((get s.kn v).getD (.bool false)) H) : spN tab02 (n + 1) 19 [.ref a, .int v] H Q :=
  sp_go rfl rfl (s_seq (s_ret (pv_ok _ _ _ (pvb (S.a_ ha rfl rfl) (pvb rfl (dg (S.at_ .kn trivial)))) q)))
theorem c_failed (S : Sol H lay s) (ha : lay .ins = a) (q : Q (.ref (lay .bl)) H) : spN tab02 (n + 1) 20 [.ref a] H Q :=
  sp_go rfl rfl (s_seq (s_ret (pv_ok _ _ _ (S.a_ ha rfl rfl) q)))
end
end Mine
end
section
open PySem PySem.W
set_option tactic.hygienic false
namespace Mine
section
variable {sp : Sp} {m : List V} {H : AH} {Q : List V → AH → Prop} {R : V → AH → Prop}
theorem s_setI {o i x : X} {w v k : V} (hx : x.pv m H = some w) (ho : o.pv m H = some v) (hi : i.pv m H = some k) (q : setIW H v k w fun H => Q m H) : (S.setI o i x).wp sp m H Q R :=
  pv_ok x _ _ hx (pv_ok o _ _ ho (pv_ok i _ _ hi q))
theorem s_setA {lay : Ro → Addr} {s : St} {a : Addr} {r : List V} {k : Nat} {x : X} {v : V} (So : Sol H lay s) (ha : lay .ins = a) (hm : m = .ref a :: r) (hx : x.pv m H = some v) (q : Q m (H.set (lay .att) (.att (put (attL lay s) k v)))) : (S.setA (.loc 0) k x).wp sp m H Q R := by
  subst hm
  exact pv_ok x _ _ hx (att_set (P := Q (.ref a :: r)) So ha q)
end
noncomputable abbrev SF (H : AH) (lay : Ro → Addr) (s : St) (H' : AH) (lay' : Ro → Addr) (s' : St) : Prop := Sol H' lay' s' ∧ Fr H lay s H' lay' s'
section
variable {H : AH} {lay : Ro → Addr} {s : St}
noncomputable def St.wKn (s : St) (es : List (Int × V)) : St := { s with kn := es }
theorem u_kn (So : Sol H lay s) (es : List (Int × V)) : SF H lay s (H.set (lay .kn) (.dct es)) lay (s.wKn es) :=
  ⟨So.upd .kn (s.wKn es) trivial (fun _ h => h) (fun q h => by cases q <;> first | rfl | exact absurd rfl h), .upd .kn _ trivial (fun _ h => h) fun _ _ h => h⟩
noncomputable def St.wHe (s : St) (es : List (Int × V)) : St := { s with he := es }
theorem u_he (So : Sol H lay s) (es : List (Int × V)) : SF H lay s (H.set (lay .he) (.dct es)) lay (s.wHe es) :=
  ⟨So.upd .he (s.wHe es) trivial (fun _ h => h) (fun q h => by cases q <;> first | rfl | exact absurd rfl h), .upd .he _ trivial (fun _ h => h) fun _ _ h => h⟩
noncomputable def St.wCa (s : St) (es : List (Int × V)) : St := { s with ca := es }
theorem u_ca (So : Sol H lay s) (es : List (Int × V)) : SF H lay s (H.set (lay .ca) (.dct es)) lay (s.wCa es) :=
  ⟨So.upd .ca (s.wCa es) trivial (fun _ h => h) (fun q h => by cases q <;> first | rfl | exact absurd rfl h), .upd .ca _ trivial (fun _ h => h) fun _ _ h => h⟩
noncomputable def St.wLi (s : St) (es : List (Int × V)) : St := { s with li := es }
theorem u_li (So : Sol H lay s) (es : List (Int × V)) : SF H lay s (H.set (lay .li) (.dct es)) lay (s.wLi es) :=
  ⟨So.upd .li (s.wLi es) trivial (fun _ h => h) (fun q h => by cases q <;> first | rfl | exact absurd rfl h), .upd .li _ trivial (fun _ h => h) fun _ _ h => h⟩
noncomputable def St.wHt (s : St) (es : List (Int × V)) : St := { s with ht := es }
theorem u_ht (So : Sol H lay s) (es : List (Int × V)) : SF H lay s (H.set (lay .ht) (.dct es)) lay (s.wHt es) :=
  ⟨So.upd .ht (s.wHt es) trivial (fun _ h => h) (fun q h => by cases q <;> first | rfl | exact absurd rfl h), .upd .ht _ trivial (fun _ h => h) fun _ _ h => h⟩
noncomputable def St.wRo (s : St) (es : List Int) : St := { s with ro := es }
theorem u_ro (So : Sol H lay s) (es : List Int) : SF H lay s (H.set (lay .ro) (.lst (zs es))) lay (s.wRo es) :=
  ⟨So.upd .ro (s.wRo es) trivial (fun _ h => h) (fun q h => by cases q <;> first | rfl | exact absurd rfl h), .upd .ro _ trivial (fun _ h => h) fun _ _ h => h⟩
noncomputable def St.wBe (s : St) (es : List Nat) : St := { s with be := es }
theorem u_be (So : Sol H lay s) (es : List Nat) : SF H lay s (H.set (lay .be) (.lst (nz es))) lay (s.wBe es) :=
  ⟨So.upd .be (s.wBe es) trivial (fun _ h => h) (fun q h => by cases q <;> first | rfl | exact absurd rfl h), .upd .be _ trivial (fun _ h => h) fun _ _ h => h⟩
noncomputable def St.wSeen (s : St) (n : Nat) : St := { s with seen := n }
theorem u_seen (So : Sol H lay s) (n : Nat) : SF H lay s (H.set (lay .att) (.att (put (attL lay s) 5 (.int n)))) lay (s.wSeen n) :=
  ⟨So.upd .att (s.wSeen n) trivial (fun _ h => h) (fun q h => by cases q <;> first | rfl | exact absurd rfl h), .upd .att _ trivial (fun _ h => h) fun _ _ h => h⟩
noncomputable def St.wGain (s : St) (n : Int) : St := { s with gain := n }
theorem u_gain (So : Sol H lay s) (n : Int) : SF H lay s (H.set (lay .att) (.att (put (attL lay s) 10 (.int n)))) lay (s.wGain n) :=
  ⟨So.upd .att (s.wGain n) trivial (fun _ h => h) (fun q h => by cases q <;> first | rfl | exact absurd rfl h), .upd .att _ trivial (fun _ h => h) fun _ _ h => h⟩
noncomputable def St.wRef (s : St) (n : Bool) : St := { s with ref := n }
theorem u_ref (So : Sol H lay s) (n : Bool) : SF H lay s (H.set (lay .att) (.att (put (attL lay s) 12 (.bool n)))) lay (s.wRef n) :=
  ⟨So.upd .att (s.wRef n) trivial (fun _ h => h) (fun q h => by cases q <;> first | rfl | exact absurd rfl h), .upd .att _ trivial (fun _ h => h) fun _ _ h => h⟩
noncomputable def St.wCl (s : St) (n : Nat) : St := { s with cl := n }
theorem u_cl (So : Sol H lay s) (n : Nat) : SF H lay s (H.set (lay .att) (.att (put (attL lay s) 14 (.int n)))) lay (s.wCl n) :=
  ⟨So.upd .att (s.wCl n) trivial (fun _ h => h) (fun q h => by cases q <;> first | rfl | exact absurd rfl h), .upd .att _ trivial (fun _ h => h) fun _ _ h => h⟩
noncomputable def St.wBl (s : St) (es : List Int) : St := { s with bl := es }
theorem n_be (So : Sol H lay s) (x : Addr) (hx : H x = none) (es : List Nat) : SF H lay s ((H.set x (.lst (nz es))).set (lay .att) (.att (put (attL lay s) 4 (.ref x)))) (up lay .be x) (s.wBe es) :=
  ⟨So.reb x .be .att (s.wBe es) hx trivial (by simp) (by simp) (fun _ _ h => h) (fun q h h' => by cases q <;> first | rfl | exact absurd rfl h | exact absurd rfl h'), .reb So x .be .att _ hx trivial (fun h => by cases h) (fun _ _ h => h) fun _ _ h => h⟩
theorem n_bl (So : Sol H lay s) (x : Addr) (hx : H x = none) (es : List Int) : SF H lay s ((H.set x (.tup (zs es))).set (lay .att) (.att (put (attL lay s) 13 (.ref x)))) (up lay .bl x) (s.wBl es) :=
  ⟨So.reb x .bl .att (s.wBl es) hx trivial (by simp) (by simp) (fun _ _ h => h) (fun q h h' => by cases q <;> first | rfl | exact absurd rfl h | exact absurd rfl h'), .reb So x .bl .att _ hx trivial (fun h => by cases h) (fun _ _ h => h) fun _ _ h => h⟩
theorem n_ht (So : Sol H lay s) (x : Addr) (hx : H x = none) (es : List (Int × V)) : SF H lay s ((H.set x (.dct es)).set (lay .att) (.att (put (attL lay s) 9 (.ref x)))) (up lay .ht x) (s.wHt es) :=
  ⟨So.reb x .ht .att (s.wHt es) hx trivial (by simp) (by simp) (fun _ _ h => h) (fun q h h' => by cases q <;> first | rfl | exact absurd rfl h | exact absurd rfl h'), .reb So x .ht .att _ hx trivial (fun h => by cases h) (fun _ _ h => h) fun _ _ h => h⟩
end
section
variable {n : Nat} {H : AH} {lay : Ro → Addr} {s : St} {a : Addr} {Q : V → AH → Prop}
noncomputable def letS (s : St) (l : Int) (c : V) : St := (((s.wKn (put s.kn l.natAbs (.bool (decide (0 < l))))).wHe (put s.he l.natAbs (.int s.be.length))).wCa (put s.ca l.natAbs c)).wRo (s.ro ++ [l])
structure Sz (s : St) : Prop where
  kn : s.kn.length < sz
  he : s.he.length < sz
  ca : s.ca.length < sz
  ro : s.ro.length < sz
theorem zs_app {l r : List Int} : zs (l ++ r) = zs l ++ zs r := List.map_append
theorem c_let (So : Sol H lay s) (ha : lay .ins = a) (Z : Sz s) {l : Int} {c : V} (hc : nun c = some c) (q : ∀ H', SF H lay s H' lay (letS s l c) → Q .none H') : spN tab02 (n + 1) 3 [.ref a, .int l, c] H Q := by
  have h1 := u_kn So (put s.kn l.natAbs (.bool (decide (0 < l))))
  have h2 := u_he h1.1 (put s.he l.natAbs (.int s.be.length))
  have h3 := u_ca h2.1 (put s.ca l.natAbs c)
  have h4 := u_ro h3.1 (s.ro ++ [l])
  refine sp_go rfl rfl (s_seq (s_asg (pv_ok _ _ _ rfl (s_seq (s_setI rfl (So.a_ ha rfl rfl) rfl (setI_d (So.at_ .kn trivial) Z.kn (s_seq (s_setI (pvb (pvb (h1.1.a_ ha rfl rfl) rfl) (ln_nz (h1.1.at_ .be trivial))) (h1.1.a_ ha rfl rfl) rfl (setI_d (h1.1.at_ .he trivial) Z.he
    (s_seq (s_setI (v := .ref (lay .ca)) (pvb rfl hc) (h2.1.a_ ha rfl rfl) rfl (setI_d (h2.1.at_ .ca trivial) Z.ca (s_seq (s_ex (bm_l (h3.1.a_ ha rfl rfl) (h3.1.at_ .ro trivial) rfl (pvs_ok _ _ _ rfl (app_ok (h3.1.at_ .ro trivial) (by rw [zs_len]; exact Z.ro) (s_skip ?_))))))))))))))))))
  have := q _ ⟨h4.1, h1.2.trans (h2.2.trans (h3.2.trans h4.2))⟩
  rw [zs_app] at this
  exact this
end
end Mine
end
section
open PySem PySem.W
namespace Mine
theorem getD_app_ne {α : Type} {l : List α} {c d : α} {i : Nat} (h : i ≠ l.length) : (l ++ [c]).getD i d = l.getD i d := by
  rw [List.getD_eq_getElem?_getD, List.getD_eq_getElem?_getD]
  rcases Nat.lt_or_ge i l.length with h' | h'
  · rw [List.getElem?_append_left h']
  · rw [List.getElem?_eq_none h', List.getElem?_eq_none]
    rw [List.length_append, List.length_singleton]; lia
theorem getD_app_eq {α : Type} {l : List α} {c d : α} : (l ++ [c]).getD l.length d = c := by
  rw [List.getD_eq_getElem?_getD, List.getElem?_append_right (Nat.le_refl _), Nat.sub_self]; rfl
theorem refs_snoc {n : Nat} {f g : Nat → Addr} {x : Addr} (h : ∀ i, i ≠ n → g i = f i) (hx : g n = x) : refs (n + 1) g = refs n f ++ [.ref x] := by
  unfold refs
  rw [List.range_succ, List.map_append, List.map_singleton, hx]
  congr 1
  apply List.map_congr_left
  intro i hi
  rw [h i (Nat.ne_of_lt (List.mem_range.mp hi))]
section
variable {H : AH} {lay : Ro → Addr} {s : St}
noncomputable def St.addLog (s : St) (c : List Int) : St := { s with lg := s.lg ++ [c] }
theorem n_lg (So : Sol H lay s) (x : Addr) (hx : H x = none) (c : List Int) : SF H lay s ((H.set x (.tup (zs c))).set (lay .lg) (.lst ((refs s.lg.length fun i => lay (.le i)) ++ [.ref x]))) (up lay (.le s.lg.length) x) (s.addLog c) := by
  have hu : ∀ q, q ≠ .le s.lg.length → use (s.addLog c) q → use s q := fun q h u => by
    cases q <;> first | exact u | skip
    rename_i i
    have h1 : i < (s.lg ++ [c]).length := u
    rw [List.length_append, List.length_singleton] at h1
    have h2 : i ≠ s.lg.length := fun e => h (by rw [e])
    show i < s.lg.length
    lia
  have hc : ∀ q, q ≠ .le s.lg.length → q ≠ .lg → cont (up lay (.le s.lg.length) x) (s.addLog c) q = cont lay s q := fun q h h' => by
    cases q <;> first | rfl | exact absurd rfl h' | skip
    rename_i i
    show O.tup (zs ((s.lg ++ [c]).getD i [])) = O.tup (zs (s.lg.getD i []))
    rw [getD_app_ne fun e => h (by rw [e])]
  have e1 : cont (up lay (.le s.lg.length) x) (s.addLog c) (.le s.lg.length) = .tup (zs c) := by
    show O.tup (zs ((s.lg ++ [c]).getD _ [])) = _
    rw [getD_app_eq]
  have e2 : cont (up lay (.le s.lg.length) x) (s.addLog c) .lg = .lst ((refs s.lg.length fun i => lay (.le i)) ++ [.ref x]) := by
    show O.lst (refs (s.lg ++ [c]).length _) = _
    rw [List.length_append, List.length_singleton]
    exact congrArg O.lst (refs_snoc (fun i hi => up_ne fun e => hi (by cases e; rfl)) up_eq)
  rw [← e1, ← e2]
  exact ⟨So.reb x _ .lg (s.addLog c) hx trivial (by simp) (by simp) hu hc, .reb So x _ .lg _ hx trivial (fun _ => Nat.lt_irrefl _) hu (fun q f u => by
    cases q <;> first | exact u | skip
    rename_i i
    show i < (s.lg ++ [c]).length
    rw [List.length_append]; exact Nat.lt_add_right _ u)⟩
noncomputable def St.addRow (s : St) (c : List Int) : St := { s with rows := s.rows ++ [c] }
theorem n_row (So : Sol H lay s) (x : Addr) (hx : H x = none) (c : List Int) : SF H lay s ((H.set x (.lst (zs c))).set (lay .rs) (.lst ((refs s.rows.length fun i => lay (.cl i)) ++ [.ref x]))) (up lay (.cl s.rows.length) x) (s.addRow c) := by
  have hu : ∀ q, q ≠ .cl s.rows.length → use (s.addRow c) q → use s q := fun q h u => by
    cases q <;> first | exact u | skip
    rename_i i
    have h1 : i < (s.rows ++ [c]).length := u
    rw [List.length_append, List.length_singleton] at h1
    have h2 : i ≠ s.rows.length := fun e => h (by rw [e])
    show i < s.rows.length
    lia
  have hc : ∀ q, q ≠ .cl s.rows.length → q ≠ .rs → cont (up lay (.cl s.rows.length) x) (s.addRow c) q = cont lay s q := fun q h h' => by
    cases q <;> first | rfl | exact absurd rfl h' | skip
    rename_i i
    show O.lst (zs ((s.rows ++ [c]).getD i [])) = O.lst (zs (s.rows.getD i []))
    rw [getD_app_ne fun e => h (by rw [e])]
  have e1 : cont (up lay (.cl s.rows.length) x) (s.addRow c) (.cl s.rows.length) = .lst (zs c) := by
    show O.lst (zs ((s.rows ++ [c]).getD _ [])) = _
    rw [getD_app_eq]
  have e2 : cont (up lay (.cl s.rows.length) x) (s.addRow c) .rs = .lst ((refs s.rows.length fun i => lay (.cl i)) ++ [.ref x]) := by
    show O.lst (refs (s.rows ++ [c]).length _) = _
    rw [List.length_append, List.length_singleton]
    exact congrArg O.lst (refs_snoc (fun i hi => up_ne fun e => hi (by cases e; rfl)) up_eq)
  rw [← e1, ← e2]
  exact ⟨So.reb x _ .rs (s.addRow c) hx trivial (by simp) (by simp) hu hc, .reb So x _ .rs _ hx trivial (fun _ => Nat.lt_irrefl _) hu (fun q f u => by
    cases q <;> first | exact u | skip
    rename_i i
    show i < (s.rows ++ [c]).length
    rw [List.length_append]; exact Nat.lt_add_right _ u)⟩
noncomputable def St.wW (s : St) (ks : List Int) (f : Int → List Nat) : St := { s with wks := ks, wat := f }
theorem get_wkD {ks : List Int} {l : Int} : get (wkD lay ks) l = if l ∈ ks then some (.ref (lay (.wt l))) else none := by
  unfold get wkD
  induction ks with
  | nil => rfl
  | cons k ks ih =>
    rw [List.map_cons, List.find?_cons]
    by_cases h : k = l
    · subst h; simp
    · have h' : l ≠ k := Ne.symm h
      simp only [h, decide_false]
      rw [ih]
      simp [h']
theorem any_wkD {ks : List Int} {l : Int} (h : l ∉ ks) : (wkD lay ks).any (fun e => e.1 = l) = false := by
  unfold wkD
  rw [List.any_map, List.any_eq_false]
  intro k hk
  simp only [Function.comp]
  intro e
  exact h (of_decide_eq_true e ▸ hk)
theorem put_wkD {ks : List Int} {l : Int} {x : Addr} (h : l ∉ ks) : put (wkD lay ks) l (.ref x) = wkD (up lay (.wt l) x) (ks ++ [l]) := by
  unfold put
  rw [any_wkD h]
  unfold wkD
  rw [List.map_append, List.map_singleton, up_eq]
  simp only [Bool.false_eq_true, if_false]
  congr 1
  apply List.map_congr_left
  intro k hk
  rw [up_ne fun e => h (by cases e; exact hk)]
theorem u_wt (So : Sol H lay s) {l : Int} (hl : l ∈ s.wks) (ns : List Nat) : SF H lay s (H.set (lay (.wt l)) (.lst (nz ns))) lay (s.wW s.wks fun k => if k = l then ns else s.wat k) := by
  have hc : ∀ q, q ≠ .wt l → cont lay (s.wW s.wks fun k => if k = l then ns else s.wat k) q = cont lay s q := fun q h => by
    cases q <;> first | rfl | skip
    rename_i k
    show O.lst (nz (if k = l then ns else s.wat k)) = _
    rw [if_neg fun e => h (by rw [e])]; rfl
  have e1 : cont lay (s.wW s.wks fun k => if k = l then ns else s.wat k) (.wt l) = .lst (nz ns) := by
    show O.lst (nz (if l = l then ns else s.wat l)) = _
    rw [if_pos rfl]
  have h1 := So.upd (.wt l) (s.wW s.wks fun k => if k = l then ns else s.wat k) hl (fun _ h => h) hc
  rw [e1] at h1
  exact ⟨h1, .upd (.wt l) _ hl (fun _ h => h) fun _ _ h => h⟩
theorem n_wt (So : Sol H lay s) {l : Int} (hl : l ∉ s.wks) (x : Addr) (hx : H x = none) (ns : List Nat) : SF H lay s ((H.set x (.lst (nz ns))).set (lay .wa) (.dct (put (wkD lay s.wks) l (.ref x)))) (up lay (.wt l) x) (s.wW (s.wks ++ [l]) fun k => if k = l then ns else s.wat k) := by
  have hu : ∀ q, q ≠ .wt l → use (s.wW (s.wks ++ [l]) fun k => if k = l then ns else s.wat k) q → use s q := fun q h u => by
    cases q <;> first | exact u | skip
    rename_i k
    have h1 : k ∈ s.wks ++ [l] := u
    rcases List.mem_append.mp h1 with h1 | h1
    · exact h1
    · exact absurd (by rw [List.mem_singleton.mp h1]) h
  have hc : ∀ q, q ≠ .wt l → q ≠ .wa → cont (up lay (.wt l) x) (s.wW (s.wks ++ [l]) fun k => if k = l then ns else s.wat k) q = cont lay s q := fun q h h' => by
    cases q <;> first | rfl | exact absurd rfl h' | skip
    rename_i k
    show O.lst (nz (if k = l then ns else s.wat k)) = _
    rw [if_neg fun e => h (by rw [e])]; rfl
  have e1 : cont (up lay (.wt l) x) (s.wW (s.wks ++ [l]) fun k => if k = l then ns else s.wat k) (.wt l) = .lst (nz ns) := by
    show O.lst (nz (if l = l then ns else s.wat l)) = _
    rw [if_pos rfl]
  have e2 : cont (up lay (.wt l) x) (s.wW (s.wks ++ [l]) fun k => if k = l then ns else s.wat k) .wa = .dct (put (wkD lay s.wks) l (.ref x)) := by
    rw [put_wkD hl]; rfl
  rw [← e1, ← e2]
  exact ⟨So.reb x _ .wa _ hx trivial (by simp) (by simp) hu hc, .reb So x _ .wa _ hx trivial (fun h => by cases h) hu (fun q f u => by cases q <;> first | exact u | cases f)⟩
theorem rem_wkD {ks : List Int} {l : Int} : rem (wkD lay ks) l = wkD lay (ks.filter fun k => decide (k ≠ l)) := by
  unfold rem wkD
  rw [List.filter_map]; rfl
theorem d_wt (So : Sol H lay s) (l : Int) : SF H lay s (H.set (lay .wa) (.dct (rem (wkD lay s.wks) l))) lay (s.wW (s.wks.filter fun k => decide (k ≠ l)) s.wat) := by
  have hu : ∀ q, use (s.wW (s.wks.filter fun k => decide (k ≠ l)) s.wat) q → use s q := fun q u => by
    cases q <;> first | exact u | exact (List.mem_filter.mp u).1
  have h1 := So.upd .wa (s.wW (s.wks.filter fun k => decide (k ≠ l)) s.wat) trivial hu fun q h => by cases q <;> first | rfl | exact absurd rfl h
  have e1 : cont lay (s.wW (s.wks.filter fun k => decide (k ≠ l)) s.wat) .wa = .dct (rem (wkD lay s.wks) l) := by rw [rem_wkD]; rfl
  rw [e1] at h1
  exact ⟨h1, .upd .wa _ trivial hu (fun q f u => by cases q <;> first | exact u | cases f)⟩
noncomputable def St.setRow (s : St) (i : Nat) (c : List Int) : St := { s with rows := s.rows.set i c }
theorem u_row (So : Sol H lay s) {i : Nat} (hi : i < s.rows.length) (c : List Int) : SF H lay s (H.set (lay (.cl i)) (.lst (zs c))) lay (s.setRow i c) := by
  have hu : ∀ q, use (s.setRow i c) q → use s q := fun q u => by
    cases q <;> first | exact u | skip
    rename_i k
    have h1 : k < (s.rows.set i c).length := u
    rw [List.length_set] at h1; exact h1
  have hc : ∀ q, q ≠ .cl i → cont lay (s.setRow i c) q = cont lay s q := fun q h => by
    cases q <;> first | rfl | skip
    · show O.lst (refs (s.rows.set i c).length _) = _
      rw [List.length_set]; rfl
    · rename_i k
      show O.lst (zs ((s.rows.set i c).getD k [])) = O.lst (zs (s.rows.getD k []))
      rw [List.getD_eq_getElem?_getD, List.getD_eq_getElem?_getD, List.getElem?_set_ne fun e => h (by rw [e])]
  have h1 := So.upd (.cl i) (s.setRow i c) hi hu hc
  have e1 : cont lay (s.setRow i c) (.cl i) = .lst (zs c) := by
    show O.lst (zs ((s.rows.set i c).getD i [])) = _
    rw [List.getD_eq_getElem?_getD, List.getElem?_set_self hi]; rfl
  rw [e1] at h1
  exact ⟨h1, .upd (.cl i) _ hi hu (fun q f u => by
    cases q <;> first | exact u | skip
    rename_i k
    show k < (s.rows.set i c).length
    rw [List.length_set]; exact u)⟩
end
end Mine
end
section
open PySem PySem.W
set_option tactic.hygienic false
namespace Mine
section
variable {sp : Sp} {n : Nat} {H : AH} {lay : Ro → Addr} {s : St} {a : Addr} {Q : V → AH → Prop}
theorem e_bi {m : List V} {f : B} {xs : List X} {P : V → AH → Prop} (h : X.evs sp xs m H fun vs H => biW f vs H P) : (X.bi f xs).ev sp m H P := h
theorem e_bm {m : List V} {f : B} {o : X} {xs : List X} {P : V → AH → Prop} (h : o.ev sp m H fun ov H => ifS ov.r? fun a => ifS (H.see a) fun o => onO f o ∧ X.evs sp xs m H fun vs H => biW f (ov :: vs) H P) : (X.bm f o xs).ev sp m H P := h
theorem e_cons {m : List V} {x : X} {xs : List X} {P : List V → AH → Prop} (h : x.ev sp m H fun v H => X.evs sp xs m H fun vs H => P (v :: vs) H) : X.evs sp (x :: xs) m H P := h
theorem e_nil {m : List V} {P : List V → AH → Prop} (h : P [] H) : X.evs sp [] m H P := h
theorem b_list {v : V} {l : List V} {P : V → AH → Prop} (h : seqOf H v = some l) (q : ∀ x, H x = none → P (.ref x) (H.set x (.lst l))) : biW .toList [v] H P := by
  exact ifS_mk h q
theorem seq_l {a : Addr} {l : List V} (h : H a = some (.lst l)) : seqOf H (.ref a) = some l := bindM (x := a) rfl (bindM (see_lst h) rfl)
theorem seq_t {a : Addr} {l : List V} (h : H a = some (.tup l)) : seqOf H (.ref a) = some l := bindM (x := a) rfl (bindM (see_tup h) rfl)
theorem s_for {m : List V} {i : Nat} {x : X} {b : S} {P : List V → AH → Prop} {R : V → AH → Prop} (h : x.ev sp m H fun v H => itW H v fun items chk thaw H => floop chk (fun v m H Q R => b.wp sp (m.set i v) H Q R) items m H (fun m H => P m (thaw H)) (fun v H => chk H ∧ R v (thaw H))) : (S.for_ i (.src x) b).wp sp m H P R := h
theorem it_l {a : Addr} {l : List V} {K : List V → (AH → Prop) → (AH → AH) → AH → Prop} (h : H a = some (.lst l)) (q : K l (fun H => H.see a = some (.lst l)) (fun H => H) H) : itW H (.ref a) K := ifS_mk (x := a) rfl (ifS_mk h q)
theorem slO_l {l h : V} {xs : List V} {i j : Nat} {P : V → AH → Prop} (h1 : clampLo xs.length l = some i) (h2 : clampHi xs.length h = some j) (q : ∀ x, H x = none → P (.ref x) (H.set x (.lst ((xs.take j).drop i)))) : slO H l h P (.lst xs) := by
  show ifS (clampLo xs.length l) _
  exact ifS_mk h1 (ifS_mk h2 q)
theorem sl_hi {m : List V} {x : X} {a : Addr} {l : List V} {j : X} {k : Nat} {P : V → AH → Prop} (hx : x.pv m H = some (.ref a)) (h : H a = some (.lst l)) (hj : j.pv m H = some (.int k)) (q : ∀ y, H y = none → P (.ref y) (H.set y (.lst (l.take k)))) : (X.slice x (.c .none) j).ev sp m H P := by
  refine pv_ok x _ _ hx (pv_ok (.c .none) .none _ rfl (pv_ok j _ _ hj (ifS_mk (x := a) rfl (ifS_mk (see_lst h) (slO_l rfl clip_nat fun y hy => ?_)))))
  have := q y hy
  rw [List.drop_zero]
  have e : l.take (min k l.length) = l.take k := by
    rcases Nat.le_total k l.length with h | h
    · rw [Nat.min_eq_left h]
    · rw [Nat.min_eq_right h, List.take_length, List.take_of_length_le h]
  rw [e]; exact this
theorem sl_lo {m : List V} {x : X} {a : Addr} {l : List V} {j : X} {k : Nat} {P : V → AH → Prop} (hx : x.pv m H = some (.ref a)) (h : H a = some (.lst l)) (hj : j.pv m H = some (.int k)) (q : ∀ y, H y = none → P (.ref y) (H.set y (.lst (l.drop k)))) : (X.slice x j (.c .none)).ev sp m H P := by
  refine pv_ok x _ _ hx (pv_ok j _ _ hj (pv_ok (.c .none) .none _ rfl (ifS_mk (x := a) rfl (ifS_mk (see_lst h) (slO_l clip_nat rfl fun y hy => ?_)))))
  have := q y hy
  rw [List.take_length]
  have e : l.drop (min k l.length) = l.drop k := by
    rcases Nat.le_total k l.length with h | h
    · rw [Nat.min_eq_left h]
    · rw [Nat.min_eq_right h, List.drop_length, List.drop_of_length_le h]
  rw [e]; exact this
theorem floop_ind {chk : AH → Prop} {body : V → List V → AH → (List V → AH → Prop) → (V → AH → Prop) → Prop} {Q : List V → AH → Prop} {R : V → AH → Prop} (I : Nat → List V → AH → Prop) (items : List V)
    (hs : ∀ i v m H K, items[i]? = some v → I i m H → (∀ m H, I (i + 1) m H → K m H) → chk H ∧ body v m H K R) (he : ∀ m H, I items.length m H → chk H ∧ Q m H) {m : List V} {H : AH} (h0 : I 0 m H) : floop chk body items m H Q R := by
  suffices h : ∀ (vs : List V) (i : Nat), i ≤ items.length → items.drop i = vs → ∀ m H, I i m H → floop chk body vs m H Q R from h items 0 (Nat.zero_le _) rfl m H h0
  intro vs
  induction vs with
  | nil =>
    intro i hl hi m H h
    have h1 : i = items.length := by
      have := congrArg List.length hi
      rw [List.length_drop] at this
      simp only [List.length_nil] at this; lia
    exact he m H (h1 ▸ h)
  | cons v vs ih =>
    intro i hl hi m H h
    have h1 : items[i]? = some v := by rw [← List.head?_drop, hi]; rfl
    have h2 : i < items.length := by
      have := congrArg List.length hi
      rw [List.length_drop] at this
      simp only [List.length_cons] at this; lia
    refine hs i v m H _ h1 h fun m H h' => ih (i + 1) h2 ?_ m H h'
    rw [← List.tail_drop, hi]; rfl
theorem SF.trans {H' H'' : AH} {lay' lay'' : Ro → Addr} {s' s'' : St} (h : SF H lay s H' lay' s') (h' : SF H' lay' s' H'' lay'' s'') : SF H lay s H'' lay'' s'' := ⟨h'.1, h.2.trans h'.2⟩
theorem SF.junk (So : Sol H lay s) {x : Addr} {o : O} (hx : H x = none) : SF H lay s (H.set x o) lay s := ⟨So.junk hx, .junk hx⟩
theorem SF.ins {H' : AH} {lay' : Ro → Addr} {s' : St} (h : SF H lay s H' lay' s') (ha : lay .ins = a) : lay' .ins = a := h.2.ins.trans ha
noncomputable def wg (s : St) (l : Int) : List Nat := if l ∈ s.wks then s.wat l else []
noncomputable def addW (s : St) (w : Int) (k : Nat) : St := s.wW (if w ∈ s.wks then s.wks else s.wks ++ [w]) fun l => if l = w then wg s w ++ [k] else s.wat l
theorem nz_app {l r : List Nat} : nz (l ++ r) = nz l ++ nz r := List.map_append
theorem w_add (So : Sol H lay s) (ha : lay .ins = a) {m r : List V} (hm : m = .ref a :: r) {key num : X} {w : Int} {k : Nat} {P : V → AH → Prop} (hk : key.pv m H = some (.int w)) (hnum : ∀ H' lay' s', SF H lay s H' lay' s' → s'.rows = s.rows → num.pv m H' = some (.int k))
    (hz : s.wks.length < sz) (hz2 : (wg s w).length < sz) (q : ∀ H' lay', (∀ r, use s r → lay' r = lay r) → SF H lay s H' lay' (addW s w k) → P .none H') : (X.bm .append (X.bm .setdef (X.attr (.loc 0) 8) [key, .list []]) [num]).ev sp m H P := by
  subst hm
  have hk' : X.pvs (.ref a :: r) H [key] = some [.int w] := pvb hk rfl
  refine e_bm (bm_d (So.a_ ha rfl rfl) (So.at_ .wa trivial) rfl (pv_ok key _ _ hk ?_))
  intro x hx
  have h1 := SF.junk So (o := .lst []) hx
  have hwa := h1.1.at_ .wa trivial
  show ifS ((H.set x (.lst [])) (lay .wa)) _
  refine ifD_mk hwa ?_
  dsimp only
  by_cases hw : w ∈ s.wks
  · rw [get_wkD, if_pos hw]
    have h2 := u_wt h1.1 hw (wg s w ++ [k])
    have h3 := h1.1.at_ (.wt w) hw
    have e : addW s w k = s.wW s.wks fun l => if l = w then wg s w ++ [k] else s.wat l := by unfold addW; rw [if_pos hw]
    have ew : wg s w = s.wat w := if_pos hw
    refine ifS_mk (x := lay (.wt w)) rfl (ifS_mk (see_lst h3) ⟨rfl, pv_ok num _ _ (hnum _ _ _ h1 rfl) (app_ok h3 (by rw [nz_len, ← ew]; exact hz2) ?_)⟩)
    have := q _ _ (fun _ _ => rfl) (by rw [e]; exact h1.trans h2)
    rw [nz_app, ew] at this
    exact this
  · rw [get_wkD, if_neg hw]
    have h2 := n_wt So hw x hx []
    have hw' : w ∈ s.wks ++ [w] := List.mem_append_right _ (List.mem_singleton.mpr rfl)
    have h3 := h2.1.at_ (.wt w) hw'
    have h4 := u_wt h2.1 hw' [k]
    have e : addW s w k = (s.wW (s.wks ++ [w]) fun l => if l = w then [] else s.wat l).wW (s.wks ++ [w]) fun l => if l = w then [k] else (if l = w then [] else s.wat l) := by
      unfold addW
      rw [if_neg hw]
      unfold wg St.wW
      rw [if_neg hw]
      congr 1
      funext l
      by_cases hl : l = w <;> simp [hl]
    have el : up lay (.wt w) x (.wt w) = x := up_eq
    have ec : cont (up lay (.wt w) x) (s.wW (s.wks ++ [w]) fun l => if l = w then [] else s.wat l) (.wt w) = .lst (nz []) := by
      show O.lst (nz (if w = w then [] else s.wat w)) = _
      rw [if_pos rfl]
    rw [ec, el] at h3
    have h3' : ((H.set x (O.lst [])).set (lay Ro.wa) (O.dct (put (wkD lay s.wks) w (V.ref x)))) x = some (.lst []) := h3
    refine ⟨by unfold wkD; rw [List.length_map]; exact hz, ?_⟩
    refine ifS_mk (x := x) rfl (ifS_mk (see_lst h3') ⟨rfl, pv_ok num _ _ (hnum _ _ _ h2 rfl) (app_ok h3' (by show 0 < sz; decide) ?_)⟩)
    rw [el] at h4
    exact q _ _ (fun r (u : use s r) => up_ne fun e : r = Ro.wt w => hw (by rw [e] at u; exact u)) (by rw [e]; exact h2.trans h4)
theorem c_refute (So : Sol H lay s) (ha : lay .ins = a) (hz : s.lg.length < sz) (q : ∀ H' lay', SF H lay s H' lay' ((s.wRef true).addLog []) → Q .none H') : spN tab02 (n + 1) 7 [.ref a] H Q := by
  have h1 := u_ref So true
  refine sp_go rfl rfl (s_seq (s_setA So ha rfl rfl (s_seq (s_ex (bm_l (h1.1.a_ ha rfl rfl) (h1.1.at_ .lg trivial) rfl fun x hx => ?_)))))
  have h2 := n_lg h1.1 x hx []
  have h3 := (h1.1.junk (o := .tup []) hx).at_ .lg trivial
  exact app_ok h3 (by rw [refs_len]; exact hz) (q _ _ (h1.trans h2))
theorem len_pv {x : X} {m : List V} {w v : V} (h : x.pv m H = some w) (e : lenV H w = some v) : (X.bi .len [x]).pv m H = some v := pvb (pvb h rfl) e
theorem n_pv (So : Sol H lay s) (ha : lay .ins = a) {r : List V} {k : Nat} (e : s.rows.length = k + 1) : (X.bin .sub (.bi .len [.attr (.loc 0) 7]) (.c (.int 1))).pv (.ref a :: r) H = some (.int k) := by
  refine pvb (x := .int s.rows.length) (len_pv (So.a_ ha rfl rfl) (ln_rf (So.at_ .rs trivial))) ?_
  rw [e]
  show some (V.int (((k + 1 : Nat) : Int) - 1)) = some (.int k)
  rw [Int.natCast_add]
  congr 2
  lia
theorem len_rows {c : List Int} {s : St} : (s.addRow c).rows.length = s.rows.length + 1 := by
  show (s.rows ++ [c]).length = _
  rw [List.length_append]; rfl
theorem wg_add {s : St} {w l : Int} {k : Nat} : wg (addW s w k) l = if l = w then wg s w ++ [k] else wg s l := by
  by_cases hw : w ∈ s.wks
  · have e : addW s w k = s.wW s.wks fun l => if l = w then wg s w ++ [k] else s.wat l := by unfold addW; rw [if_pos hw]
    rw [e]
    by_cases hl : l = w
    · subst hl
      rw [if_pos rfl]
      show (if l ∈ s.wks then (if l = l then wg s l ++ [k] else s.wat l) else []) = _
      rw [if_pos hw, if_pos rfl]
    · rw [if_neg hl]
      show (if l ∈ s.wks then (if l = w then wg s w ++ [k] else s.wat l) else []) = if l ∈ s.wks then s.wat l else []
      rw [if_neg hl]
  · have e : addW s w k = s.wW (s.wks ++ [w]) fun l => if l = w then wg s w ++ [k] else s.wat l := by unfold addW; rw [if_neg hw]
    rw [e]
    by_cases hl : l = w
    · subst hl
      rw [if_pos rfl]
      show (if l ∈ s.wks ++ [l] then (if l = l then wg s l ++ [k] else s.wat l) else []) = _
      rw [if_pos (List.mem_append_right _ (List.mem_singleton.mpr rfl)), if_pos rfl]
    · rw [if_neg hl]
      show (if l ∈ s.wks ++ [w] then (if l = w then wg s w ++ [k] else s.wat l) else []) = if l ∈ s.wks then s.wat l else []
      rw [if_neg hl]
      simp only [List.mem_append, List.mem_singleton, hl, or_false]
theorem addW_len {s : St} {w l : Int} {k : Nat} : (wg (addW s w k) l).length ≤ (wg s l).length + 1 := by
  rw [wg_add]
  split
  · rename_i h; subst h
    rw [List.length_append]; exact Nat.le_refl _
  · exact Nat.le_succ _
noncomputable def keepS (s : St) (w0 w1 : Int) (r : List Int) : St := addW (addW (s.addRow (w0 :: w1 :: r)) w0 s.rows.length) w1 s.rows.length
theorem c_keep (So : Sol H lay s) (ha : lay .ins = a) {b : Addr} {w0 w1 : Int} {r : List Int} (hb : H b = some (.lst (zs (w0 :: w1 :: r)))) (hnb : ¬ fp lay s b) (hz : s.rows.length < sz) (hz2 : s.wks.length + 1 < sz) (hz3 : ∀ l, (wg s l).length + 1 < sz)
    (q : ∀ H' lay', SF H lay s H' lay' (keepS s w0 w1 r) → Q (.int s.rows.length) H') : spN tab02 (n + 1) 8 [.ref a, .ref b] H Q := by
  refine sp_go rfl rfl (s_seq (s_ex (bm_l (So.a_ ha rfl rfl) (So.at_ .rs trivial) rfl (e_cons (e_bi (pvs_ok [.loc 1] [.ref b] _ rfl (b_list (seq_l hb) fun x hx => e_nil ?_)))))))
  have h1 := n_row So x hx (w0 :: w1 :: r)
  have hrs := (So.junk (o := .lst (zs (w0 :: w1 :: r))) hx).at_ .rs trivial
  refine app_ok hrs (by rw [refs_len]; exact hz) ?_
  have hb1 := So.out h1.2 hb hnb
  refine s_seq (s_for (sl_hi (a := b) (k := 2) rfl hb1.1 rfl fun y hy => it_l set_eq ?_))
  have h2 := h1.trans (SF.junk h1.1 (o := .lst [.int w0, .int w1]) hy)
  have hy2 := h1.1.nfp hy
  have ek : (s.addRow (w0 :: w1 :: r)).rows.length = s.rows.length + 1 := by
    show (s.rows ++ [w0 :: w1 :: r]).length = _
    rw [List.length_append]; rfl
  have hl := @len_rows (w0 :: w1 :: r) s
  refine ⟨see_lst set_eq, s_seq (s_ex (w_add h2.1 (h2.ins ha) rfl rfl (fun H' lay' s' h e => n_pv h.1 (h.ins (h2.ins ha)) (by rw [e]; exact hl)) (Nat.lt_of_succ_lt hz2) (Nat.lt_of_succ_lt (hz3 w0)) fun H3 lay3 _ h3 => s_skip ?_))⟩
  have ho := h2.1.out h3.2 (o := .lst [.int w0, .int w1]) set_eq (by exact hy2)
  have ha3 := h3.ins (h2.ins ha)
  refine ⟨see_lst ho.1, s_seq (s_ex (w_add h3.1 ha3 rfl rfl (fun H' lay' s' h e => n_pv h.1 (h.ins ha3) (by rw [e]; exact hl)) ?_ ?_ fun H4 lay4 _ h4 => s_skip ?_))⟩
  · show (if w0 ∈ s.wks then s.wks else s.wks ++ [w0]).length < sz
    split
    · exact Nat.lt_of_succ_lt hz2
    · rw [List.length_append]; exact hz2
  · exact Nat.lt_of_le_of_lt addW_len (hz3 w1)
  have ho4 := h3.1.out h4.2 ho.1 ho.2
  refine ⟨see_lst ho4.1, s_seq (s_ret (pv_ok _ _ _ (n_pv h4.1 (h4.ins ha3) hl) (q _ _ (h2.trans (h3.trans h4)))))⟩
end
end Mine
end
section
open PySem PySem.W
set_option tactic.hygienic false
namespace Mine
noncomputable def ky (es : List (Int × V)) : List Int := es.map (·.1)
theorem get_nil {k : Int} : get ([] : List (Int × V)) k = none := rfl
theorem get_cons {e : Int × V} {es : List (Int × V)} {k : Int} : get (e :: es) k = if e.1 = k then some e.2 else get es k := by
  unfold get
  rw [List.find?_cons]
  by_cases h : e.1 = k
  · rw [decide_eq_true h, if_pos h]; rfl
  · rw [decide_eq_false h, if_neg h]
theorem get_none {es : List (Int × V)} {k : Int} : get es k = none ↔ k ∉ ky es := by
  induction es with
  | nil => simp [get_nil, ky]
  | cons e es ih =>
    rw [get_cons]
    show _ ↔ k ∉ e.1 :: ky es
    rw [List.mem_cons, not_or]
    by_cases h : e.1 = k
    · rw [if_pos h]; simp [h]
    · rw [if_neg h, ih]
      exact ⟨fun q => ⟨fun e => h e.symm, q⟩, fun q => q.2⟩
theorem get_mem {es : List (Int × V)} {k : Int} (h : k ∈ ky es) : ∃ v, get es k = some v := by
  cases hg : get es k with
  | some v => exact ⟨v, rfl⟩
  | none => exact absurd h (get_none.mp hg)
theorem get_ky {es : List (Int × V)} {k : Int} {v : V} (h : get es k = some v) : k ∈ ky es := by
  by_cases hk : k ∈ ky es
  · exact hk
  · rw [get_none.mpr hk] at h; cases h
theorem get_in {es : List (Int × V)} {k : Int} {v : V} (h : get es k = some v) : (k, v) ∈ es := by
  induction es with
  | nil => cases h
  | cons e es ih =>
    rw [get_cons] at h
    by_cases he : e.1 = k
    · rw [if_pos he] at h
      cases h
      exact List.mem_cons.mpr (.inl (by rw [← he]))
    · rw [if_neg he] at h
      exact List.mem_cons_of_mem _ (ih h)
theorem any_ky {es : List (Int × V)} {k : Int} : es.any (fun e => decide (e.1 = k)) = decide (k ∈ ky es) := by
  induction es with
  | nil => simp [ky]
  | cons e es ih =>
    rw [List.any_cons, ih]
    show _ = decide (k ∈ e.1 :: ky es)
    simp only [List.mem_cons, eq_comm (a := k)]
    by_cases h : e.1 = k <;> simp [h]
theorem put_in {es : List (Int × V)} {k : Int} {v : V} (h : k ∈ ky es) : put es k v = es.map fun e => if e.1 = k then (e.1, v) else e := by
  unfold put
  rw [any_ky, decide_eq_true h, if_pos rfl]
theorem put_new {es : List (Int × V)} {k : Int} {v : V} (h : k ∉ ky es) : put es k v = es ++ [(k, v)] := by
  unfold put
  rw [any_ky, decide_eq_false h]; rfl
theorem ky_put {es : List (Int × V)} {k : Int} {v : V} : ky (put es k v) = if k ∈ ky es then ky es else ky es ++ [k] := by
  by_cases h : k ∈ ky es
  · rw [put_in h, if_pos h]
    unfold ky
    rw [List.map_map]
    apply List.map_congr_left
    intro e _
    show (if e.1 = k then (e.1, v) else e).1 = e.1
    split <;> rfl
  · rw [put_new h, if_neg h]
    unfold ky
    rw [List.map_append]; rfl
theorem get_app {es fs : List (Int × V)} {k : Int} : get (es ++ fs) k = match get es k with
    | some v => some v
    | none => get fs k := by
  induction es with
  | nil => rfl
  | cons e es ih =>
    rw [List.cons_append, get_cons, get_cons]
    by_cases h : e.1 = k
    · rw [if_pos h, if_pos h]
    · rw [if_neg h, if_neg h, ih]
theorem get_put {es : List (Int × V)} {k k' : Int} {v : V} : get (put es k v) k' = if k' = k then some v else get es k' := by
  by_cases h : k ∈ ky es
  · rw [put_in h]
    induction es with
    | nil => cases h
    | cons e es ih =>
      rw [List.map_cons, get_cons, get_cons]
      by_cases he : e.1 = k
      · rw [if_pos he]
        by_cases hk : k' = k
        · rw [if_pos hk, if_pos (show e.1 = k' by rw [he, hk])]
        · rw [if_neg hk, if_neg (show ¬ e.1 = k' from fun q => hk (by rw [← q, he])), if_neg (show ¬ e.1 = k' from fun q => hk (by rw [← q, he]))]
          by_cases h2 : k ∈ ky es
          · rw [ih h2, if_neg hk]
          · congr 1
            rw [List.map_congr_left (g := id)]
            · rw [List.map_id]
            · intro x hx
              show (if x.1 = k then (x.1, v) else x) = x
              rw [if_neg]
              intro hx'
              exact h2 (hx' ▸ List.mem_map_of_mem hx)
      · rw [if_neg he]
        have h2 : k ∈ ky es := by
          rcases List.mem_cons.mp h with h | h
          · exact absurd h.symm he
          · exact h
        rw [ih h2]
        by_cases hk : k' = k
        · rw [if_pos hk, if_neg (show ¬ e.1 = k' from fun q => he (by rw [q, hk])), if_pos hk]
        · rw [if_neg hk, if_neg hk]
  · rw [put_new h, get_app]
    by_cases hk : k' = k
    · subst hk
      rw [get_none.mpr h, if_pos rfl, get_cons, if_pos rfl]
    · rw [if_neg hk]
      cases hg : get es k' with
      | some v => rfl
      | none =>
        rw [get_cons, if_neg (fun q => hk q.symm)]; rfl
theorem ky_rem {es : List (Int × V)} {k : Int} : ky (rem es k) = (ky es).filter fun x => decide (x ≠ k) := by
  unfold ky rem
  rw [List.filter_map]; rfl
theorem get_rem {es : List (Int × V)} {k k' : Int} : get (rem es k) k' = if k' = k then none else get es k' := by
  induction es with
  | nil => simp [rem, get_nil]
  | cons e es ih =>
    unfold rem at ih ⊢
    rw [List.filter_cons]
    by_cases he : e.1 = k
    · rw [if_neg (by simp [he]), ih, get_cons]
      by_cases hk : k' = k
      · rw [if_pos hk, if_pos hk]
      · rw [if_neg hk, if_neg hk, if_neg fun q => hk (by rw [← q, he])]
    · rw [if_pos (by simp [he]), get_cons, get_cons, ih]
      by_cases hk : k' = k
      · rw [if_pos hk, if_pos hk, if_neg fun q => he (by rw [q, hk])]
      · rw [if_neg hk, if_neg hk]
theorem put_mem {es : List (Int × V)} {k : Int} {v : V} {e : Int × V} (h : e ∈ put es k v) : e ∈ es ∨ e = (k, v) := by
  by_cases hk : k ∈ ky es
  · rw [put_in hk] at h
    obtain ⟨x, hx, rfl⟩ := List.mem_map.mp h
    by_cases hh : x.1 = k
    · rw [if_pos hh, ← hh]; exact .inr rfl
    · rw [if_neg hh]; exact .inl hx
  · rw [put_new hk] at h
    rcases List.mem_append.mp h with h | h
    · exact .inl h
    · exact .inr (List.mem_singleton.mp h)
theorem nodup_le {α : Type} [DecidableEq α] : ∀ {l r : List α}, l.Nodup → (∀ x ∈ l, x ∈ r) → l.length ≤ r.length
  | [], r, _, _ => Nat.zero_le _
  | x :: l, r, n, h => by
    have hx := h x (List.mem_cons_self ..)
    have n' := List.nodup_cons.mp n
    have := nodup_le (r := r.erase x) n'.2 fun y hy => (List.mem_erase_of_ne fun e : y = x => n'.1 (e ▸ hy)).mpr (h y (List.mem_cons_of_mem _ hy))
    rw [List.length_erase_of_mem hx] at this
    have := List.length_pos_of_mem hx
    rw [List.length_cons]; omega
structure Keys (N : Nat) (es : List (Int × V)) : Prop where
  nd : (ky es).Nodup
  lo : ∀ k ∈ ky es, 1 ≤ k ∧ k ≤ N
noncomputable def oneTo (N : Nat) : List Int := (List.range N).map fun i => ((i + 1 : Nat) : Int)
theorem mem_oneTo {N : Nat} {k : Int} : k ∈ oneTo N ↔ 1 ≤ k ∧ k ≤ N := by
  unfold oneTo
  rw [List.mem_map]
  constructor
  · rintro ⟨i, hi, rfl⟩
    have := List.mem_range.mp hi
    omega
  · rintro ⟨h1, h2⟩
    exact ⟨(k - 1).toNat, List.mem_range.mpr (by omega), by omega⟩
theorem oneTo_len {N : Nat} : (oneTo N).length = N := by unfold oneTo; rw [List.length_map, List.length_range]
theorem Keys.len {N : Nat} {es : List (Int × V)} (h : Keys N es) : es.length ≤ N := by
  have := nodup_le h.nd fun k hk => mem_oneTo.mpr (h.lo k hk)
  rw [oneTo_len] at this
  unfold ky at this
  rwa [List.length_map] at this
theorem Keys.put {N : Nat} {es : List (Int × V)} (h : Keys N es) {k : Int} {v : V} (h1 : 1 ≤ k) (h2 : k ≤ N) : Keys N (put es k v) := by
  refine ⟨?_, fun q hq => ?_⟩
  · rw [ky_put]
    split
    · exact h.nd
    · rename_i hk
      rw [List.nodup_append]
      exact ⟨h.nd, by simp, fun a ha b hb e => hk (by rw [← List.mem_singleton.mp hb, ← e]; exact ha)⟩
  · rw [ky_put] at hq
    split at hq
    · exact h.lo q hq
    · rcases List.mem_append.mp hq with hq | hq
      · exact h.lo q hq
      · rw [List.mem_singleton.mp hq]; exact ⟨h1, h2⟩
theorem Keys.rem {N : Nat} {es : List (Int × V)} (h : Keys N es) {k : Int} : Keys N (rem es k) := by
  refine ⟨?_, fun q hq => ?_⟩
  · rw [ky_rem]; exact h.nd.filter _
  · rw [ky_rem] at hq; exact h.lo q (List.mem_filter.mp hq).1
theorem Keys.nil {N : Nat} : Keys N [] := ⟨List.nodup_nil, fun _ h => by cases h⟩
end Mine
end
section
open PySem PySem.W
namespace Mine
structure TD (N : Nat) (s : St) : Prop where
  nz : ∀ l ∈ s.ro, l ≠ 0 ∧ l.natAbs ≤ N
  nd : (s.ro.map Int.natAbs).Nodup
  kn : ∀ k v, get s.kn k = some v ↔ ∃ l ∈ s.ro, (l.natAbs : Int) = k ∧ v = .bool (decide (0 < l))
  kK : Keys N s.kn
  hK : Keys N s.he
  cK : Keys N s.ca
  lK : Keys N s.li
  lB : ∀ k v, get s.li k = some v → ∃ b, v = .bool b
noncomputable def bk (s : St) (ro : List Int) (kn li : List (Int × V)) : St := ((s.wRo ro).wKn kn).wLi li
section
variable {N : Nat} {s : St}
theorem nabs1 {l : Int} (h : l ≠ 0) : (1 : Int) ≤ l.natAbs := by lia
theorem TD.let_ (T : TD N s) {l : Int} {c : V} (h0 : l ≠ 0) (hN : l.natAbs ≤ N) (hn : ∀ x ∈ s.ro, x.natAbs ≠ l.natAbs) : TD N (letS s l c) := by
  have hN' : (l.natAbs : Int) ≤ N := by exact_mod_cast hN
  refine ⟨fun x hx => ?_, ?_, fun k v => ?_, T.kK.put (nabs1 h0) hN', T.hK.put (nabs1 h0) hN', T.cK.put (nabs1 h0) hN', T.lK, T.lB⟩
  · have hx : x ∈ s.ro ++ [l] := hx
    rcases List.mem_append.mp hx with hx | hx
    · exact T.nz x hx
    · rw [List.mem_singleton.mp hx]; exact ⟨h0, hN⟩
  · show ((s.ro ++ [l]).map Int.natAbs).Nodup
    rw [List.map_append, List.nodup_append]
    refine ⟨T.nd, by simp, fun a ha b hb e => ?_⟩
    obtain ⟨x, hx, rfl⟩ := List.mem_map.mp ha
    simp only [List.map_cons, List.map_nil, List.mem_singleton] at hb
    exact hn x hx (e.trans hb)
  · show get (put s.kn l.natAbs (.bool (decide (0 < l)))) k = some v ↔ ∃ x ∈ s.ro ++ [l], _
    rw [get_put]
    by_cases hk : k = l.natAbs
    · rw [if_pos hk]
      constructor
      · rintro e
        cases e
        exact ⟨l, List.mem_append_right _ (List.mem_singleton.mpr rfl), hk.symm, rfl⟩
      · rintro ⟨x, hx, hxk, rfl⟩
        rcases List.mem_append.mp hx with hx | hx
        · exact absurd (by rw [hk] at hxk; exact_mod_cast hxk) (hn x hx)
        · rw [List.mem_singleton.mp hx]
    · rw [if_neg hk, T.kn]
      constructor
      · rintro ⟨x, hx, h⟩
        exact ⟨x, List.mem_append_left _ hx, h⟩
      · rintro ⟨x, hx, h⟩
        rcases List.mem_append.mp hx with hx | hx
        · exact ⟨x, hx, h⟩
        · rw [List.mem_singleton.mp hx] at h
          exact absurd h.1.symm hk
theorem TD.pop (T : TD N s) {r : List Int} {l : Int} (h : s.ro = r ++ [l]) : TD N (bk s r (rem s.kn l.natAbs) (put s.li l.natAbs (.bool (decide (0 < l))))) := by
  have hl : l ∈ s.ro := by rw [h]; exact List.mem_append_right _ (List.mem_singleton.mpr rfl)
  have hs : ∀ x ∈ r, x ∈ s.ro := fun x hx => by rw [h]; exact List.mem_append_left _ hx
  have hnd := T.nd
  rw [h, List.map_append, List.nodup_append] at hnd
  have hd : ∀ x ∈ r, x.natAbs ≠ l.natAbs := fun x hx => hnd.2.2 _ (List.mem_map_of_mem hx) _ (by simp)
  have hN' : (l.natAbs : Int) ≤ N := by exact_mod_cast (T.nz l hl).2
  refine ⟨fun x hx => T.nz x (hs x hx), hnd.1, fun k v => ?_, T.kK.rem, T.hK, T.cK, T.lK.put (nabs1 (T.nz l hl).1) hN', fun k v hv => ?_⟩
  · show get (rem s.kn l.natAbs) k = some v ↔ ∃ x ∈ r, _
    rw [get_rem]
    by_cases hk : k = l.natAbs
    · rw [if_pos hk]
      constructor
      · intro e; cases e
      · rintro ⟨x, hx, hxk, _⟩
        exact absurd (by rw [hk] at hxk; exact_mod_cast hxk) (hd x hx)
    · rw [if_neg hk, T.kn]
      constructor
      · rintro ⟨x, hx, hh⟩
        rw [h] at hx
        rcases List.mem_append.mp hx with hx | hx
        · exact ⟨x, hx, hh⟩
        · rw [List.mem_singleton.mp hx] at hh
          exact absurd hh.1.symm hk
      · rintro ⟨x, hx, hh⟩
        exact ⟨x, hs x hx, hh⟩
  · have hv : get (put s.li l.natAbs (.bool (decide (0 < l)))) k = some v := hv
    rw [get_put] at hv
    split at hv
    · cases hv; exact ⟨_, rfl⟩
    · exact T.lB k v hv
theorem TD.knOK (T : TD N s) : KnOK s := fun k v h => by
  refine nn fun hC => ?_
  obtain ⟨l, _, _, rfl⟩ := (T.kn k v).mp h
  refine hC ?_
  exact ⟨_, rfl⟩
theorem nd_abs (T : TD N s) {x y : Int} (hx : x ∈ s.ro) (hy : y ∈ s.ro) (h : x.natAbs = y.natAbs) : x = y := by
  have := T.nd
  obtain ⟨i, hi, rfl⟩ := List.getElem_of_mem hx
  obtain ⟨j, hj, rfl⟩ := List.getElem_of_mem hy
  have e : i = j := by
    have h1 : i < (s.ro.map Int.natAbs).length := by rw [List.length_map]; exact hi
    have h2 : j < (s.ro.map Int.natAbs).length := by rw [List.length_map]; exact hj
    exact (List.getElem_inj (h₀ := h1) (h₁ := h2) this).mp (by rw [List.getElem_map, List.getElem_map]; exact h)
  subst e; rfl
theorem TD.no2 (T : TD N s) {x : Int} (hx : x ∈ s.ro) (hy : -x ∈ s.ro) : False := by
  have h1 := nd_abs T hx hy (by lia)
  have := (T.nz x hx).1
  lia
theorem TD.say (T : TD N s) {l : Int} (h0 : l ≠ 0) : (l ∈ s.ro ∧ sayV s l = .bool true) ∨ (-l ∈ s.ro ∧ sayV s l = .bool false) ∨ ((∀ x ∈ s.ro, x.natAbs ≠ l.natAbs) ∧ sayV s l = .none) := by
  cases hg : get s.kn l.natAbs with
  | none =>
    refine .inr (.inr ⟨fun x hx e => ?_, by unfold sayV; rw [hg]⟩)
    have := (T.kn l.natAbs _).mpr ⟨x, hx, by exact_mod_cast e, rfl⟩
    rw [hg] at this; cases this
  | some v =>
    refine nn fun hC => ?_
    obtain ⟨x, hx, e, rfl⟩ := (T.kn _ _).mp hg
    refine hC ?_
    have e' : x.natAbs = l.natAbs := by exact_mod_cast e
    have hx0 := (T.nz x hx).1
    by_cases h : x = l
    · subst h
      exact .inl ⟨hx, by unfold sayV; rw [hg]; simp⟩
    · have h' : x = -l := by lia
      subst h'
      refine .inr (.inl ⟨hx, ?_⟩)
      unfold sayV; rw [hg]
      show V.bool _ = V.bool false
      congr 1
      by_cases h2 : 0 < l
      · rw [decide_eq_true h2, decide_eq_false (by lia)]; rfl
      · rw [decide_eq_false h2, decide_eq_true (by lia)]; rfl
theorem TD.say_t (T : TD N s) {l : Int} (h0 : l ≠ 0) : sayV s l = .bool true ↔ l ∈ s.ro := by
  rcases T.say h0 with ⟨h, e⟩ | ⟨h, e⟩ | ⟨h, e⟩
  · exact ⟨fun _ => h, fun _ => e⟩
  · exact ⟨fun q => (by rw [e] at q; cases q), fun q => (T.no2 q h).elim⟩
  · exact ⟨fun q => (by rw [e] at q; cases q), fun q => (h l q rfl).elim⟩
theorem TD.say_f (T : TD N s) {l : Int} (h0 : l ≠ 0) : sayV s l = .bool false ↔ -l ∈ s.ro := by
  rcases T.say h0 with ⟨h, e⟩ | ⟨h, e⟩ | ⟨h, e⟩
  · exact ⟨fun q => (by rw [e] at q; cases q), fun q => (T.no2 h q).elim⟩
  · exact ⟨fun _ => h, fun _ => e⟩
  · exact ⟨fun q => (by rw [e] at q; cases q), fun q => (h (-l) q (by lia)).elim⟩
theorem TD.say_n (T : TD N s) {l : Int} (h0 : l ≠ 0) : sayV s l = .none ↔ ∀ x ∈ s.ro, x.natAbs ≠ l.natAbs := by
  rcases T.say h0 with ⟨h, e⟩ | ⟨h, e⟩ | ⟨h, e⟩
  · exact ⟨fun q => (by rw [e] at q; cases q), fun q => (q l h rfl).elim⟩
  · exact ⟨fun q => (by rw [e] at q; cases q), fun q => (q (-l) h (by lia)).elim⟩
  · exact ⟨fun _ => h, fun _ => e⟩
theorem say_kinds (s : St) (l : Int) : sayV s l = .bool true ∨ sayV s l = .bool false ∨ sayV s l = .none := by
  unfold sayV
  split
  · rename_i b _
    cases (b == decide (0 < l))
    · exact .inr (.inl rfl)
    · exact .inl rfl
  · exact .inr (.inr rfl)
theorem TD.len (T : TD N s) : s.ro.length ≤ N := by
  have := nodup_le (r := (List.range N).map (· + 1)) T.nd fun x hx => by
    obtain ⟨l, hl, rfl⟩ := List.mem_map.mp hx
    have := T.nz l hl
    exact List.mem_map.mpr ⟨l.natAbs - 1, List.mem_range.mpr (by lia), by lia⟩
  rw [List.length_map, List.length_map, List.length_range] at this
  exact this
end
end Mine
end
section
open PySem PySem.W
set_option tactic.hygienic false
namespace Mine
noncomputable def Ext (H H' : AH) : Prop := ∀ x o, H x = some o → H' x = some o
theorem Ext.refl {H : AH} : Ext H H := fun _ _ h => h
theorem Ext.trans {H H' H'' : AH} (h : Ext H H') (h' : Ext H' H'') : Ext H H'' := fun x o q => h' x o (h x o q)
theorem Ext.new {H H' : AH} (h : Ext H H') {x : Addr} {o : O} (hx : H x = none) : Ext H (H'.set x o) := fun y p q => by
  rw [set_ne (by rintro rfl; rw [hx] at q; cases q)]; exact h y p q
theorem Ext.none {H H' : AH} (h : Ext H H') {x : Addr} (hx : H' x = none) : H x = none := by
  cases hh : H x with
  | none => rfl
  | some o => rw [h x o hh] at hx; cases hx
theorem Ext.sf {H H' : AH} {lay : Ro → Addr} {s : St} (So : Sol H lay s) (h : Ext H H') : SF H lay s H' lay s :=
  ⟨So.frame fun r u => by rw [So.at_ r u, h _ _ (So.at_ r u)], ⟨fun x o q _ => h x o q, fun x q => .inl q, fun _ _ u => ⟨u, rfl⟩⟩⟩
noncomputable def Fre (H : AH) (lay : Ro → Addr) (s : St) (x : Addr) : Prop := ∀ o, H x = some o → fp lay s x
section
variable {H0 H : AH} {lay0 lay : Ro → Addr} {s0 s : St}
theorem SF.fre (h : SF H0 lay0 s0 H lay s) {x : Addr} (hx : H x = none) : Fre H0 lay0 s0 x := fun o q => by
  by_cases n : fp lay0 s0 x
  · exact n
  · rw [h.2.keep x o q n] at hx; cases hx
theorem Fre.of {x : Addr} (h : H x = none) : Fre H lay s x := fun o q => by rw [h] at q; cases q
theorem SF.side (h : SF H0 lay0 s0 H lay s) {x : Addr} {o : O} (f : Fre H0 lay0 s0 x) (n : ¬ fp lay s x) : SF H0 lay0 s0 (H.set x o) lay s :=
  ⟨h.1.side n, ⟨fun y p q m => by rw [set_ne (by rintro rfl; exact m (f p q))]; exact h.2.keep y p q m, h.2.new, h.2.fix⟩⟩
theorem SF.refl (So : Sol H lay s) : SF H lay s H lay s := ⟨So, .refl⟩
end
theorem cloop_ind {α : Type} {chk : AH → Prop} {body : V → AH → α → (α → AH → Prop) → Prop} {Q : α → AH → Prop} (I : Nat → α → AH → Prop) (items : List V)
    (hs : ∀ i v acc H K, items[i]? = some v → I i acc H → (∀ acc H, I (i + 1) acc H → K acc H) → chk H ∧ body v H acc K) (he : ∀ acc H, I items.length acc H → chk H ∧ Q acc H) {acc : α} {H : AH} (h0 : I 0 acc H) : cloop chk body items H acc Q := by
  suffices h : ∀ (vs : List V) (i : Nat), i ≤ items.length → items.drop i = vs → ∀ acc H, I i acc H → cloop chk body vs H acc Q from h items 0 (Nat.zero_le _) rfl acc H h0
  intro vs
  induction vs with
  | nil =>
    intro i hl hi acc H h
    have h1 : i = items.length := by
      have := congrArg List.length hi
      rw [List.length_drop] at this
      simp only [List.length_nil] at this; lia
    exact he acc H (h1 ▸ h)
  | cons v vs ih =>
    intro i hl hi acc H h
    have h1 : items[i]? = some v := by rw [← List.head?_drop, hi]; rfl
    have h2 : i < items.length := by
      have := congrArg List.length hi
      rw [List.length_drop] at this
      simp only [List.length_cons] at this; lia
    refine hs i v acc H _ h1 h fun acc H h' => ih (i + 1) h2 ?_ acc H h'
    rw [← List.tail_drop, hi]; rfl
section
variable {sp : Sp} {n : Nat} {H : AH} {lay : Ro → Addr} {s : St} {a : Addr} {Q : V → AH → Prop}
theorem it_d {d : Addr} {es : List (Int × V)} {K : List V → (AH → Prop) → (AH → AH) → AH → Prop} (h : H d = some (.dct es)) (q : ∀ o, K (keysOf es) (fun H => H d = some (.froz (.dct es) o)) (fun H => H.set d (.dct es)) (H.set d (.froz (.dct es) o))) : itW H (.ref d) K := ifS_mk (x := d) rfl (ifS_mk h q)
theorem set_same {d : Addr} {x : O} (h : H d = some x) : H.set d x = H := by
  funext b
  by_cases e : b = d
  · subst e; rw [set_eq, h]
  · rw [set_ne e]
theorem keys_get {es : List (Int × V)} {i : Nat} {v : V} (h : (keysOf es)[i]? = some v) : ∃ k, (ky es)[i]? = some k ∧ v = .int k := by
  unfold keysOf at h
  rw [List.getElem?_map] at h
  obtain ⟨e, he, rfl⟩ := Option.map_eq_some_iff.mp h
  exact ⟨e.1, by unfold ky; rw [List.getElem?_map, he]; rfl, rfl⟩
theorem keys_len {es : List (Int × V)} : (keysOf es).length = es.length := List.length_map ..
noncomputable def attS (a : Addr) (k : Nat) (v : V) (H : AH) (P : AH → Prop) : Prop := ifS (insV H (.ref a)) fun p => p.2.length < 900 ∧ P (H.set p.1 (.att (put p.2 k v)))
theorem attS_ok (So : Sol H lay s) (ha : lay .ins = a) {P : AH → Prop} {k : Nat} {v : V} (q : P (H.set (lay .att) (.att (put (attL lay s) k v)))) : attS a k v H P := att_set (P := P) So ha q
theorem s_setE {r : List V} {k : Nat} {x : X} {P : List V → AH → Prop} {R : V → AH → Prop} (h : x.ev sp (.ref a :: r) H fun v H => attS a k v H (P (.ref a :: r))) : (S.setA (.loc 0) k x).wp sp (.ref a :: r) H P R := h
theorem e_dc {m : List V} {mask : List Bool} {x k v : X} {P : V → AH → Prop} (h : x.ev sp m H fun w H => itW H w fun items chk thaw H =>
      cloop chk (fun x H acc K => k.ev sp (mskd m mask ++ [x]) H fun kv H => v.ev sp (mskd m mask ++ [x]) H fun vv H => ifS kv.i? fun i => acc.length < sz ∧ K (put acc i vv) H) items H [] fun acc H => ∀ a, thaw H a = none → P (.ref a) ((thaw H).set a (.dct acc))) : (X.dcomp mask (.src x) k v).ev sp m H P := h
theorem sb_f {d : Addr} {o : Obj} {es : List (Int × V)} {k : Int} {v : V} (h : H d = some (.froz (.dct es) o)) (e : get es k = some v) : subV H (.ref d) (.int k) = some v := bindM (x := d) rfl (bindM (see_froz h) e)
noncomputable def HtOK (N : Nat) (es : List (Int × V)) : Prop := ky es = oneTo N ∧ ∀ e ∈ es, ∃ i, e.2 = .int i
theorem oneTo_nd {N : Nat} : (oneTo N).Nodup := by
  unfold oneTo
  refine List.Pairwise.map _ (fun a b h => ?_) List.nodup_range
  intro e; apply h; lia
theorem HtOK.put {N : Nat} {es : List (Int × V)} (h : HtOK N es) {v i : Int} (h1 : 1 ≤ v) (h2 : v ≤ N) : HtOK N (put es v (.int i)) := by
  refine ⟨?_, fun e he => ?_⟩
  · rw [ky_put, if_pos (by rw [h.1]; exact mem_oneTo.mpr ⟨h1, h2⟩)]; exact h.1
  · rcases put_mem he with he | rfl
    · exact h.2 e he
    · exact ⟨i, rfl⟩
theorem HtOK.get {N : Nat} {es : List (Int × V)} (h : HtOK N es) {v : Int} (h1 : 1 ≤ v) (h2 : v ≤ N) : ∃ i, Mine.get es v = some (.int i) := by
  obtain ⟨x, hx⟩ := get_mem (es := es) (k := v) (by rw [h.1]; exact mem_oneTo.mpr ⟨h1, h2⟩)
  obtain ⟨i, hi⟩ := h.2 _ (get_in hx)
  exact ⟨i, by rw [hx]; exact congrArg some hi⟩
theorem HtOK.len {N : Nat} {es : List (Int × V)} (h : HtOK N es) : es.length = N := by
  have := congrArg List.length h.1
  rw [oneTo_len] at this
  unfold ky at this
  rwa [List.length_map] at this
noncomputable def hot (s : St) (es : List (Int × V)) (g : Int) : St := (s.wHt es).wGain g
theorem ints_put {es : List (Int × V)} {k i : Int} (h : ∀ e ∈ es, ∃ i, e.2 = V.int i) : ∀ e ∈ put es k (.int i), ∃ i, e.2 = V.int i := fun e he => by
  rcases put_mem he with he | rfl
  · exact h e he
  · exact ⟨i, rfl⟩
theorem c_warm (So : Sol H lay s) (ha : lay .ins = a) {N : Nat} (hN : N < 1000) (ht : HtOK N s.ht) {v : Int} (h1 : 1 ≤ v) (h2 : v ≤ N)
    (q : ∀ H' lay' es g, SF H lay s H' lay' (hot s es g) → HtOK N es → Q .none H') : spN tab02 (n + 1) 11 [.ref a, .int v] H Q := by
  obtain ⟨x, hx⟩ := ht.get h1 h2
  have hsz : N < sz := Nat.lt_trans hN (by decide)
  have u1 := u_ht So (put s.ht v (.int (x + s.gain)))
  have ht1 := ht.put (i := x + s.gain) h1 h2
  have g1 : get (put s.ht v (.int (x + s.gain))) v = some (.int (x + s.gain)) := by rw [get_put, if_pos rfl]
  refine sp_go rfl rfl (s_seq (s_setI (pvb (pvb (So.a_ ha rfl rfl) (pvb rfl (sb_d (So.at_ .ht trivial) hx))) (pvb (So.a_ ha rfl rfl) rfl)) (So.a_ ha rfl rfl) rfl (setI_d (So.at_ .ht trivial) (by rw [ht.len]; exact hsz) ?_)))
  refine s_seq (s_ite (b := decide (1000000000 < x + s.gain)) (pvb (pvb (u1.1.a_ ha rfl rfl) (pvb rfl (sb_d (u1.1.at_ .ht trivial) g1))) (pvb rfl (pcm rfl))) (fun _ => ?_) fun _ => s_skip (s_skip (q _ _ _ s.gain u1 ht1)))
  refine s_seq (s_setE (e_dc (pv_ok _ (.ref (lay .ht)) _ (u1.1.a_ ha rfl rfl) (it_d (u1.1.at_ .ht trivial) fun o => ?_))))
  have hne : ∀ r, r ≠ .ht → use (s.wHt (put s.ht v (.int (x + s.gain)))) r → lay r ≠ lay .ht := fun r h u e => h (u1.1.inj r .ht u trivial e)
  refine cloop_ind (fun i acc H' => H' = (H.set (lay .ht) (.dct (put s.ht v (.int (x + s.gain))))).set (lay .ht) (.froz (.dct (put s.ht v (.int (x + s.gain)))) o) ∧ ky acc = (oneTo N).take i ∧ ∀ e ∈ acc, ∃ i, e.2 = V.int i) _ (fun i w acc H' K hw hI hK => ?_) (fun acc H' hI => ?_) ⟨rfl, rfl, fun _ h => by cases h⟩
  · obtain ⟨rfl, hk, hi⟩ := hI
    obtain ⟨k, hk1, rfl⟩ := keys_get hw
    refine ⟨set_eq, ?_⟩
    obtain ⟨y, hy⟩ := get_mem (List.mem_of_getElem? hk1)
    obtain ⟨z, hz⟩ := ht1.2 _ (get_in hy)
    have hz : y = .int z := hz
    subst hz
    have hat : attrV ((H.set (lay .ht) (.dct (put s.ht v (.int (x + s.gain))))).set (lay .ht) (.froz (.dct (put s.ht v (.int (x + s.gain)))) o)) (.ref a) 9 = some (.ref (lay .ht)) :=
      attr_of (d := lay .att) (es := attL lay s) (by rw [← ha, set_ne (hne .ins (by simp) trivial)]; exact u1.1.at_ .ins trivial) (by rw [set_ne (hne .att (by simp) trivial)]; exact u1.1.at_ .att trivial) rfl rfl
    refine pv_ok (.loc 2) (.int k) _ rfl (pv_ok (.bin .fdiv (.sub (.attr (.loc 0) 9) (.loc 2)) (.c (.int 1000000000))) (.int (z / 1000000000)) _ (pvb (pvb hat (pvb rfl (sb_f set_eq hy))) (pvb rfl rfl)) ?_)
    have hk1 : (oneTo N)[i]? = some k := by rw [← ht1.1]; exact hk1
    have hlen : i < N := by
      have := (List.getElem?_eq_some_iff.mp hk1).1
      rw [oneTo_len] at this; exact this
    have hacc : acc.length = i := by
      have := congrArg List.length hk
      rw [List.length_take, oneTo_len] at this
      unfold ky at this
      rw [List.length_map] at this; lia
    refine ⟨by rw [hacc]; exact Nat.lt_trans hlen hsz, hK _ _ ⟨rfl, ?_, ints_put hi⟩⟩
    have hnk : k ∉ ky acc := by
      rw [hk]
      intro hm
      obtain ⟨j, hj, hj2⟩ := List.mem_iff_getElem?.mp hm |>.imp fun j hj => (⟨by
        have := (List.getElem?_eq_some_iff.mp hj).1
        rw [List.length_take] at this
        lia, hj⟩ : j < i ∧ _)
      rw [List.getElem?_take_of_lt hj] at hj2
      have h3 := (List.getElem?_eq_some_iff.mp hk1)
      have h4 := (List.getElem?_eq_some_iff.mp hj2)
      have := (List.getElem_inj (h₀ := h4.1) (h₁ := h3.1) oneTo_nd).mp (h4.2.trans h3.2.symm)
      lia
    rw [ky_put, if_neg hnk, hk, List.take_add_one, hk1]; rfl
  · obtain ⟨rfl, hk, hi⟩ := hI
    refine ⟨set_eq, fun y hy => ?_⟩
    have e0 : ((H.set (lay .ht) (.dct (put s.ht v (.int (x + s.gain))))).set (lay .ht) (.froz (.dct (put s.ht v (.int (x + s.gain)))) o)).set (lay .ht) (.dct (put s.ht v (.int (x + s.gain)))) = H.set (lay .ht) (.dct (put s.ht v (.int (x + s.gain)))) := by
      rw [set_set, set_set]
    have hy : (H.set (lay .ht) (.dct (put s.ht v (.int (x + s.gain))))) y = none := by rw [← e0]; exact hy
    refine (?_ : attS a 9 (.ref y) ((((H.set (lay .ht) (.dct (put s.ht v (.int (x + s.gain))))).set (lay .ht) (.froz (.dct (put s.ht v (.int (x + s.gain)))) o)).set (lay .ht) (.dct (put s.ht v (.int (x + s.gain))))).set y (.dct acc)) _)
    rw [e0]
    have hk' : ky acc = oneTo N := by
      rw [hk, keys_len, show (s.wHt (put s.ht v (.int (x + s.gain)))).ht.length = N from ht1.len]
      exact List.take_of_length_le (by rw [oneTo_len]; exact Nat.le_refl _)
    have h3 := n_ht u1.1 y hy acc
    refine attS_ok (u1.1.junk (o := .dct acc) hy) ha ?_
    have h4 := u_gain h3.1 1
    exact s_seq (s_setA h3.1 (h3.ins ha) rfl rfl (s_skip (s_skip (q _ _ _ _ (u1.trans (h3.trans h4)) ⟨hk', hi⟩))))
end
end Mine
end
section
open PySem PySem.W
set_option tactic.hygienic false
namespace Mine
section
variable {sp : Sp} {n : Nat} {H : AH} {lay : Ro → Addr} {s : St} {a : Addr} {Q : V → AH → Prop}
structure Ord (l c : List Int) : Prop where
  nd : (c.map Int.natAbs).Nodup
  mem : ∀ x, x ∈ c ↔ x ∈ l
  srt : c.Pairwise fun a b => a.natAbs ≤ b.natAbs
noncomputable def unI : V → Int
  | .int i => i
  | _ => 0
theorem zs_unI {l : List Int} : (zs l).map unI = l := by
  unfold zs
  rw [List.map_map]
  exact List.map_id _
theorem perm_zs {ys : List V} {l : List Int} (h : ys.Perm (zs l)) : ∃ c, ys = zs c ∧ c.Perm l := by
  refine ⟨ys.map unI, ?_, by have := h.map unI; rwa [zs_unI] at this⟩
  unfold zs
  rw [List.map_map]
  refine (List.map_id ys).symm.trans (List.map_congr_left fun y hy => ?_)
  obtain ⟨i, _, rfl⟩ := List.mem_map.mp (h.mem_iff.mp hy)
  rfl
theorem keys_zs {es : List (Int × V)} : keysOf es = zs (ky es) := by
  unfold keysOf zs ky
  rw [List.map_map]; rfl
theorem sd_k {d : Addr} {o : O} {l : List Int} {P : V → AH → Prop} (h : H.see d = some o) (hk : o.k? = some (zs l)) (hl : l.length < 64) (q : ∀ c, c.Perm l → c.Pairwise (fun a b => a.natAbs ≤ b.natAbs) → ∀ x, H x = none → P (.ref x) (H.set x (.lst (zs c)))) : biW .sortAbs [.ref d] H P := by
  show ifS (H.see d) _
  refine ifS_mk h (ifS_mk hk ⟨?_, by rw [zs_len]; exact hl, fun ys hp hs x hx => ?_⟩)
  · rw [List.all_eq_true]
    intro v hv
    obtain ⟨i, _, rfl⟩ := List.mem_map.mp hv; rfl
  · obtain ⟨c, rfl, hc⟩ := perm_zs hp
    exact q c hc ((List.pairwise_map (f := V.int) (R := absLe)).mp hs) x hx
theorem sd_d {d : Addr} {es : List (Int × V)} {P : V → AH → Prop} (h : H d = some (.dct es)) (hl : es.length < 64) (q : ∀ c, c.Perm (ky es) → c.Pairwise (fun a b => a.natAbs ≤ b.natAbs) → ∀ x, H x = none → P (.ref x) (H.set x (.lst (zs c)))) : biW .sortAbs [.ref d] H P :=
  sd_k (see_dct h) (congrArg some keys_zs) (by unfold ky; rw [List.length_map]; exact hl) q
theorem sd_l {d : Addr} {l : List Int} {P : V → AH → Prop} (h : H d = some (.lst (zs l))) (hl : l.length < 64) (q : ∀ c, c.Perm l → c.Pairwise (fun a b => a.natAbs ≤ b.natAbs) → ∀ x, H x = none → P (.ref x) (H.set x (.lst (zs c)))) : biW .sortAbs [.ref d] H P := sd_k (see_lst h) rfl hl q
theorem tt_l {d : Addr} {l : List V} {P : V → AH → Prop} (h : H d = some (.lst l)) (q : ∀ x, H x = none → P (.ref x) (H.set x (.tup l))) : biW .toTuple [.ref d] H P := by
  show ifS (H.see d) _
  exact ifL_mk (see_lst h) q
theorem it_lt {b : Addr} {o : O} {l : List V} {K : List V → (AH → Prop) → (AH → AH) → AH → Prop} (h : H b = some o) (ho : o = .lst l ∨ o = .tup l) (q : K l (fun H => H.see b = some o) (fun H => H) H) : itW H (.ref b) K := by
  rcases ho with rfl | rfl
  · exact it_l h q
  · exact ifS_mk (x := b) rfl (ifS_mk h q)
theorem see_lt {b : Addr} {o : O} {l : List V} (h : H b = some o) (ho : o = .lst l ∨ o = .tup l) : H.see b = some o := by
  rcases ho with rfl | rfl
  · exact see_lst h
  · exact see_tup h
theorem zs_at {l : List Int} {i : Nat} {v : V} (h : (zs l)[i]? = some v) : ∃ x, l[i]? = some x ∧ v = .int x := by
  unfold zs at h
  rw [List.getElem?_map] at h
  obtain ⟨x, hx, rfl⟩ := Option.map_eq_some_iff.mp h
  exact ⟨x, hx, rfl⟩
theorem mb {d : Addr} {es : List (Int × V)} {k : Int} (h : H d = some (.dct es)) : memV H (.int k) (.ref d) = some (decide (k ∈ ky es)) := by
  show (H.see d).bind _ = _
  rw [see_dct h]
  show some (get es k).isSome = _
  by_cases hk : k ∈ ky es
  · obtain ⟨v, hv⟩ := get_mem hk
    rw [hv, decide_eq_true hk]; rfl
  · rw [get_none.mpr hk, decide_eq_false hk]; rfl
theorem mem_take_succ {α : Type} {l : List α} {i : Nat} {x y : α} (h : l[i]? = some x) : y ∈ l.take (i + 1) ↔ y ∈ l.take i ∨ y = x := by
  rw [List.take_add_one, h, List.mem_append]
  simp
theorem c_ordered {b : Addr} {o : O} {l : List Int} (hb : H b = some o) (ho : o = .lst (zs l) ∨ o = .tup (zs l)) (h0 : ∀ x ∈ l, x ≠ 0) (hl : l.length < 64)
    (q1 : ∀ H', Ext H H' → (∃ x ∈ l, -x ∈ l) → Q .none H') (q2 : ∀ H' y c, Ext H H' → H y = none → H' y = some (.tup (zs c)) → Ord l c → Q (.ref y) H') : spN tab02 (n + 1) 0 [.ref b] H Q := by
  refine sp_go rfl rfl (s_seq (s_asg fun d hd => ?_))
  refine s_seq (s_for (pv_ok (.loc 0) (.ref b) _ rfl (it_lt (Ext.refl.new hd b o hb) ho ?_)))
  refine floop_ind (fun i m H1 => Ex2 fun w es => An6 (m = [.ref b, .ref d, w]) (Ext H H1) (H1 d = some (.dct es)) ((ky es).Nodup) ((∀ x, x ∈ ky es ↔ x ∈ l.take i)) (∀ x ∈ ky es, -x ∉ ky es)) _ (fun i v m H1 K hv hI hK => ?_) (fun m H1 hI => ?_) ⟨.un, [], rfl, Ext.refl.new hd, set_eq, List.nodup_nil, fun x => by simp [ky], fun x hx => by cases hx⟩
  · obtain ⟨w, es, rfl, E, he, hn, hm, hs⟩ := hI
    obtain ⟨x, hx, rfl⟩ := zs_at hv
    have hx0 := h0 x (List.mem_of_getElem? hx)
    have hlen : es.length < sz := by
      have := nodup_le hn fun y hy => List.mem_of_mem_take ((hm y).mp hy)
      unfold ky at this
      rw [List.length_map] at this
      exact Nat.lt_of_le_of_lt this (Nat.lt_trans hl (by decide))
    refine ⟨see_lt (E b o hb) ho, s_seq (s_ite (b := decide (-x ∈ ky es)) (pvb (pvb rfl rfl) (pvb rfl (pcm (mb he)))) (fun hd => ?_) fun hd => ?_)⟩
    · have hxn := (hm _).mp (of_decide_eq_true hd)
      exact s_seq (s_ret (pv_ok (.c .none) .none _ rfl ⟨see_lt (E b o hb) ho, q1 _ E ⟨x, List.mem_of_getElem? hx, List.mem_of_mem_take hxn⟩⟩))
    · have hxn : -x ∉ ky es := of_decide_eq_false hd
      refine s_skip (s_seq (s_setI (v := .ref d) (k := .int x) rfl rfl rfl (setI_d he hlen (s_skip (hK _ _ ⟨.int x, _, rfl, ?_, set_eq, ?_, fun y => ?_, fun y hy => ?_⟩)))))
      · exact fun y p hp => by rw [set_ne (by rintro rfl; rw [‹H y = none›] at hp; cases hp)]; exact E y p hp
      · rw [ky_put]
        split
        · exact hn
        · rename_i hk
          rw [List.nodup_append]
          exact ⟨hn, by simp, fun a ha b hb e => hk (by rw [← List.mem_singleton.mp hb, ← e]; exact ha)⟩
      · rw [mem_take_succ hx, ← hm y, ky_put]
        split
        · rename_i hk
          exact ⟨.inl, fun h => h.elim id fun e => e ▸ hk⟩
        · rw [List.mem_append, List.mem_singleton]
      · have key : ∀ z, z ∈ ky (put es x (.bool true)) ↔ z ∈ ky es ∨ z = x := fun z => by
          rw [ky_put]
          split
          · rename_i hk
            exact ⟨.inl, fun h => h.elim id fun e => e ▸ hk⟩
          · rw [List.mem_append, List.mem_singleton]
        rw [key] at hy ⊢
        rintro (h1 | h1)
        · rcases hy with hy | rfl
          · exact hs y hy h1
          · exact hxn h1
        · rcases hy with hy | rfl
          · exact hxn (by rw [← h1, Int.neg_neg]; exact hy)
          · lia
  · refine nn fun hC => ?_
    obtain ⟨w, es, rfl, E, he, hn, hm, hs⟩ := hI
    refine hC ?_
    have hm : ∀ x, x ∈ ky es ↔ x ∈ l := fun x => by
      rw [hm, zs_len, List.take_length]
    have hlen : es.length < 64 := by
      have := nodup_le hn fun y hy => (hm y).mp hy
      unfold ky at this
      rw [List.length_map] at this
      exact Nat.lt_of_le_of_lt this hl
    refine ⟨see_lt (E b o hb) ho, s_seq (s_ret (e_bi (e_cons (e_bi (e_cons (pv_ok (.loc 1) (.ref d) _ rfl (e_nil (sd_d he hlen fun c hc hp x hx => e_nil (tt_l set_eq fun y hy => ?_)))))))))⟩
    have E1 : Ext H (H1.set x (.lst (zs c))) := E.new (E.none hx)
    refine q2 _ y c (E1.new (E1.none hy)) (E1.none hy) set_eq ⟨?_, fun z => by rw [hc.mem_iff, hm], hp⟩
    unfold List.Nodup
    rw [List.pairwise_map]
    refine List.Pairwise.imp_of_mem (fun {p q} h1 h2 h3 e => ?_) (hc.nodup_iff.mpr hn)
    have h4 : p = -q := by lia
    subst h4
    exact hs q (hc.mem_iff.mp h2) (hc.mem_iff.mp h1)
theorem pop_ok {o : Addr} {l : List V} {v : V} {P : V → AH → Prop} (h : H o = some (.lst (l ++ [v]))) (q : P v (H.set o (.lst l))) : biW .pop [.ref o] H P := by
  show ifS (H o) _
  refine ifL_mk h (ifS_mk List.getLast?_concat ?_)
  rw [List.dropLast_concat]
  exact q
theorem dpop1_ok {o : Addr} {es : List (Int × V)} {k : Int} {v : V} {P : V → AH → Prop} (h : H o = some (.dct es)) (e : get es k = some v) (q : P v (H.set o (.dct (rem es k)))) : biW .dpop1 [.ref o, .int k] H P := by
  show ifS (H o) _
  exact ifD_mk h (by rw [e]; exact q)
theorem s_wh {m : List V} {P : List V → AH → Prop} {R : V → AH → Prop} {c : X} {t : S} (I : Nat → List V → AH → Prop) (n : Nat) (h : I n m H) (h' : ∀ n m H, I n m H → ∃ b, An3 (c.pv m H = some (.bool b)) ((b = true → t.wp sp m H (fun m H => ∃ k, k < n ∧ I k m H) R)) ((b = false → P m H))) : (S.whl c t).wp sp m H P R :=
  s_whl I n h fun n m H hI => by
    refine nn fun hC => ?_
    obtain ⟨b, hb, h1, h2⟩ := h' n m H hI
    refine hC ?_
    refine pv_ok c _ _ hb ?_
    cases b
    · exact h2 rfl
    · exact h1 rfl
theorem s_whK {m : List V} {P : List V → AH → Prop} {R : V → AH → Prop} {c : X} {t : S} (I : Nat → List V → AH → Prop) (n : Nat) (h : I n m H) (h' : ∀ n m H (K : List V → AH → Prop), I n m H → (∀ k m' H', k < n → I k m' H' → K m' H') → ∃ b, An3 (c.pv m H = some (.bool b)) (b = true → t.wp sp m H K R) (b = false → P m H)) : (S.whl c t).wp sp m H P R :=
  s_wh I n h fun n m H hI => h' n m H _ hI fun k m' H' h1 h2 => ⟨k, h1, h2⟩
theorem s_setIE {m : List V} {o i x : X} {P : List V → AH → Prop} {R : V → AH → Prop} (h : x.ev sp m H fun w H => o.ev sp m H fun v H => i.ev sp m H fun k H => setIW H v k w fun H => P m H) : (S.setI o i x).wp sp m H P R := h
noncomputable def backS (s : St) (h p : Nat) (kn li : List (Int × V)) : St := ((bk s (s.ro.take p) kn li).wBe (s.be.take h)).wSeen p
theorem c_back0 (So : Sol H lay s) (ha : lay .ins = a) {h : Nat} (hp : s.be.length ≤ h) (q : Q .none H) : spN tab02 (n + 1) 4 [.ref a, .int h] H Q :=
  sp_go rfl rfl (s_seq (s_ite (b := false) (pvb rfl (pvb (len_pv (So.a_ ha rfl rfl) (ln_nz (So.at_ .be trivial))) (pcm (show some _ = some _ by rw [decide_eq_false]; lia)))) (fun h => by cases h) fun _ => s_skip (s_skip q)))
theorem c_back (So : Sol H lay s) (ha : lay .ins = a) {N : Nat} (T : TD N s) (hN : N < 1000) {h p : Nat} (hp : s.be[h]? = some p) (hpl : p ≤ s.ro.length)
    (q : ∀ H' lay' kn li, SF H lay s H' lay' (backS s h p kn li) → TD N (backS s h p kn li) → Q .none H') : spN tab02 (n + 1) 4 [.ref a, .int h] H Q := by
  have hlt : h < s.be.length := (List.getElem?_eq_some_iff.mp hp).1
  have hsz : N < sz := Nat.lt_trans hN (by decide)
  refine sp_go rfl rfl (s_seq (s_ite (b := true) (pvb rfl (pvb (len_pv (So.a_ ha rfl rfl) (ln_nz (So.at_ .be trivial))) (pcm (show some _ = some _ by rw [decide_eq_true]; lia)))) (fun _ => ?_) fun h => by cases h))
  refine s_seq (s_whK (fun k m H' => Ex3 fun w kn li => An5 (m = [.ref a, .int h, w]) (p ≤ k) (k ≤ s.ro.length) (SF H lay s H' lay (bk s (s.ro.take k) kn li)) (TD N (bk s (s.ro.take k) kn li))) s.ro.length ⟨.un, s.kn, s.li, rfl, hpl, Nat.le_refl _, by rw [List.take_length]; exact .refl So, by rw [List.take_length]; exact T⟩ fun k m H1 KW hI hW => ?_)
  refine nn fun hC => ?_
  obtain ⟨w, kn, li, rfl, h1, h2, h3, h4⟩ := hI
  refine hC ?_
  have hlen : (s.ro.take k).length = k := by rw [List.length_take]; lia
  refine ⟨decide (p < k), pvb (len_pv (h3.1.a_ ha rfl rfl) (ln_zs (h3.1.at_ .ro trivial))) (pvb (pvb (h3.1.a_ ha rfl rfl) (pvb rfl (sb_l (h3.1.at_ .be trivial) (idx_nat (nz_get hp))))) (pcm (show some (decide ((p : Int) < ((s.ro.take k).length : Int))) = _ by rw [hlen]; congr 1; exact decide_eq_decide.mpr (by lia)))), fun hd => ?_, fun hd => ?_⟩
  · have hd : p < k := of_decide_eq_true hd
    obtain ⟨j, rfl⟩ : ∃ j, k = j + 1 := ⟨k - 1, by lia⟩
    have hj : j < s.ro.length := by lia
    have e1 : s.ro.take (j + 1) = s.ro.take j ++ [s.ro[j]] := by rw [List.take_add_one, List.getElem?_eq_getElem hj]; rfl
    have hro := h3.1.at_ .ro trivial
    have hro : H1 (lay .ro) = some (.lst (zs (s.ro.take j) ++ [.int s.ro[j]])) := by
      rw [hro]
      show some (O.lst (zs (s.ro.take (j + 1)))) = _
      rw [e1, zs_app]; rfl
    have T' := h4.pop e1
    have u1 := u_ro h3.1 (s.ro.take j)
    have hg : get kn ((s.ro[j].natAbs : Nat) : Int) = some (.bool (decide (0 < s.ro[j]))) := (h4.kn _ _).mpr ⟨s.ro[j], by show _ ∈ s.ro.take (j + 1); rw [e1]; exact List.mem_append_right _ (List.mem_singleton.mpr rfl), rfl, rfl⟩
    have u2 := u_kn u1.1 (rem kn s.ro[j].natAbs)
    have u3 := u_li u2.1 (put li s.ro[j].natAbs (.bool (decide (0 < s.ro[j]))))
    refine s_seq (s_asg (e_bi (e_cons (bm_l (h3.1.a_ ha rfl rfl) hro rfl (e_nil (pop_ok hro (e_nil ?_)))))))
    refine s_seq (s_setIE (bm_d (u1.1.a_ ha rfl rfl) (u1.1.at_ .kn trivial) rfl (e_cons (pv_ok (.loc 2) (.int s.ro[j].natAbs) _ rfl (e_nil (dpop1_ok (u1.1.at_ .kn trivial) hg (pv_ok (.attr (.loc 0) 6) (.ref (lay .li)) _ (u2.1.a_ ha rfl rfl) (pv_ok (.loc 2) (.int s.ro[j].natAbs) _ rfl (setI_d (u2.1.at_ .li trivial) ?_ (s_skip (hW j _ _ (Nat.lt_succ_self _) ⟨_, _, _, rfl, Nat.le_of_lt_succ hd, Nat.le_of_lt hj, h3.trans (u1.trans (u2.trans u3)), T'⟩)))))))))))
    exact Nat.lt_of_le_of_lt h4.lK.len hsz
  · have hd : ¬ p < k := of_decide_eq_false hd
    obtain rfl : k = p := by lia
    refine s_seq (s_setE (sl_hi (h3.1.a_ ha rfl rfl) (h3.1.at_ .be trivial) (k := h) rfl fun y hy => attS_ok (h3.1.junk hy) ha ?_))
    have u1 := n_be h3.1 y hy (s.be.take h)
    rw [show (nz (bk s (s.ro.take k) kn li).be).take h = nz (s.be.take h) from List.map_take.symm]
    have u2 := u_seen u1.1 k
    refine s_seq (s_setA (v := .int k) u1.1 (u1.ins ha) rfl (len_pv (u1.1.a_ (u1.ins ha) rfl rfl) ?_) (s_skip (s_skip (q _ _ _ _ (h3.trans (u1.trans u2)) ⟨h4.nz, h4.nd, h4.kn, h4.kK, h4.hK, h4.cK, h4.lK, h4.lB⟩))))
    rw [ln_zs (u1.1.at_ .ro trivial)]
    show some (V.int ((s.ro.take k).length : Int)) = _
    rw [hlen]
end
end Mine
end
section
open PySem PySem.W
namespace Mine
section
variable {n : Nat} {H : AH} {lay : Ro → Addr} {s : St} {a : Addr} {Q : V → AH → Prop}
theorem eq_ii {H : AH} {i j : Int} : cmpV H .eq (.int i) (.int j) = some (decide (i = j)) := by
  show some (i == j) = _
  congr 1
theorem s_says {m r : List V} (So : Sol H lay s) (ha : lay .ins = a) (K : KnOK s) (hm : m = .ref a :: r) {op : Cm} {x : X} {w : V} {l : Int} {b : Bool} {P : List V → AH → Prop} {R : V → AH → Prop} {t u : S} (hx : x.pv m H = some (.int l)) (hc : cmpV H op (sayV s l) w = some b)
    (h1 : b = true → t.wp (spN tab02 (n + 1)) m H P R) (h2 : b = false → u.wp (spN tab02 (n + 1)) m H P R) : (S.ite (.cmp op (.callM 2 (.loc 0) [x]) (.c w)) t u).wp (spN tab02 (n + 1)) m H P R := by
  refine (cm_ok (xs := [x]) (P := fun v H => ifS (cmpV H op v w) fun b => ifB (.bool b) (t.wp (spN tab02 (n + 1)) m H P R) (u.wp (spN tab02 (n + 1)) m H P R)) So ha hm (e_cons (pv_ok x _ _ hx (e_nil (c_says So ha K (ifS_mk hc ?_))))) : (X.callM 2 (.loc 0) [x]).ev (spN tab02 (n + 1)) m H _)
  cases b
  · exact h2 rfl
  · exact h1 rfl
theorem s_rng {sp : Sp} {m : List V} {i : Nat} {x y : X} {b : S} {lo hi : Int} {P : List V → AH → Prop} {R : V → AH → Prop} (hx : x.pv m H = some (.int lo)) (hy : y.pv m H = some (.int hi)) (b1 : -big ≤ lo ∧ lo < big) (b2 : -big ≤ hi ∧ hi < big)
    (h : floop (fun _ => True) (fun v m H Q R => b.wp sp (m.set i v) H Q R) (rngL lo hi) m H P (fun v H => True ∧ R v H)) : (S.for_ i (.rng x y) b).wp sp m H P R := by
  exact pv_ok x _ (fun v H => y.ev sp m H fun w H => ifS v.i? fun i => ifS w.i? fun j => _) hx (pv_ok y _ _ hy (ifS_mk (x := lo) rfl (ifS_mk (x := hi) rfl ⟨b1.1, b1.2, b2.1, b2.2, h⟩)))
theorem rng_at {lo hi : Int} {i : Nat} {v : V} (h : (rngL lo hi)[i]? = some v) : v = .int (lo + i) ∧ i < (hi - lo).toNat := by
  unfold rngL at h
  rw [List.getElem?_map] at h
  obtain ⟨k, hk, rfl⟩ := Option.map_eq_some_iff.mp h
  obtain ⟨h2, h3⟩ := List.getElem?_eq_some_iff.mp hk
  rw [List.getElem_range] at h3
  subst h3
  rw [List.length_range] at h2
  exact ⟨rfl, h2⟩
theorem rng_len {lo hi : Int} : (rngL lo hi).length = (hi - lo).toNat := by unfold rngL; rw [List.length_map, List.length_range]
theorem zs_set {l : List Int} {i : Nat} {x : Int} : (zs l).set i (.int x) = zs (l.set i x) := by unfold zs; rw [List.map_set]
theorem setRow_same {s : St} {k : Nat} {c : List Int} (h : s.rows[k]? = some c) : s.setRow k c = s := by
  unfold St.setRow
  have : s.rows.set k c = s.rows := by
    obtain ⟨h1, h2⟩ := List.getElem?_eq_some_iff.mp h
    rw [← h2]; exact List.set_getElem_self h1
  rw [this]
theorem setRow_two {s : St} {k : Nat} {c d : List Int} : (s.setRow k c).setRow k d = s.setRow k d := by
  unfold St.setRow
  show { s with rows := (s.rows.set k c).set k d } = _
  rw [List.set_set]
theorem setRow_at {s : St} {k : Nat} {c : List Int} (h : k < s.rows.length) : (s.setRow k c).rows[k]? = some c := by
  show (s.rows.set k c)[k]? = _
  rw [List.getElem?_set_self h]
theorem Sol.row (So : Sol H lay s) {k : Nat} {c : List Int} (h : s.rows[k]? = some c) : H (lay (.cl k)) = some (.lst (zs c)) := by
  have h1 := (List.getElem?_eq_some_iff.mp h).1
  have := So.at_ (.cl k) h1
  rw [this]
  show some (O.lst (zs (s.rows.getD k []))) = _
  rw [List.getD_eq_getElem?_getD, h]; rfl
theorem ref_row (So : Sol H lay s) (ha : lay .ins = a) {r : List V} {x : X} {k : Nat} (h : k < s.rows.length) (hx : x.pv (.ref a :: r) H = some (.int k)) : (X.sub (.attr (.loc 0) 7) x).pv (.ref a :: r) H = some (.ref (lay (.cl k))) :=
  pvb (So.a_ ha rfl rfl) (pvb hx (sb_l (So.at_ .rs trivial) (idx_nat (refs_get h))))
theorem s_swp {m : List V} {sp : Sp} (So : Sol H lay s) {k : Nat} {c : List Int} (hk : s.rows[k]? = some c) {i j : Nat} (hi : i < c.length) (hj : j < c.length) {x y o i1 i2 : X} {u w : Int} (hx : x.pv m H = some (.int u)) (hy : y.pv m H = some (.int w))
    (ho : ∀ H, o.pv m H = some (.ref (lay (.cl k)))) (h1 : ∀ H, i1.pv m H = some (.int i)) (h2 : ∀ H, i2.pv m H = some (.int j)) {P : List V → AH → Prop} {R : V → AH → Prop}
    (q : ∀ H', SF H lay s H' lay (s.setRow k ((c.set i u).set j w)) → P m H') : (S.swap o i1 o i2 x y).wp sp m H P R := by
  have hlt := (List.getElem?_eq_some_iff.mp hk).1
  have hrow := So.row hk
  have u1 := u_row So hlt (c.set i u)
  have hrow1 := u1.1.row (setRow_at hlt)
  have hlt1 : k < (s.setRow k (c.set i u)).rows.length := by
    show k < (s.rows.set k _).length
    rw [List.length_set]; exact hlt
  have u2 := u_row u1.1 hlt1 ((c.set i u).set j w)
  rw [setRow_two] at u2
  refine pv_ok x _ _ hx (pv_ok y _ _ hy (pv_ok o _ _ (ho _) (pv_ok i1 _ _ (h1 _) (setI_l hrow (by rw [zs_len]; exact hi) ?_))))
  rw [zs_set]
  refine pv_ok o _ _ (ho _) (pv_ok i2 _ _ (h2 _) (setI_l hrow1 (by rw [zs_len, List.length_set]; exact hj) ?_))
  rw [zs_set]
  exact q _ (u1.trans u2)
theorem c_moved (So : Sol H lay s) (ha : lay .ins = a) (K : KnOK s) {k : Nat} {c rest : List Int} {lit w : Int} (hk : s.rows[k]? = some c) (hc : c = lit :: w :: rest ∨ c = w :: lit :: rest) (hw : w ≠ lit) (hlen : c.length < sz) (hz : s.wks.length < sz) (hz2 : ∀ l, (wg s l).length < sz)
    (q1 : sayV s w = .bool true → ∀ H', SF H lay s H' lay (s.setRow k (w :: lit :: rest)) → Q (.bool false) H')
    (q2 : sayV s w ≠ .bool true → (∀ x ∈ rest, sayV s x = .bool false) → ∀ H', SF H lay s H' lay (s.setRow k (w :: lit :: rest)) → Q (.bool false) H')
    (q3 : ∀ i x, rest[i]? = some x → sayV s x ≠ .bool false → ∀ H' lay', (∀ r, use s r → lay' r = lay r) → SF H lay s H' lay' (addW (s.setRow k (w :: x :: rest.set i lit)) x k) → Q (.bool true) H') : spN tab02 (n + 2) 10 [.ref a, .int k, .int lit] H Q := by
  have hlt := (List.getElem?_eq_some_iff.mp hk).1
  refine sp_go rfl rfl (s_seq (s_asg (pv_ok _ _ _ (ref_row So ha hlt rfl) ?_)))
  suffices hmain : ∀ H', SF H lay s H' lay (s.setRow k (w :: lit :: rest)) → (S.seq (.ite (.cmp .eq (.callM 2 (.loc 0) [(.sub (.loc 3) (.c (.int 0)))]) (.c (.bool true))) (.seq (.ret (.c (.bool false))) .skip) .skip) (.seq (.for_ 4 (.rng (.c (.int 2)) (.bi .len [(.loc 3)])) (.seq (.ite (.cmp .ne (.callM 2 (.loc 0) [(.sub (.loc 3) (.loc 4))]) (.c (.bool false))) (.seq (.swap (.loc 3) (.c (.int 1)) (.loc 3) (.loc 4) (.sub (.loc 3) (.loc 4)) (.loc 2)) (.seq (.ex (.bm .append (.bm .setdef (.attr (.loc 0) 8) [(.sub (.loc 3) (.c (.int 1))), (.list [])]) [(.loc 1)])) (.seq (.ret (.c (.bool true))) .skip))) .skip) .skip)) (.seq (.ret (.c (.bool false))) .skip))).wp (spN tab02 (n + 1)) [.ref a, .int k, .int lit, .ref (lay (.cl k)), .un] H' (fun _ H => Q .none H) Q by
    have hrow := So.row hk
    rcases hc with rfl | rfl
    · refine s_seq (s_ite (b := true) (pvb (pvb rfl (pvb rfl (sb_l (n := 0) hrow rfl))) (pvb rfl (pcm (eq_ii.trans (by rw [decide_eq_true rfl]))))) (fun _ => ?_) fun h => by cases h)
      exact s_seq (s_swp So hk (i := 0) (j := 1) (u := w) (w := lit) (by simp) (by simp) (by exact pvb rfl (pvb rfl (sb_l (n := 1) hrow rfl))) rfl (fun _ => rfl) (fun _ => rfl) (fun _ => rfl) fun H' h => s_skip (hmain H' h))
    · refine s_seq (s_ite (b := false) (pvb (pvb rfl (pvb rfl (sb_l (n := 0) hrow rfl))) (pvb rfl (pcm (eq_ii.trans (by rw [decide_eq_false hw]))))) (fun h => by cases h) fun _ => s_skip (hmain H ?_))
      rw [setRow_same hk]; exact .refl So
  intro H1 h1
  have hrow := h1.1.row (setRow_at hlt)
  have hlen' : (w :: lit :: rest).length = c.length := by rcases hc with rfl | rfl <;> rfl
  have hret : ∀ {P : List V → AH → Prop} {R : V → AH → Prop} {m : List V} {b : Bool}, R (.bool b) H1 → (S.seq (.ret (.c (.bool b))) .skip).wp (spN tab02 (n + 1)) m H1 P R := fun r => s_seq (s_ret (pv_ok (.c (.bool _)) _ _ rfl r))
  have hbig : ∀ {k : Nat}, k < sz → -big ≤ (k : Int) ∧ (k : Int) < big := fun h => ⟨by unfold big; lia, by unfold big; unfold sz at h; lia⟩
  refine s_seq (s_says (l := w) (b := decide (sayV s w = .bool true)) h1.1 ha K rfl (pvb rfl (pvb rfl (sb_l (n := 0) hrow rfl))) ?_ (fun hd => hret (q1 (of_decide_eq_true hd) _ h1)) fun hd => ?_)
  · show cmpV H1 .eq (sayV s w) (.bool true) = _
    rcases say_kinds s w with e | e | e <;> rw [e] <;> rfl
  have hd := of_decide_eq_false hd
  refine s_skip (s_seq (s_rng (lo := 2) (hi := c.length) rfl (len_pv rfl (by rw [ln_zs hrow, hlen'])) (by decide) (hbig hlen) ?_))
  refine floop_ind (fun i m H' => ∃ z, An3 (m = [.ref a, .int k, .int lit, .ref (lay (.cl k)), z]) (H' = H1) (∀ j x, j < i → rest[j]? = some x → sayV s x = .bool false)) _ (fun i v m H' K' hv hI hK => ?_) (fun m H' hI => ?_) ⟨.un, rfl, rfl, fun j x h => absurd h (Nat.not_lt_zero _)⟩
  · obtain ⟨z, rfl, rfl, hI⟩ := hI
    obtain ⟨rfl, hi⟩ := rng_at hv
    have hi : i < rest.length := by
      rw [← hlen'] at hi
      simp only [List.length_cons] at hi
      lia
    have e2 : (2 : Int) + (i : Int) = ((2 + i : Nat) : Int) := by lia
    have hx : rest[i]? = some rest[i] := List.getElem?_eq_getElem hi
    have hget : (w :: lit :: rest)[2 + i]? = some rest[i] := by
      rw [show 2 + i = i + 1 + 1 by lia, List.getElem?_cons_succ, List.getElem?_cons_succ]; exact hx
    refine ⟨trivial, s_seq (s_says (l := rest[i]) (b := decide (sayV s rest[i] ≠ .bool false)) h1.1 ha K rfl (by exact pvb rfl (pvb rfl (sb_l hrow (by rw [e2]; exact idx_nat (zs_get hget))))) ?_ (fun hd => ?_) fun hd => s_skip (s_skip (hK _ _ ⟨_, rfl, rfl, fun j x hj hjx => ?_⟩)))⟩
    · show cmpV H' .ne (sayV s rest[i]) (.bool false) = _
      rcases say_kinds s rest[i] with e | e | e <;> rw [e] <;> rfl
    · refine s_seq (s_swp h1.1 (setRow_at hlt) (i := 1) (j := 2 + i) (u := rest[i]) (w := lit) (by simp) (by simp only [List.length_cons]; lia) (by exact pvb rfl (pvb rfl (sb_l hrow (by rw [e2]; exact idx_nat (zs_get hget))))) rfl (fun _ => rfl) (fun _ => rfl) (fun _ => by rw [← e2]; rfl) fun H2 h2 => ?_)
      rw [setRow_two] at h2
      have e3 : ((w :: lit :: rest).set 1 rest[i]).set (2 + i) lit = w :: rest[i] :: rest.set i lit := by
        rw [show 2 + i = i + 1 + 1 by lia]; rfl
      rw [e3] at h2
      have hrow2 := h2.1.row (setRow_at hlt)
      have h12 := h1.trans h2
      have hus : ∀ r, use s r → use (s.setRow k (w :: rest[i] :: rest.set i lit)) r := fun r u => by
        cases r <;> first | exact u | skip
        rename_i kk
        show kk < (s.rows.set k _).length
        rw [List.length_set]; exact u
      exact s_seq (s_ex (w_add (w := rest[i]) (k := k) h2.1 ha rfl (by exact pvb rfl (pvb rfl (sb_l (n := 1) hrow2 rfl))) (fun _ _ _ _ _ => rfl) hz (hz2 _) fun H3 lay3 hl3 h3 => s_seq (s_ret (pv_ok (.c (.bool true)) _ _ rfl ⟨trivial, q3 i _ hx (of_decide_eq_true hd) H3 lay3 (fun r u => hl3 r (hus r u)) (h12.trans h3)⟩))))
    · have hd := of_decide_eq_false hd
      rcases Nat.lt_succ_iff_lt_or_eq.mp hj with hj | rfl
      · exact hI j x hj hjx
      · rw [hx] at hjx
        cases hjx
        exact Decidable.not_not.mp hd
  · refine nn fun hC => ?_
    obtain ⟨z, rfl, rfl, hI⟩ := hI
    refine hC ?_
    refine ⟨trivial, hret (q2 hd (fun x hx => ?_) _ h1)⟩
    obtain ⟨j, hj, rfl⟩ := List.getElem_of_mem hx
    refine hI j _ ?_ (List.getElem?_eq_getElem hj)
    rw [rng_len, ← hlen']
    simp only [List.length_cons]
    lia
end
end Mine
end
section
open PySem PySem.W
set_option tactic.hygienic false
namespace Mine
noncomputable def ltr (α : Nat → Bool) (l : Int) : Prop := α l.natAbs = decide (0 < l)
noncomputable def Sat (α : Nat → Bool) (c : List Int) : Prop := ∃ l ∈ c, ltr α l
theorem ltr_neg {α : Nat → Bool} {l : Int} (h : l ≠ 0) : ltr α (-l) ↔ ¬ ltr α l := by
  unfold ltr
  rw [Int.natAbs_neg]
  have : decide (0 < -l) = !decide (0 < l) := by
    by_cases h2 : 0 < l
    · rw [decide_eq_true h2, decide_eq_false (by lia)]; rfl
    · rw [decide_eq_false h2, decide_eq_true (by lia)]; rfl
  rw [this]
  cases α l.natAbs <;> cases decide (0 < l) <;> simp
noncomputable def lvl (be : List Nat) (i : Nat) : Nat := (be.filter fun b => decide (b ≤ i)).length
section
variable {be : List Nat}
theorem lvl_le {i : Nat} : lvl be i ≤ be.length := List.length_filter_le ..
theorem lvl_mono {i j : Nat} (h : i ≤ j) : lvl be i ≤ lvl be j := by
  unfold lvl
  induction be with
  | nil => exact Nat.le_refl _
  | cons b be ih =>
    rw [List.filter_cons, List.filter_cons]
    by_cases hb : b ≤ i
    · rw [if_pos (decide_eq_true hb), if_pos (decide_eq_true (Nat.le_trans hb h))]
      exact Nat.succ_le_succ ih
    · rw [if_neg (by simp [hb])]
      split
      · exact Nat.le_succ_of_le ih
      · exact ih
theorem lvl_all {i : Nat} (h : ∀ b ∈ be, b ≤ i) : lvl be i = be.length := by
  unfold lvl
  rw [List.filter_eq_self.mpr fun b hb => decide_eq_true (h b hb)]
theorem lvl_app {be' : List Nat} {i : Nat} : lvl (be ++ be') i = lvl be i + lvl be' i := by
  unfold lvl
  rw [List.filter_append, List.length_append]
theorem lvl_none {i : Nat} (h : ∀ b ∈ be, i < b) : lvl be i = 0 := by
  unfold lvl
  rw [List.filter_eq_nil_iff.mpr fun b hb => by have := h b hb; simp; lia]; rfl
theorem srt_drop {h p : Nat} (s : be.Pairwise (· ≤ ·)) (hp : be[h]? = some p) : ∀ b ∈ be.drop h, p ≤ b := by
  intro b hb
  obtain ⟨hl, rfl⟩ := List.getElem?_eq_some_iff.mp hp
  rw [List.drop_eq_getElem_cons hl] at hb
  rcases List.mem_cons.mp hb with rfl | hb
  · exact Nat.le_refl _
  · have := s.sublist (List.drop_sublist h be)
    rw [List.drop_eq_getElem_cons hl] at this
    exact (List.pairwise_cons.mp this).1 b hb
theorem srt_take {h p : Nat} (s : be.Pairwise (· ≤ ·)) (hp : be[h]? = some p) : ∀ b ∈ be.take h, b ≤ p := by
  intro b hb
  obtain ⟨hl, rfl⟩ := List.getElem?_eq_some_iff.mp hp
  have s' := s
  rw [← List.take_append_drop h be, List.pairwise_append] at s'
  exact s'.2.2 b hb _ (by rw [List.drop_eq_getElem_cons hl]; exact List.mem_cons_self ..)
theorem lvl_take {h p i : Nat} (s : be.Pairwise (· ≤ ·)) (hp : be[h]? = some p) (hi : i < p) : lvl (be.take h) i = lvl be i := by
  have e : lvl be i = lvl (be.take h ++ be.drop h) i := by rw [List.take_append_drop]
  rw [e, lvl_app, lvl_none fun b hb => Nat.lt_of_lt_of_le hi (srt_drop s hp b hb)]; rfl
theorem lvl_lt {h p i : Nat} (s : be.Pairwise (· ≤ ·)) (hp : be[h]? = some p) : lvl be i ≤ h ↔ i < p := by
  obtain ⟨hl, _⟩ := List.getElem?_eq_some_iff.mp hp
  have e : lvl be i = lvl (be.take h ++ be.drop h) i := by rw [List.take_append_drop]
  constructor
  · intro q
    rcases Nat.lt_or_ge i p with h' | h'
    · exact h'
    · exfalso
      have h1 : lvl (be.take h) i = h := by
        rw [lvl_all fun b hb => Nat.le_trans (srt_take s hp b hb) h', List.length_take]; lia
      have h2 : 0 < lvl (be.drop h) i := by
        unfold lvl
        rw [List.length_pos_iff]
        intro h3
        rw [List.filter_eq_nil_iff] at h3
        obtain ⟨hl, rfl⟩ := List.getElem?_eq_some_iff.mp hp
        refine h3 be[h] (by rw [List.drop_eq_getElem_cons hl]; exact List.mem_cons_self ..) ?_
        exact decide_eq_true h'
      rw [e, lvl_app] at q
      lia
  · intro q
    rw [← lvl_take s hp q]
    exact Nat.le_trans lvl_le (by rw [List.length_take]; exact Nat.min_le_left ..)
end
noncomputable def RowOK (N : Nat) (c : List Int) : Prop := 2 ≤ c.length ∧ (c.map Int.natAbs).Nodup ∧ ∀ x ∈ c, x ≠ 0 ∧ x.natAbs ≤ N
noncomputable def wch (c : List Int) (l : Int) : Prop := c[0]? = some l ∨ c[1]? = some l
noncomputable def Pair (c : List Int) (w w' : Int) : Prop := (c[0]? = some w ∧ c[1]? = some w') ∨ (c[1]? = some w ∧ c[0]? = some w')
noncomputable def Wat (s : St) (k : Nat) (l : Int) : Prop := ∃ c, s.rows[k]? = some c ∧ wch c l
noncomputable def CauseAt (s : St) (i : Nat) (l : Int) : Prop := (get s.ca l.natAbs = some .none ∧ (lvl s.be i = 0 ∨ i ∈ s.be)) ∨
  Ex2 fun (k : Nat) (c : List Int) => An4 (get s.ca l.natAbs = some (.int k)) (s.rows[k]? = some c) (l ∈ c) (∀ x ∈ c, x ≠ l → -x ∈ s.ro.take i)
structure Core (N : Nat) (M : (Nat → Bool) → Prop) (s : St) : Prop where
  td : TD N s
  he : ∀ (i : Nat) (l : Int), s.ro[i]? = some l → get s.he l.natAbs = some (.int (lvl s.be i))
  ca : ∀ (i : Nat) (l : Int), s.ro[i]? = some l → CauseAt s i l
  srt : s.be.Pairwise (· ≤ ·)
  bs : ∀ b ∈ s.be, b ≤ s.seen
  sl : s.seen ≤ s.ro.length
  rk : ∀ c ∈ s.rows, RowOK N c
  rM : ∀ c ∈ s.rows, ∀ α, M α → Sat α c
  zM : ∀ (i : Nat) (l : Int), s.ro[i]? = some l → lvl s.be i = 0 → ∀ α, M α → ltr α l
  ht : HtOK N s.ht
  wn : s.wks.Nodup
  wr : ∀ l ∈ s.wks, l ≠ 0 ∧ l.natAbs ≤ N
  lim : s.lim = 0
noncomputable def Cv (M : (Nat → Bool) → Prop) (s : St) : Prop := ∀ α, (∀ c ∈ s.rows, Sat α c) → (∀ (i : Nat) (l : Int), s.ro[i]? = some l → lvl s.be i = 0 → ltr α l) → M α
structure WI (s : St) : Prop where
  iff : ∀ k l, k ∈ wg s l ↔ Wat s k l
  nd : ∀ l, (wg s l).Nodup
noncomputable def PR (s : St) (p : Nat) : Prop := ∀ (k : Nat) (c : List Int) (w w' : Int), s.rows[k]? = some c → Pair c w w' → ∀ i < p, s.ro[i]? = some (-w) → ∃ j, s.ro[j]? = some w' ∧ lvl s.be j ≤ lvl s.be i
section
variable {N : Nat} {M : (Nat → Bool) → Prop} {s : St}
theorem Core.kb (C : Core N M s) : ∀ b ∈ s.be, b ≤ s.ro.length := fun b hb => Nat.le_trans (C.bs b hb) C.sl
theorem Core.wlen (C : Core N M s) : s.wks.length ≤ 2 * N := by
  have h1 := nodup_le (r := (oneTo N) ++ (oneTo N).map fun x => -x) C.wn fun l hl => by
    obtain ⟨h0, h2⟩ := C.wr l hl
    rw [List.mem_append]
    by_cases h : 0 < l
    · exact .inl (mem_oneTo.mpr ⟨by lia, by lia⟩)
    · exact .inr (List.mem_map.mpr ⟨-l, mem_oneTo.mpr ⟨by lia, by lia⟩, by lia⟩)
  rw [List.length_append, List.length_map, oneTo_len] at h1
  lia
theorem Core.sz (C : Core N M s) (hN : N < 1000) : Sz s := by
  have h : N < Mine.sz := Nat.lt_trans hN (by decide)
  exact ⟨Nat.lt_of_le_of_lt C.td.kK.len h, Nat.lt_of_le_of_lt C.td.hK.len h, Nat.lt_of_le_of_lt C.td.cK.len h, Nat.lt_of_le_of_lt C.td.len h⟩
theorem WI.len (W : WI s) {l : Int} : (wg s l).length ≤ s.rows.length := by
  have := nodup_le (r := List.range s.rows.length) (W.nd l) fun k hk => by
    obtain ⟨c, hc, _⟩ := (W.iff k l).mp hk
    exact List.mem_range.mpr (List.getElem?_eq_some_iff.mp hc).1
  rwa [List.length_range] at this
theorem row_len (h : ∀ c ∈ s.rows, RowOK N c) {k : Nat} {c : List Int} (hk : s.rows[k]? = some c) : c.length ≤ N := by
  obtain ⟨_, h2, h3⟩ := h c (List.mem_of_getElem? hk)
  have := nodup_le (r := (List.range N).map (· + 1)) h2 fun x hx => by
    obtain ⟨l, hl, rfl⟩ := List.mem_map.mp hx
    have := h3 l hl
    exact List.mem_map.mpr ⟨l.natAbs - 1, List.mem_range.mpr (by lia), by lia⟩
  rwa [List.length_map, List.length_map, List.length_range] at this
theorem at_app {l x : Int} {i : Nat} (h : (s.ro ++ [l])[i]? = some x) : s.ro[i]? = some x ∨ (i = s.ro.length ∧ x = l) := by
  rcases Nat.lt_or_ge i s.ro.length with h' | h'
  · rw [List.getElem?_append_left h'] at h; exact .inl h
  · have h2 := (List.getElem?_eq_some_iff.mp h).1
    rw [List.length_append, List.length_singleton] at h2
    obtain rfl : i = s.ro.length := by lia
    rw [List.getElem?_concat_length] at h
    cases h; exact .inr ⟨rfl, rfl⟩
theorem app_at {l x : Int} {i : Nat} (h : s.ro[i]? = some x) : (s.ro ++ [l])[i]? = some x := by
  rw [List.getElem?_append_left (List.getElem?_eq_some_iff.mp h).1]; exact h
theorem Core.let_ (C : Core N M s) {l : Int} {v : V} (h0 : l ≠ 0) (hl : l.natAbs ≤ N) (hn : ∀ x ∈ s.ro, x.natAbs ≠ l.natAbs)
    (hc : (v = .none ∧ (s.be.length = 0 ∨ s.ro.length ∈ s.be)) ∨ Ex2 fun (k : Nat) (c : List Int) => An4 (v = .int k) (s.rows[k]? = some c) (l ∈ c) (∀ x ∈ c, x ≠ l → -x ∈ s.ro))
    (hz : s.be.length = 0 → ∀ α, M α → ltr α l) : Core N M (letS s l v) := by
  have hlv : lvl s.be s.ro.length = s.be.length := lvl_all C.kb
  have hne : ∀ (i : Nat) (x : Int), s.ro[i]? = some x → ((x.natAbs : Nat) : Int) ≠ l.natAbs := fun i x h e => hn x (List.mem_of_getElem? h) (by exact_mod_cast e)
  have hlt : ∀ (i : Nat) (x : Int), s.ro[i]? = some x → (s.ro ++ [l]).take i = s.ro.take i := fun i x h => by
    rw [List.take_append_of_le_length (Nat.le_of_lt (List.getElem?_eq_some_iff.mp h).1)]
  refine ⟨C.td.let_ h0 hl hn, fun i x hx => ?_, fun i x hx => ?_, C.srt, C.bs, ?_, C.rk, C.rM, fun i x hx hi => ?_, C.ht, C.wn, C.wr, C.lim⟩
  · show get (put s.he l.natAbs (.int s.be.length)) x.natAbs = some (.int (lvl s.be i))
    rw [get_put]
    rcases at_app hx with hx | ⟨rfl, rfl⟩
    · rw [if_neg (hne i x hx)]; exact C.he i x hx
    · rw [if_pos rfl, hlv]
  · rcases at_app hx with hx | ⟨rfl, rfl⟩
    · rcases C.ca i x hx with ⟨h1, h2⟩ | ⟨k, c, h1, h2, h3, h4⟩
      · refine .inl ⟨?_, h2⟩
        show get (put s.ca l.natAbs v) x.natAbs = _
        rw [get_put, if_neg (hne i x hx)]; exact h1
      · refine .inr ⟨k, c, ?_, h2, h3, fun y hy hyx => ?_⟩
        · show get (put s.ca l.natAbs v) x.natAbs = _
          rw [get_put, if_neg (hne i x hx)]; exact h1
        · show -y ∈ (s.ro ++ [l]).take i
          rw [hlt i x hx]; exact h4 y hy hyx
    · have e : get (put s.ca x.natAbs v) x.natAbs = some v := by rw [get_put, if_pos rfl]
      rcases hc with ⟨rfl, h⟩ | ⟨k, c, rfl, h1, h2, h3⟩
      · exact .inl ⟨e, h.imp (fun h => by show lvl s.be s.ro.length = 0; rw [hlv]; exact h) id⟩
      · refine .inr ⟨k, c, e, h1, h2, fun y hy hyx => ?_⟩
        show -y ∈ (s.ro ++ [x]).take s.ro.length
        rw [List.take_left']
        · exact h3 y hy hyx
        · rfl
  · show s.seen ≤ (s.ro ++ [l]).length
    rw [List.length_append]; exact Nat.le_add_right_of_le C.sl
  · rcases at_app hx with hx | ⟨rfl, rfl⟩
    · exact C.zM i x hx hi
    · exact hz (by rw [← hlv]; exact hi)
theorem Cv.let_ (h : Cv M s) {l : Int} {v : V} : Cv M (letS s l v) := fun α h1 h2 => h α h1 fun i x hx hi => h2 i x (app_at hx) hi
theorem PR.let_ {p : Nat} (h : PR s p) (hp : p ≤ s.ro.length) {l : Int} {v : V} : PR (letS s l v) p := fun k c w w' hk hc i hi hx => by
  have hx : s.ro[i]? = some (-w) := by
    rcases at_app hx with hx | ⟨rfl, _⟩
    · exact hx
    · lia
  obtain ⟨j, h1, h2⟩ := h k c w w' hk hc i hi hx
  exact ⟨j, app_at h1, h2⟩
theorem rows_set {k k' : Nat} {c c' : List Int} (h : (s.rows.set k c')[k']? = some c) : (k' = k ∧ c = c') ∨ (k' ≠ k ∧ s.rows[k']? = some c) := by
  by_cases e : k' = k
  · subst e
    have h2 := (List.getElem?_eq_some_iff.mp h).1
    rw [List.length_set] at h2
    rw [List.getElem?_set_self h2] at h
    cases h; exact .inl ⟨rfl, rfl⟩
  · rw [List.getElem?_set_ne fun q => e q.symm] at h; exact .inr ⟨e, h⟩
theorem rows_mem {k : Nat} {c c' : List Int} (h : c ∈ s.rows.set k c') : c = c' ∨ c ∈ s.rows := (List.mem_or_eq_of_mem_set h).symm
theorem Core.row (C : Core N M s) {k : Nat} {c c' : List Int} (hk : s.rows[k]? = some c) (hp : c'.Perm c) : Core N M (s.setRow k c') := by
  have hc := List.mem_of_getElem? hk
  refine ⟨⟨C.td.nz, C.td.nd, C.td.kn, C.td.kK, C.td.hK, C.td.cK, C.td.lK, C.td.lB⟩, C.he, fun i l hl => ?_, C.srt, C.bs, C.sl, fun d hd => ?_, fun d hd α hα => ?_, C.zM, C.ht, C.wn, C.wr, C.lim⟩
  · rcases C.ca i l hl with h | ⟨k2, c2, h1, h2, h3, h4⟩
    · exact .inl h
    · by_cases e : k2 = k
      · subst e
        rw [hk] at h2; cases h2
        exact .inr ⟨k2, c', h1, setRow_at (List.getElem?_eq_some_iff.mp hk).1, hp.mem_iff.mpr h3, fun x hx => h4 x (hp.mem_iff.mp hx)⟩
      · refine .inr ⟨k2, c2, h1, ?_, h3, h4⟩
        show (s.rows.set k c')[k2]? = _
        rw [List.getElem?_set_ne fun q => e q.symm]; exact h2
  · rcases rows_mem hd with rfl | hd
    · obtain ⟨h1, h2, h3⟩ := C.rk c hc
      exact ⟨by rw [hp.length_eq]; exact h1, (hp.map _).nodup_iff.mpr h2, fun x hx => h3 x (hp.mem_iff.mp hx)⟩
    · exact C.rk d hd
  · rcases rows_mem hd with rfl | hd
    · obtain ⟨l, h1, h2⟩ := C.rM c hc α hα
      exact ⟨l, hp.mem_iff.mpr h1, h2⟩
    · exact C.rM d hd α hα
theorem Cv.row (h : Cv M s) {k : Nat} {c c' : List Int} (hk : s.rows[k]? = some c) (hp : c'.Perm c) : Cv M (s.setRow k c') := fun α h1 h2 => h α (fun d hd => by
  obtain ⟨k2, hk2⟩ := List.mem_iff_getElem?.mp hd
  by_cases e : k2 = k
  · subst e
    rw [hk] at hk2; cases hk2
    obtain ⟨l, hl, hl2⟩ := h1 c' (List.mem_of_getElem? (setRow_at (s := s) (List.getElem?_eq_some_iff.mp hk).1))
    exact ⟨l, hp.mem_iff.mp hl, hl2⟩
  · refine h1 d (List.mem_of_getElem? (i := k2) ?_)
    show (s.rows.set k c')[k2]? = _
    rw [List.getElem?_set_ne fun q => e q.symm]; exact hk2) h2
theorem Core.wat (C : Core N M s) {ks : List Int} {f : Int → List Nat} (h1 : ks.Nodup) (h2 : ∀ l ∈ ks, l ≠ 0 ∧ l.natAbs ≤ N) : Core N M (s.wW ks f) :=
  ⟨⟨C.td.nz, C.td.nd, C.td.kn, C.td.kK, C.td.hK, C.td.cK, C.td.lK, C.td.lB⟩, C.he, C.ca, C.srt, C.bs, C.sl, C.rk, C.rM, C.zM, C.ht, h1, h2, C.lim⟩
theorem Core.addW (C : Core N M s) {w : Int} {k : Nat} (h0 : w ≠ 0) (hl : w.natAbs ≤ N) : Core N M (addW s w k) := by
  refine C.wat ?_ fun l hl' => ?_
  · split
    · exact C.wn
    · rename_i hk
      rw [List.nodup_append]
      exact ⟨C.wn, by simp, fun a ha b hb e => hk (by rw [← List.mem_singleton.mp hb, ← e]; exact ha)⟩
  · split at hl'
    · exact C.wr l hl'
    · rcases List.mem_append.mp hl' with h | h
      · exact C.wr l h
      · rw [List.mem_singleton.mp h]; exact ⟨h0, hl⟩
end
end Mine
end
section
open PySem PySem.W
set_option tactic.hygienic false
namespace Mine
structure SpI (N : Nat) (M : (Nat → Bool) → Prop) (s : St) (p : Nat) (lit : Int) (ol : List Nat) (i : Nat) : Prop where
  core : Core N M s
  cv : Cv M s
  seen : s.seen = p + 1
  at_ : s.ro[p]? = some (-lit)
  be : ∀ b ∈ s.be, b ≤ p
  pr : PR s p
  wi : ∀ k l, l ≠ lit → (k ∈ wg s l ↔ Wat s k l)
  wl : ∀ k, (k ∈ wg s lit ∨ k ∈ ol.drop i) ↔ Wat s k lit
  nd : ∀ l, l ≠ lit → (wg s l).Nodup
  nl : (wg s lit ++ ol.drop i).Nodup
  prl : ∀ k ∈ wg s lit, ∀ (c : List Int) (w' : Int), s.rows[k]? = some c → Pair c lit w' → ∃ j, s.ro[j]? = some w' ∧ lvl s.be j ≤ lvl s.be p
  lk : lit ∈ s.wks
theorem perm_swap {x lit : Int} : ∀ {r : List Int} {i : Nat}, r[i]? = some x → (x :: r.set i lit).Perm (lit :: r)
  | [], i, h => by cases h
  | y :: r, 0, h => by
    cases h
    exact .swap ..
  | y :: r, i + 1, h => by
    have := perm_swap (lit := lit) (r := r) (i := i) h
    exact (List.Perm.swap y x _).trans ((this.cons y).trans (.swap ..))
section
variable {N : Nat} {M : (Nat → Bool) → Prop} {s : St} {p i k : Nat} {lit w : Int} {ol : List Nat} {c rest : List Int}
theorem wch_pair {c : List Int} {l : Int} (h2 : 2 ≤ c.length) (h : wch c l) : ∃ w r, c = l :: w :: r ∨ c = w :: l :: r := by
  match c, h2, h with
  | a :: b :: r, _, .inl h => cases h; exact ⟨b, r, .inl rfl⟩
  | a :: b :: r, _, .inr h => cases h; exact ⟨a, r, .inr rfl⟩
theorem SpI.row (S : SpI N M s p lit ol i) (hk : ol[i]? = some k) : Ex3 fun c w rest => An7 (s.rows[k]? = some c) ((c = lit :: w :: rest ∨ c = w :: lit :: rest)) (w ≠ lit) (lit ∉ rest) (w ∉ rest) ((w :: lit :: rest).Perm c) (rest.Nodup) := by
  have hd : ol.drop i = k :: ol.drop (i + 1) := by
    obtain ⟨h, rfl⟩ := List.getElem?_eq_some_iff.mp hk
    exact List.drop_eq_getElem_cons h
  refine nn fun hC => ?_
  obtain ⟨c, hc, hw⟩ := (S.wl k).mp (.inr (by rw [hd]; exact List.mem_cons_self ..))
  obtain ⟨h1, h2, h3⟩ := S.core.rk c (List.mem_of_getElem? hc)
  obtain ⟨w, r, h⟩ := wch_pair h1 hw
  refine hC ?_
  have hp : (w :: lit :: r).Perm c := by
    rcases h with rfl | rfl
    · exact .swap ..
    · exact .refl _
  have hnd : (w :: lit :: r).Nodup := by
    have h4 : ((w :: lit :: r).map Int.natAbs).Nodup := (hp.map _).nodup_iff.mpr h2
    exact List.Pairwise.imp (fun h e => h (congrArg Int.natAbs e)) (List.pairwise_map.mp h4)
  have a1 := List.nodup_cons.mp hnd
  have a2 := List.nodup_cons.mp a1.2
  exact ⟨c, w, r, hc, h, fun e => a1.1 (by rw [e]; exact List.mem_cons_self ..), a2.1, fun q => a1.1 (List.mem_cons_of_mem _ q), hp, a2.2⟩
theorem drop_get (hk : ol[i]? = some k) : ol.drop i = k :: ol.drop (i + 1) := by
  obtain ⟨h, rfl⟩ := List.getElem?_eq_some_iff.mp hk
  exact List.drop_eq_getElem_cons h
theorem pair_two {w v x y : Int} {r : List Int} (h : Pair (w :: v :: r) x y) : (x = w ∧ y = v) ∨ (x = v ∧ y = w) := by
  rcases h with ⟨h1, h2⟩ | ⟨h1, h2⟩
  · cases h1; cases h2; exact .inl ⟨rfl, rfl⟩
  · cases h1; cases h2; exact .inr ⟨rfl, rfl⟩
theorem wch_two {w v x : Int} {r : List Int} : wch (w :: v :: r) x ↔ x = w ∨ x = v := by
  constructor
  · rintro (h | h)
    · cases h; exact .inl rfl
    · cases h; exact .inr rfl
  · rintro (rfl | rfl)
    · exact .inl rfl
    · exact .inr rfl
theorem SpI.order (S : SpI N M s p lit ol i) (hk : s.rows[k]? = some c) (hc : c = lit :: w :: rest ∨ c = w :: lit :: rest) : SpI N M (s.setRow k (w :: lit :: rest)) p lit ol i := by
  have hp : (w :: lit :: rest).Perm c := by
    rcases hc with rfl | rfl
    · exact .swap ..
    · exact .refl _
  have hch : ∀ l, wch (w :: lit :: rest) l ↔ wch c l := fun l => by
    rcases hc with rfl | rfl
    · rw [wch_two, wch_two, or_comm]
    · exact Iff.rfl
  have hpr : ∀ x y, Pair (w :: lit :: rest) x y → Pair c x y := fun x y h => by
    rcases hc with rfl | rfl
    · rcases pair_two h with ⟨rfl, rfl⟩ | ⟨rfl, rfl⟩
      · exact .inr ⟨rfl, rfl⟩
      · exact .inl ⟨rfl, rfl⟩
    · exact h
  have hlt := (List.getElem?_eq_some_iff.mp hk).1
  have hW : ∀ q l, Wat (s.setRow k (w :: lit :: rest)) q l ↔ Wat s q l := fun q l => by
    constructor
    · rintro ⟨d, hd, h⟩
      rcases rows_set hd with ⟨rfl, rfl⟩ | ⟨_, hd⟩
      · exact ⟨c, hk, (hch l).mp h⟩
      · exact ⟨d, hd, h⟩
    · rintro ⟨d, hd, h⟩
      by_cases e : q = k
      · subst e
        rw [hk] at hd; cases hd
        exact ⟨_, setRow_at hlt, (hch l).mpr h⟩
      · exact ⟨d, by show (s.rows.set k _)[q]? = _; rw [List.getElem?_set_ne fun x => e x.symm]; exact hd, h⟩
  have hP : ∀ (q : Nat) (d : List Int) (x y : Int), (s.rows.set k (w :: lit :: rest))[q]? = some d → Pair d x y → ∃ d', s.rows[q]? = some d' ∧ Pair d' x y := fun q d x y hd h => by
    rcases rows_set hd with ⟨rfl, rfl⟩ | ⟨_, hd⟩
    · exact ⟨c, hk, hpr x y h⟩
    · exact ⟨d, hd, h⟩
  refine ⟨S.core.row hk hp, S.cv.row hk hp, S.seen, S.at_, S.be, fun q d x y hd h => ?_, fun q l hl => ?_, fun q => ?_, S.nd, S.nl, fun q hq d y hd h => ?_, S.lk⟩
  · obtain ⟨d', h1, h2⟩ := hP q d x y hd h
    exact S.pr q d' x y h1 h2
  · rw [hW]; exact S.wi q l hl
  · rw [hW]; exact S.wl q
  · obtain ⟨d', h1, h2⟩ := hP q d lit y hd h
    exact S.prl q hq d' y h1 h2
noncomputable def keptS (s : St) (lit : Int) (ns : List Nat) : St := s.wW s.wks fun l => if l = lit then ns else s.wat l
theorem wg_kept {l : Int} {ns : List Nat} (h : lit ∈ s.wks) : wg (keptS s lit ns) l = if l = lit then ns else wg s l := by
  show (if l ∈ s.wks then (if l = lit then ns else s.wat l) else []) = if l = lit then ns else if l ∈ s.wks then s.wat l else []
  by_cases e : l = lit
  · subst e; rw [if_pos h, if_pos rfl]; simp
  · rw [if_neg e, if_neg e]
theorem SpI.keep (S : SpI N M s p lit ol i) (hk : ol[i]? = some k) (hr : s.rows[k]? = some (w :: lit :: rest)) (hw : ∃ j, s.ro[j]? = some w ∧ lvl s.be j ≤ lvl s.be p) (hwl : w ≠ lit) : SpI N M (keptS s lit (wg s lit ++ [k])) p lit ol (i + 1) := by
  have hd := drop_get hk
  have e1 : wg (keptS s lit (wg s lit ++ [k])) lit = wg s lit ++ [k] := by rw [wg_kept S.lk, if_pos rfl]
  have e2 : ∀ l, l ≠ lit → wg (keptS s lit (wg s lit ++ [k])) l = wg s l := fun l h => by rw [wg_kept S.lk, if_neg h]
  refine ⟨S.core.wat S.core.wn S.core.wr, S.cv, S.seen, S.at_, S.be, S.pr, fun q l hl => ?_, fun q => ?_, fun l hl => ?_, ?_, fun q hq d y hd' h => ?_, S.lk⟩
  · rw [e2 l hl]; exact S.wi q l hl
  · rw [e1, List.mem_append, List.mem_singleton, or_assoc, show (q = k ∨ q ∈ ol.drop (i + 1)) ↔ q ∈ ol.drop i by rw [hd, List.mem_cons]]
    exact S.wl q
  · rw [e2 l hl]; exact S.nd l hl
  · rw [e1, List.append_assoc]
    have := S.nl
    rw [hd] at this; exact this
  · rw [e1, List.mem_append, List.mem_singleton] at hq
    rcases hq with hq | rfl
    · exact S.prl q hq d y hd' h
    · have : s.rows[q]? = some d := hd'
      rw [hr] at this; cases this
      rcases pair_two h with ⟨e, _⟩ | ⟨_, rfl⟩
      · exact absurd e.symm hwl
      · exact hw
theorem SpI.clash (S : SpI N M s p lit ol i) : Core N M (keptS s lit (wg s lit ++ ol.drop i)) ∧ WI (keptS s lit (wg s lit ++ ol.drop i)) := by
  refine ⟨S.core.wat S.core.wn S.core.wr, ⟨fun q l => ?_, fun l => ?_⟩⟩
  · rw [wg_kept S.lk]
    by_cases e : l = lit
    · subst e
      rw [if_pos rfl, List.mem_append]; exact S.wl q
    · rw [if_neg e]; exact S.wi q l e
  · rw [wg_kept S.lk]
    by_cases e : l = lit
    · rw [if_pos e]; exact S.nl
    · rw [if_neg e]; exact S.nd l e
theorem SpI.done (S : SpI N M s p lit ol i) (hi : ol.length ≤ i) : WI s ∧ PR s s.seen := by
  have hd : ol.drop i = [] := List.drop_of_length_le hi
  refine ⟨⟨fun q l => ?_, fun l => ?_⟩, fun q d x y hd' h j hj hx => ?_⟩
  · by_cases e : l = lit
    · subst e
      rw [← S.wl q, hd]; simp
    · exact S.wi q l e
  · by_cases e : l = lit
    · subst e
      have := S.nl
      rw [hd, List.append_nil] at this; exact this
    · exact S.nd l e
  · rw [S.seen] at hj
    rcases Nat.lt_succ_iff_lt_or_eq.mp hj with hj | rfl
    · exact S.pr q d x y hd' h j hj hx
    · rw [S.at_] at hx
      obtain rfl : lit = x := by have := Option.some.inj hx; lia
      have hq : q ∈ wg s lit := by
        have := (S.wl q).mpr ⟨d, hd', ?_⟩
        · rw [hd] at this; simpa using this
        · rcases h with ⟨h, _⟩ | ⟨h, _⟩
          · exact .inl h
          · exact .inr h
      exact S.prl q hq d y hd' h
theorem SpI.let_ (S : SpI N M s p lit ol i) (hr : s.rows[k]? = some (w :: lit :: rest)) (h1 : ∀ x ∈ s.ro, x.natAbs ≠ w.natAbs) (h2 : ∀ x ∈ rest, -x ∈ s.ro) : SpI N M (letS s w (.int k)) p lit ol i ∧ ∃ j, (letS s w (.int k)).ro[j]? = some w ∧ lvl (letS s w (.int k)).be j ≤ lvl (letS s w (.int k)).be p := by
  have hc := List.mem_of_getElem? hr
  obtain ⟨_, hnd, hnz⟩ := S.core.rk _ hc
  have hw := hnz w (List.mem_cons_self ..)
  have hoth : ∀ x ∈ w :: lit :: rest, x ≠ w → -x ∈ s.ro := fun x hx hxw => by
    rcases List.mem_cons.mp hx with rfl | hx
    · exact absurd rfl hxw
    · rcases List.mem_cons.mp hx with rfl | hx
      · exact List.mem_of_getElem? S.at_
      · exact h2 x hx
  have hpl : p < s.ro.length := (List.getElem?_eq_some_iff.mp S.at_).1
  have hcore : Core N M (letS s w (.int k)) := S.core.let_ hw.1 hw.2 h1 (.inr ⟨k, _, rfl, hr, List.mem_cons_self .., hoth⟩) fun hz α hα => by
    obtain ⟨l, hl, ht⟩ := S.core.rM _ hc α hα
    by_cases e : l = w
    · rw [← e]; exact ht
    · obtain ⟨j, hj⟩ := List.mem_iff_getElem?.mp (hoth l hl e)
      have := S.core.zM j _ hj (Nat.le_zero.mp (by rw [← hz]; exact lvl_le)) α hα
      exact absurd ht ((ltr_neg (hnz l hl).1).mp this)
  have hle : s.ro.length = (letS s w (.int k)).ro.length - 1 := by
    show _ = (s.ro ++ [w]).length - 1
    rw [List.length_append]; rfl
  refine ⟨⟨hcore, S.cv.let_, S.seen, app_at S.at_, S.be, S.pr.let_ (Nat.le_of_lt hpl), S.wi, S.wl, S.nd, S.nl, fun q hq d y hd h => ?_, S.lk⟩, s.ro.length, ?_, ?_⟩
  · obtain ⟨j, h3, h4⟩ := S.prl q hq d y hd h
    exact ⟨j, app_at h3, h4⟩
  · show (s.ro ++ [w])[s.ro.length]? = _
    rw [List.getElem?_concat_length]
  · show lvl s.be s.ro.length ≤ lvl s.be p
    rw [lvl_all S.be]; exact lvl_le
theorem SpI.move (S : SpI N M s p lit ol i) (hk : ol[i]? = some k) (hr : s.rows[k]? = some c) (hp : (w :: lit :: rest).Perm c) (hc : c = lit :: w :: rest ∨ c = w :: lit :: rest) {j : Nat} {x : Int} (hx : rest[j]? = some x) (hxf : -x ∉ s.ro) : SpI N M (addW (s.setRow k (w :: x :: rest.set j lit)) x k) p lit ol (i + 1) := by
  have hlt := (List.getElem?_eq_some_iff.mp hr).1
  have hd := drop_get hk
  have hp2 : (w :: x :: rest.set j lit).Perm c := ((perm_swap hx).cons w).trans hp
  have hcm := List.mem_of_getElem? hr
  obtain ⟨_, hnd, hnz⟩ := S.core.rk c hcm
  have hxc : x ∈ c := hp.mem_iff.mp (List.mem_cons_of_mem _ (List.mem_cons_of_mem _ (List.mem_of_getElem? hx)))
  have hlc : lit ∈ c := hp.mem_iff.mp (List.mem_cons_of_mem _ (List.mem_cons_self ..))
  have hnd2 : (w :: lit :: rest).Nodup := by
    have h4 : ((w :: lit :: rest).map Int.natAbs).Nodup := (hp.map _).nodup_iff.mpr hnd
    exact List.Pairwise.imp (fun h e => h (congrArg Int.natAbs e)) (List.pairwise_map.mp h4)
  have a1 := List.nodup_cons.mp hnd2
  have a2 := List.nodup_cons.mp a1.2
  have hwl : w ≠ lit := fun e => a1.1 (by rw [e]; exact List.mem_cons_self ..)
  have hxl : x ≠ lit := fun e => a2.1 (by rw [← e]; exact List.mem_of_getElem? hx)
  have hxw : x ≠ w := fun e => a1.1 (by rw [← e]; exact List.mem_cons_of_mem _ (List.mem_of_getElem? hx))
  have hch : ∀ l, wch c l ↔ l = w ∨ l = lit := fun l => by
    rcases hc with rfl | rfl
    · rw [wch_two, or_comm]
    · exact wch_two
  have hrow : ∀ q (d : List Int), (addW (s.setRow k (w :: x :: rest.set j lit)) x k).rows[q]? = some d → (q = k ∧ d = w :: x :: rest.set j lit) ∨ (q ≠ k ∧ s.rows[q]? = some d) := fun q d h => rows_set h
  have hrow' : ∀ q (d : List Int), q ≠ k → s.rows[q]? = some d → (addW (s.setRow k (w :: x :: rest.set j lit)) x k).rows[q]? = some d := fun q d e h => by
    show (s.rows.set k _)[q]? = _
    rw [List.getElem?_set_ne fun y => e y.symm]; exact h
  have hWk : ∀ l, Wat (addW (s.setRow k (w :: x :: rest.set j lit)) x k) k l ↔ l = w ∨ l = x := fun l => by
    constructor
    · rintro ⟨d, h1, h2⟩
      rcases hrow k d h1 with ⟨_, rfl⟩ | ⟨e, _⟩
      · exact wch_two.mp h2
      · exact absurd rfl e
    · intro h
      exact ⟨_, setRow_at hlt, wch_two.mpr h⟩
  have hWq : ∀ q l, q ≠ k → (Wat (addW (s.setRow k (w :: x :: rest.set j lit)) x k) q l ↔ Wat s q l) := fun q l e => by
    constructor
    · rintro ⟨d, h1, h2⟩
      rcases hrow q d h1 with ⟨rfl, _⟩ | ⟨_, h⟩
      · exact absurd rfl e
      · exact ⟨d, h, h2⟩
    · rintro ⟨d, h1, h2⟩
      exact ⟨d, hrow' q d e h1, h2⟩
  have hWs : ∀ l, Wat s k l ↔ l = w ∨ l = lit := fun l => by
    rw [← hch]
    constructor
    · rintro ⟨d, h1, h2⟩
      rw [hr] at h1; cases h1; exact h2
    · exact fun h => ⟨c, hr, h⟩
  have hwg : ∀ l, wg (addW (s.setRow k (w :: x :: rest.set j lit)) x k) l = if l = x then wg s x ++ [k] else wg s l := fun l => wg_add
  have hnl := S.nl
  rw [hd] at hnl
  have hkl : k ∉ wg s lit := fun h => by
    have := (List.nodup_append.mp hnl).2.2 k h k (List.mem_cons_self ..)
    exact this rfl
  have hkd : k ∉ ol.drop (i + 1) := (List.nodup_cons.mp (List.nodup_append.mp hnl).2.1).1
  have hpl : p < s.ro.length := (List.getElem?_eq_some_iff.mp S.at_).1
  refine ⟨(S.core.row hr hp2).addW (hnz x hxc).1 (hnz x hxc).2, S.cv.row hr hp2, S.seen, S.at_, S.be, fun q d y z hd' h t ht hy => ?_, fun q l hl => ?_, fun q => ?_, fun l hl => ?_, ?_, fun q hq d y hd' h => ?_, ?_⟩
  · rcases hrow q d hd' with ⟨rfl, rfl⟩ | ⟨_, h1⟩
    · exfalso
      have hy : s.ro[t]? = some (-y) := hy
      rcases pair_two h with ⟨rfl, rfl⟩ | ⟨rfl, rfl⟩
      · obtain ⟨t', h1, _⟩ := S.pr q c y lit hr (by
          rcases hc with rfl | rfl
          · exact .inr ⟨rfl, rfl⟩
          · exact .inl ⟨rfl, rfl⟩) t ht hy
        exact S.core.td.no2 (List.mem_of_getElem? h1) (List.mem_of_getElem? S.at_)
      · exact hxf (List.mem_of_getElem? hy)
    · exact S.pr q d y z h1 h t ht hy
  · rw [hwg]
    by_cases e : q = k
    · subst e
      rw [hWk]
      by_cases e2 : l = x
      · subst e2
        rw [if_pos rfl, List.mem_append, List.mem_singleton]
        exact ⟨fun _ => .inr rfl, fun _ => .inr rfl⟩
      · rw [if_neg e2, S.wi q l hl, hWs]
        exact ⟨fun h => .inl (h.elim id fun h => absurd h hl), fun h => .inl (h.elim id fun h => absurd h e2)⟩
    · rw [hWq q l e, ← S.wi q l hl]
      by_cases e2 : l = x
      · subst e2
        rw [if_pos rfl, List.mem_append, List.mem_singleton]
        exact ⟨fun h => h.elim id fun h => absurd h e, .inl⟩
      · rw [if_neg e2]
  · rw [hwg, if_neg fun h => hxl h.symm]
    by_cases e : q = k
    · subst e
      rw [hWk]
      exact ⟨fun h => (h.elim hkl hkd).elim, fun h => (h.elim (fun h => hwl h.symm) fun h => hxl h.symm).elim⟩
    · rw [hWq q lit e, ← S.wl q, hd, List.mem_cons]
      exact ⟨fun h => h.imp id .inr, fun h => h.imp id fun h => h.elim (fun h => absurd h e) id⟩
  · rw [hwg]
    by_cases e2 : l = x
    · subst e2
      rw [if_pos rfl, List.nodup_append]
      refine ⟨S.nd l hl, by simp, fun a ha b hb e => ?_⟩
      rw [List.mem_singleton] at hb
      subst hb; subst e
      rcases (hWs l).mp ((S.wi a l hl).mp ha) with h | h
      · exact hxw h
      · exact hxl h
    · rw [if_neg e2]; exact S.nd l hl
  · rw [hwg, if_neg fun h => hxl h.symm]
    rw [List.nodup_append] at hnl ⊢
    exact ⟨hnl.1, (List.nodup_cons.mp hnl.2.1).2, fun a ha b hb => hnl.2.2 a ha b (List.mem_cons_of_mem _ hb)⟩
  · rw [hwg, if_neg fun h => hxl h.symm] at hq
    have e : q ≠ k := fun e => hkl (e ▸ hq)
    rcases hrow q d hd' with ⟨rfl, _⟩ | ⟨_, h1⟩
    · exact absurd rfl e
    · exact S.prl q hq d y h1 h
  · show lit ∈ (if x ∈ s.wks then s.wks else s.wks ++ [x])
    split
    · exact S.lk
    · exact List.mem_append_left _ S.lk
end
end Mine
end
section
open PySem PySem.W
set_option tactic.hygienic false
namespace Mine
noncomputable def brW (T F : AH → Prop) : V → AH → Prop := fun v H => ifB v (T H) (F H)
noncomputable def notW (Q : V → AH → Prop) : V → AH → Prop := fun v H => ifS v.b? fun b => Q (.bool (!b)) H
section
variable {sp : Sp} {m : List V} {H : AH} {P : List V → AH → Prop} {R : V → AH → Prop} {Q : V → AH → Prop}
theorem s_iteE {c : X} {t u : S} (h : c.ev sp m H (brW (fun H => t.wp sp m H P R) fun H => u.wp sp m H P R)) : (S.ite c t u).wp sp m H P R := h
theorem x_not {x : X} (h : x.ev sp m H (notW Q)) : (X.not x).ev sp m H Q := h
theorem e_list {xs : List X} (h : X.evs sp xs m H fun vs H => ∀ a, H a = none → Q (.ref a) (H.set a (.lst vs))) : (X.list xs).ev sp m H Q := h
theorem s_asgN {js : List Nat} {xs : List X} (h : X.evs sp xs m H fun vs H => vs.length = js.length ∧ P (putsN js vs m) H) : (S.asgN js xs).wp sp m H P R := h
theorem dpop2_s {o : Addr} {es : List (Int × V)} {k : Int} {v d : V} (h : H o = some (.dct es)) (e : get es k = some v) (q : Q v (H.set o (.dct (rem es k)))) : biW .dpop2 [.ref o, .int k, d] H Q := by
  show ifS (H o) _
  exact ifD_mk h (by rw [e]; exact q)
theorem dpop2_n {o : Addr} {es : List (Int × V)} {k : Int} {d : V} (h : H o = some (.dct es)) (e : get es k = none) (q : Q d H) : biW .dpop2 [.ref o, .int k, d] H Q := by
  show ifS (H o) _
  exact ifD_mk h (by rw [e]; exact q)
theorem ext_ok {a b : Addr} {l r : List V} (h : H a = some (.lst l)) (h' : H b = some (.lst r)) (n : a ≠ b) (hl : l.length + r.length ≤ sz) (q : Q .none (H.set a (.lst (l ++ r)))) : biW .extend [.ref a, .ref b] H Q := by
  show ifS (H a) _
  exact ifL_mk h (ifL_mk (see_lst h') ⟨n, hl, q⟩)
end
section
variable {n : Nat} {H : AH} {lay : Ro → Addr} {s : St} {a : Addr} {Q : V → AH → Prop}
noncomputable def popS (s : St) (lit : Int) : St := s.wW ((s.wks.filter fun k => decide (k ≠ lit)) ++ [lit]) fun l => if l = lit then [] else s.wat l
theorem w_pop {sp : Sp} (So : Sol H lay s) (ha : lay .ins = a) (hz : s.wks.length < sz) {lit : Int} {z2 z3 z4 z5 : V} {P : List V → AH → Prop} {R : V → AH → Prop} {t : S}
    (q : ∀ H' lay' o, SF H lay s H' lay' (popS s lit) → H' o = some (.lst (nz (wg s lit))) → ¬ fp lay' (popS s lit) o → t.wp sp [.ref a, .int lit, .ref o, .ref (lay' (.wt lit)), z4, z5] H' P R) :
    (S.seq (.asgN [2, 3] [(.bm .dpop2 (.attr (.loc 0) 8) [(.loc 1), (.list [])]), (.list [])]) (.seq (.setI (.attr (.loc 0) 8) (.loc 1) (.loc 3)) t)).wp sp [.ref a, .int lit, z2, z3, z4, z5] H P R := by
  refine s_seq (s_asgN (e_cons (bm_d (So.a_ ha rfl rfl) (So.at_ .wa trivial) rfl (e_cons (pv_ok (.loc 1) (.int lit) _ rfl (e_cons (e_list (e_nil fun x hx => e_nil ?_))))))))
  have h1 := SF.junk So (o := .lst []) hx
  have hwa := h1.1.at_ .wa trivial
  by_cases hl : lit ∈ s.wks
  · refine dpop2_s hwa (by rw [get_wkD, if_pos hl]) ?_
    have h2 := d_wt h1.1 lit
    refine e_cons (e_list (e_nil fun y hy => e_nil ⟨rfl, ?_⟩))
    have hn : lit ∉ (s.wW (s.wks.filter fun k => decide (k ≠ lit)) s.wat).wks := fun h => by
      have := (List.mem_filter.mp h).2
      simp at this
    have h3 := n_wt h2.1 hn y hy []
    have hlen : (s.wks.filter fun k => decide (k ≠ lit)).length < sz := Nat.lt_of_le_of_lt (List.length_filter_le ..) hz
    refine s_seq (s_setI (w := .ref y) (v := .ref (lay .wa)) (k := .int lit) rfl ((h2.1.junk (o := .lst []) hy).a_ ha rfl rfl) rfl (setI_d ((h2.1.junk (o := .lst []) hy).at_ .wa trivial) (by rw [wkD, List.length_map]; exact hlen) ?_))
    have hne : ∀ r, use s r → lay r = lay (.wt lit) → r = .wt lit := fun r u e => So.inj r _ u hl e
    have hold : ((H.set x (.lst [])).set (lay .wa) (.dct (rem (wkD lay s.wks) lit))) (lay (.wt lit)) = some (.lst (nz (s.wat lit))) := by
      rw [set_ne fun e => by have := hne .wa trivial e.symm; cases this]
      exact h1.1.at_ (.wt lit) hl
    have hnf : ¬ fp lay (s.wW (s.wks.filter fun k => decide (k ≠ lit)) s.wat) (lay (.wt lit)) := fun ⟨r, u, e⟩ => by
      have u' : use s r := by
        cases r <;> first | exact u | exact (List.mem_filter.mp u).1
      obtain rfl := hne r u' e
      exact hn u
    have hout := h2.1.out h3.2 hold hnf
    have e : wg s lit = s.wat lit := if_pos hl
    have := q _ _ (lay (.wt lit)) (h1.trans (h2.trans h3)) (by rw [e]; exact hout.1) hout.2
    rw [up_eq] at this
    exact this
  · refine dpop2_n hwa (by rw [get_wkD, if_neg hl]) ?_
    have efil : s.wks.filter (fun k => decide (k ≠ lit)) = s.wks := List.filter_eq_self.mpr fun k hk => decide_eq_true fun e => hl (e ▸ hk)
    refine e_cons (e_list (e_nil fun y hy => e_nil ⟨rfl, ?_⟩))
    have h3 := n_wt h1.1 hl y hy []
    refine s_seq (s_setI (w := .ref y) (v := .ref (lay .wa)) (k := .int lit) rfl ((h1.1.junk (o := .lst []) hy).a_ ha rfl rfl) rfl (setI_d ((h1.1.junk (o := .lst []) hy).at_ .wa trivial) (by rw [wkD, List.length_map]; exact hz) ?_))
    have hout := h1.1.out h3.2 (x := x) (o := .lst []) set_eq (So.nfp hx)
    have e : wg s lit = [] := if_neg hl
    have := q _ _ x (by unfold popS; rw [efil]; exact h1.trans h3) (by rw [e]; exact hout.1) (by unfold popS; rw [efil]; exact hout.2)
    rw [up_eq] at this
    exact this
structure Kp (s s' : St) : Prop where
  be : s'.be = s.be
  ref : s'.ref = s.ref
  lg : s'.lg = s.lg
  cl : s'.cl = s.cl
  bl : s'.bl = s.bl
  rl : s'.rows.length = s.rows.length
  ro : ∃ t, s'.ro = s.ro ++ t
  nb : ∀ b ∈ s.be, b < s'.ro.length → b < s.ro.length
theorem Kp.refl : Kp s s := ⟨rfl, rfl, rfl, rfl, rfl, rfl, ⟨[], (List.append_nil _).symm⟩, fun _ _ h => h⟩
theorem Kp.trans {s' s'' : St} (h : Kp s s') (h' : Kp s' s'') : Kp s s'' := by
  obtain ⟨t, ht⟩ := h.ro
  obtain ⟨t', ht'⟩ := h'.ro
  exact ⟨h'.be.trans h.be, h'.ref.trans h.ref, h'.lg.trans h.lg, h'.cl.trans h.cl, h'.bl.trans h.bl, h'.rl.trans h.rl, ⟨t ++ t', by rw [ht', ht, List.append_assoc]⟩, fun b hb q => h.nb b hb (h'.nb b (by rw [h.be]; exact hb) q)⟩
theorem Kp.row {k : Nat} {c : List Int} : Kp s (s.setRow k c) := ⟨rfl, rfl, rfl, rfl, rfl, List.length_set .., ⟨[], (List.append_nil _).symm⟩, fun _ _ h => h⟩
theorem Kp.wat {ks : List Int} {f : Int → List Nat} : Kp s (s.wW ks f) := ⟨rfl, rfl, rfl, rfl, rfl, rfl, ⟨[], (List.append_nil _).symm⟩, fun _ _ h => h⟩
theorem Kp.let_ {l : Int} {v : V} (h : ∀ b ∈ s.be, b < s.ro.length) : Kp s (letS s l v) := ⟨rfl, rfl, rfl, rfl, rfl, rfl, ⟨[l], rfl⟩, fun b hb _ => h b hb⟩
variable {N : Nat} {M : (Nat → Bool) → Prop}
theorem SpI.start (C : Core N M s) (cv : Cv M s) (W : WI s) (P : PR s s.seen) {x : Int} (hx : s.ro[s.seen]? = some x) : SpI N M (popS (s.wSeen (s.seen + 1)) (-x)) s.seen (-x) (wg s (-x)) 0 := by
  have hxm := C.td.nz x (List.mem_of_getElem? hx)
  have hwg : ∀ l, wg (popS (s.wSeen (s.seen + 1)) (-x)) l = if l = -x then [] else wg s l := fun l => by
    show (if l ∈ (s.wks.filter fun k => decide (k ≠ -x)) ++ [-x] then (if l = -x then [] else s.wat l) else []) = _
    by_cases e : l = -x
    · subst e
      rw [if_pos rfl, if_pos rfl]; simp
    · rw [if_neg e, if_neg e]
      unfold wg
      by_cases hl : l ∈ s.wks
      · rw [if_pos hl, if_pos (List.mem_append_left _ (List.mem_filter.mpr ⟨hl, decide_eq_true e⟩))]
      · rw [if_neg hl, if_neg fun h => by
          rcases List.mem_append.mp h with h | h
          · exact hl (List.mem_filter.mp h).1
          · exact e (List.mem_singleton.mp h)]
  have hlt := (List.getElem?_eq_some_iff.mp hx).1
  have C1 : Core N M (s.wSeen (s.seen + 1)) := ⟨⟨C.td.nz, C.td.nd, C.td.kn, C.td.kK, C.td.hK, C.td.cK, C.td.lK, C.td.lB⟩, C.he, C.ca, C.srt, fun b hb => Nat.le_succ_of_le (C.bs b hb), hlt, C.rk, C.rM, C.zM, C.ht, C.wn, C.wr, C.lim⟩
  refine ⟨C1.wat ?_ fun l hl => ?_, cv, rfl, by show s.ro[s.seen]? = _; rw [Int.neg_neg]; exact hx, C.bs, P, fun k l hl => ?_, fun k => ?_, fun l hl => ?_, ?_, fun k hk => ?_, ?_⟩
  · rw [List.nodup_append]
    exact ⟨C.wn.filter _, by simp, fun a ha b hb e => by
      have := (List.mem_filter.mp ha).2
      rw [List.mem_singleton] at hb
      subst hb; subst e
      simp at this⟩
  · rcases List.mem_append.mp hl with h | h
    · exact C.wr l (List.mem_filter.mp h).1
    · rw [List.mem_singleton.mp h]; exact ⟨by omega, by omega⟩
  · rw [hwg, if_neg hl]; exact W.iff k l
  · rw [hwg, if_pos rfl, List.drop_zero]
    exact ⟨fun h => (W.iff k _).mp (h.elim (fun h => by cases h) id), fun h => .inr ((W.iff k _).mpr h)⟩
  · rw [hwg, if_neg hl]; exact W.nd l
  · rw [hwg, if_pos rfl]; exact W.nd _
  · rw [hwg, if_pos rfl] at hk; cases hk
  · exact List.mem_append_right _ (List.mem_singleton.mpr rfl)
theorem SpI.wlen {p i : Nat} {lit : Int} {ol : List Nat} (S : SpI N M s p lit ol i) : (wg s lit ++ ol.drop i).length ≤ s.rows.length ∧ ∀ l, (wg s l).length ≤ s.rows.length := by
  have h1 : (wg s lit ++ ol.drop i).length ≤ s.rows.length := by
    have := nodup_le (r := List.range s.rows.length) S.nl fun k hk => by
      obtain ⟨c, hc, _⟩ := (S.wl k).mp (List.mem_append.mp hk)
      exact List.mem_range.mpr (List.getElem?_eq_some_iff.mp hc).1
    rwa [List.length_range] at this
  refine ⟨h1, fun l => ?_⟩
  by_cases e : l = lit
  · subst e
    rw [List.length_append] at h1; omega
  · have := nodup_le (r := List.range s.rows.length) (S.nd l e) fun k hk => by
      obtain ⟨c, hc, _⟩ := (S.wi k l e).mp hk
      exact List.mem_range.mpr (List.getElem?_eq_some_iff.mp hc).1
    rwa [List.length_range] at this
theorem kept_two {lit : Int} {l l' : List Nat} : keptS (keptS s lit l) lit l' = keptS s lit l' := by
  unfold keptS St.wW
  show { s with wks := s.wks, wat := _ } = { s with wks := s.wks, wat := _ }
  congr 1
  funext x
  by_cases e : x = lit
  · simp [e]
  · simp [e]
end
end Mine
end
section
open PySem PySem.W
set_option tactic.hygienic false
namespace Mine
section
variable {n : Nat} {H : AH} {lay : Ro → Addr} {s : St} {a : Addr} {Q : V → AH → Prop} {N : Nat} {M : (Nat → Bool) → Prop}
theorem c_spread (So : Sol H lay s) (ha : lay .ins = a) (C : Core N M s) (hN : N < 1000) (cv : Cv M s) (W : WI s) (P : PR s s.seen) (hrs : s.rows.length < sz)
    (q1 : ∀ H' lay' s', SF H lay s H' lay' s' → Kp s s' → Core N M s' → Cv M s' → WI s' → PR s' s'.seen → s'.seen = s'.ro.length → Q (.int (-1)) H')
    (q2 : ∀ H' lay' s' (k p : Nat) (c : List Int), SF H lay s H' lay' s' → Kp s s' → Core N M s' → Cv M s' → WI s' → PR s' p → (∀ b ∈ s'.be, b ≤ p) → s'.rows[k]? = some c → (∀ x ∈ c, -x ∈ s'.ro) → (∃ x ∈ c, s'.ro[p]? = some (-x)) → Q (.int k) H') :
    spN tab02 (n + 3) 9 [.ref a] H Q := by
  have hbig : ∀ {k : Nat}, k < sz → -big ≤ (k : Int) ∧ (k : Int) < big := fun h => ⟨by unfold big; lia, by unfold big; unfold sz at h; lia⟩
  refine sp_go rfl rfl (s_seq (s_whK (fun k m H' => Ex7 fun lay' s' w1 w2 w3 w4 w5 => An8 (m = [.ref a, w1, w2, w3, w4, w5]) (k = N - s'.seen) (SF H lay s H' lay' s') (Kp s s') (Core N M s') (Cv M s') (WI s') (PR s' s'.seen)) (N - s.seen) ⟨lay, s, .un, .un, .un, .un, .un, rfl, rfl, .refl So, .refl, C, cv, W, P⟩ fun k m H1 KW hI hW => ?_))
  refine nn fun hC => ?_
  obtain ⟨lay1, s1, w1, w2, w3, w4, w5, rfl, rfl, h1, K1, C1, cv1, W1, P1⟩ := hI
  refine hC ?_
  have ha1 := h1.ins ha
  refine ⟨decide (s1.seen < s1.ro.length), pvb (h1.1.a_ ha1 rfl rfl) (pvb (len_pv (h1.1.a_ ha1 rfl rfl) (ln_zs (h1.1.at_ .ro trivial))) (pcm (show some (decide ((s1.seen : Int) < (s1.ro.length : Int))) = _ by congr 1; exact decide_eq_decide.mpr (by lia)))), fun hd => ?_, fun hd => ?_⟩
  rotate_left
  · have hd := of_decide_eq_false hd
    exact s_seq (s_ret (pv_ok _ (.int (-1)) _ rfl (q1 _ _ _ h1 K1 C1 cv1 W1 P1 (Nat.le_antisymm C1.sl (by lia)))))
  have hlt := of_decide_eq_true hd
  have hx : s1.ro[s1.seen]? = some s1.ro[s1.seen] := List.getElem?_eq_getElem hlt
  generalize s1.ro[s1.seen] = x at hx
  have hrl1 : s1.rows.length < sz := by rw [K1.rl]; exact hrs
  have S0 := SpI.start C1 cv1 W1 P1 hx
  have u1 := u_seen h1.1 (s1.seen + 1)
  refine s_seq (s_asg (pv_ok _ (.int (-x)) _ (pvb (pvb (h1.1.a_ ha1 rfl rfl) (pvb (h1.1.a_ ha1 rfl rfl) (sb_l (h1.1.at_ .ro trivial) (idx_nat (zs_get hx))))) rfl) ?_))
  refine s_seq (s_setA (v := .int (s1.seen + 1 : Nat)) h1.1 ha1 rfl (pvb (h1.1.a_ ha1 rfl rfl) (pvb rfl (by rfl))) ?_)
  refine w_pop (s := s1.wSeen (s1.seen + 1)) u1.1 ha1 (Nat.lt_of_le_of_lt C1.wlen (Nat.lt_of_lt_of_le (Nat.mul_lt_mul_of_pos_left hN (by decide)) (by decide))) fun H2 lay2 old h2 hold hnf => ?_
  have hol : (wg s1 (-x)).length ≤ s1.rows.length := W1.len
  have ha2 := h2.ins ha1
  have h12 := h1.trans (u1.trans h2)
  have hsn : N - (s1.seen + 1) < N - s1.seen := by
    have := C1.td.len
    lia
  have K2 : Kp s (popS (s1.wSeen (s1.seen + 1)) (-x)) := K1.trans ⟨rfl, rfl, rfl, rfl, rfl, rfl, ⟨[], (List.append_nil _).symm⟩, fun _ _ h => h⟩
  have hold : H2 old = some (.lst (nz (wg s1 (-x)))) := hold
  refine s_seq (s_rng (lo := 0) (hi := (wg s1 (-x)).length) rfl (len_pv rfl (ln_nz hold)) (by decide) (hbig (Nat.lt_of_le_of_lt hol hrl1)) ?_)
  refine floop_ind (fun i m H' => Ex4 fun lay' s' z4 z5 => An7 (m = [.ref a, .int (-x), .ref old, .ref (lay2 (.wt (-x))), z4, z5]) (SF H lay s H' lay' s') (Kp s s') (H' old = some (.lst (nz (wg s1 (-x))))) (¬ fp lay' s' old) (lay' (.wt (-x)) = lay2 (.wt (-x))) (SpI N M s' s1.seen (-x) (wg s1 (-x)) i)) _ (fun i v m H3 K hv hI hK => ⟨trivial, ?_⟩) (fun m H3 hI => ⟨trivial, ?_⟩) ⟨lay2, _, w4, w5, rfl, h12, K2, hold, hnf, rfl, S0⟩
  rotate_left
  · refine nn fun hC => ?_
    obtain ⟨lay3, s3, z4, z5, rfl, h3, K3, _, _, _, S3⟩ := hI
    obtain ⟨W3, P3⟩ := S3.done (by rw [rng_len]; lia)
    refine hC ?_
    exact s_skip (hW (N - s3.seen) _ _ (by rw [S3.seen]; exact hsn) ⟨lay3, s3, _, _, _, _, _, rfl, rfl, h3, K3, S3.core, S3.cv, W3, P3⟩)
  refine nn fun hC => ?_
  obtain ⟨lay3, s3, z4, z5, rfl, h3, K3, ho3, hn3, hl3, S3⟩ := hI
  obtain ⟨rfl, hi⟩ := rng_at hv
  refine hC ?_
  have hi : i < (wg s1 (-x)).length := by lia
  have hk : (wg s1 (-x))[i]? = some (wg s1 (-x))[i] := List.getElem?_eq_getElem hi
  generalize (wg s1 (-x))[i] = k at hk
  refine nn fun hC => ?_
  obtain ⟨c, w, rest, hr, hc, hwl, _, hwr, hp, _⟩ := S3.row hk
  refine hC ?_
  have hrl3 : s3.rows.length < sz := by rw [K3.rl]; exact hrs
  have ha3 := h3.ins ha
  have hklt := (List.getElem?_eq_some_iff.mp hr).1
  have e0 : (0 : Int) + (i : Int) = (i : Int) := Int.zero_add _
  have hsub : ∀ {m : List V} {H' : AH}, m[2]? = some (.ref old) → m[4]? = some (.int (0 + (i : Int))) → H' old = some (.lst (nz (wg s1 (-x)))) → (X.sub (.loc 2) (.loc 4)).pv m H' = some (.int k) := fun h1 h2 h3 => pvb (pvb h1 rfl) (pvb (pvb h2 rfl) (sb_l h3 (by rw [e0]; exact idx_nat (nz_get hk))))
  have hnz := S3.core.rk c (List.mem_of_getElem? hr)
  have hwc : w ∈ c := hp.mem_iff.mp (List.mem_cons_self ..)
  have hw0 := (hnz.2.2 w hwc).1
  have hrc : ∀ y ∈ rest, y ∈ c := fun y hy => hp.mem_iff.mp (List.mem_cons_of_mem _ (List.mem_cons_of_mem _ hy))
  have hwk : s3.wks.length < sz := Nat.lt_of_le_of_lt S3.core.wlen (Nat.lt_of_lt_of_le (Nat.mul_lt_mul_of_pos_left hN (by decide)) (by decide))
  suffices hF : ∀ H4, SF H3 lay3 s3 H4 lay3 (s3.setRow k (w :: -x :: rest)) → (w ∈ s3.ro ∨ ∀ y ∈ rest, -y ∈ s3.ro) → (S.seq (.ex (.bm .append (.loc 3) [(.sub (.loc 2) (.loc 4))])) (.seq (.asg 5 (.sub (.sub (.attr (.loc 0) 7) (.sub (.loc 2) (.loc 4))) (.c (.int 0)))) (.seq (.ite (.cmp .eq (.callM 2 (.loc 0) [(.loc 5)]) (.c (.bool false))) (.seq (.ex (.bm .extend (.loc 3) [(.slice (.loc 2) (.bin .add (.loc 4) (.c (.int 1))) (.c .none))])) (.seq (.ret (.sub (.loc 2) (.loc 4))) .skip)) .skip) (.seq (.ite (.cmp .is (.callM 2 (.loc 0) [(.loc 5)]) (.c .none)) (.seq (.ex (.callM 3 (.loc 0) [(.loc 5), (.sub (.loc 2) (.loc 4))])) .skip) .skip) .skip)))).wp (spN tab02 (n + 2)) [.ref a, .int (-x), .ref old, .ref (lay2 (.wt (-x))), .int (0 + (i : Int)), z5] H4 K (fun v H => True ∧ Q v H) by
    have hsn : ∀ y, sayV s3 y = .bool false → y ≠ 0 → -y ∈ s3.ro := fun y h h0 => (S3.core.td.say_f h0).mp h
    refine s_seq (s_iteE (x_not (cm_ok (xs := [.sub (.loc 2) (.loc 4), .loc 1]) (P := notW (brW _ _)) h3.1 ha3 rfl (e_cons (pv_ok _ (.int k) _ (hsub rfl rfl ho3) (e_cons (pv_ok (.loc 1) (.int (-x)) _ rfl (e_nil (c_moved h3.1 ha3 S3.core.td.knOK hr hc hwl (Nat.lt_of_le_of_lt (row_len S3.core.rk hr) (Nat.lt_trans hN (by decide))) hwk (fun l => Nat.lt_of_le_of_lt (S3.wlen.2 l) hrl3) (fun hsay H4 h4 => ?_) (fun hsay hall H4 h4 => ?_) fun j y hy hsay H4 lay4 hl4 h4 => ?_)))))))))
    · exact hF H4 h4 (.inl ((S3.core.td.say_t hw0).mp hsay))
    · exact hF H4 h4 (.inr fun y hy => hsn y (hall y hy) (hnz.2.2 y (hrc y hy)).1)
    · have hyf : -y ∉ s3.ro := fun h => hsay ((S3.core.td.say_f (hnz.2.2 y (hrc y (List.mem_of_getElem? hy))).1).mpr h)
      have S4 := S3.move hk hr hp hc hy hyf
      have ho4 := h3.1.out h4.2 ho3 hn3
      exact hK _ _ ⟨lay4, _, _, _, rfl, h3.trans h4, K3.trans (Kp.row.trans Kp.wat), ho4.1, ho4.2, (hl4 (.wt (-x)) S3.lk).trans hl3, S4⟩
  intro H4 h4 hcase
  have S4 := S3.order hr hc
  have ho4 := h3.1.out h4.2 ho3 hn3
  have ha4 := h4.ins ha3
  have hkept := h4.1.at_ (.wt (-x)) S4.lk
  have ew : wg (s3.setRow k (w :: -x :: rest)) (-x) = s3.wat (-x) := if_pos S3.lk
  have hkept : H4 (lay2 (.wt (-x))) = some (.lst (nz (wg (s3.setRow k (w :: -x :: rest)) (-x)))) := by
    rw [← hl3, ew]; exact hkept
  have u5 := u_wt h4.1 S4.lk (wg (s3.setRow k (w :: -x :: rest)) (-x) ++ [k])
  rw [hl3] at u5
  have hlen5 : (wg (s3.setRow k (w :: -x :: rest)) (-x)).length < sz := by
    rw [ew]
    have : (s3.setRow k (w :: -x :: rest)).rows.length = s3.rows.length := List.length_set ..
    have h6 := S4.wlen.2 (-x)
    rw [this, ew] at h6
    lia
  refine s_seq (s_ex (bm_l (l := nz (wg (s3.setRow k (w :: -x :: rest)) (-x))) (b := lay2 (.wt (-x))) rfl hkept rfl (e_cons (pv_ok _ (.int k) _ (hsub rfl rfl ho4.1) (e_nil (app_ok hkept (by rw [nz_len]; exact hlen5) ?_))))))
  rw [show nz (wg (s3.setRow k (w :: -x :: rest)) (-x)) ++ [V.int k] = nz (wg (s3.setRow k (w :: -x :: rest)) (-x) ++ [k]) from (nz_app (r := [k])).symm]
  have u5' : SF H4 lay3 (s3.setRow k (w :: -x :: rest)) (H4.set (lay2 (.wt (-x))) (.lst (nz (wg (s3.setRow k (w :: -x :: rest)) (-x) ++ [k])))) lay3 (keptS (s3.setRow k (w :: -x :: rest)) (-x) (wg (s3.setRow k (w :: -x :: rest)) (-x) ++ [k])) := u5
  generalize H4.set (lay2 (.wt (-x))) (.lst (nz (wg (s3.setRow k (w :: -x :: rest)) (-x) ++ [k]))) = H5 at u5'
  have ho5 := h4.1.out u5'.2 ho4.1 ho4.2
  have ha5 := u5'.ins ha4
  have hr5 : (keptS (s3.setRow k (w :: -x :: rest)) (-x) (wg (s3.setRow k (w :: -x :: rest)) (-x) ++ [k])).rows[k]? = some (w :: -x :: rest) := setRow_at hklt
  have hk5 : k < (keptS (s3.setRow k (w :: -x :: rest)) (-x) (wg (s3.setRow k (w :: -x :: rest)) (-x) ++ [k])).rows.length := (List.getElem?_eq_some_iff.mp hr5).1
  have hrow5 := u5'.1.row hr5
  have h345 := h3.trans (h4.trans u5')
  have K5 : Kp s (keptS (s3.setRow k (w :: -x :: rest)) (-x) (wg (s3.setRow k (w :: -x :: rest)) (-x) ++ [k])) := K3.trans (Kp.row.trans Kp.wat)
  refine s_seq (s_asg (pv_ok _ (.int w) _ (pvb (ref_row u5'.1 ha5 hk5 (by exact hsub rfl rfl ho5.1)) (pvb rfl (sb_l (n := 0) hrow5 rfl))) ?_))
  have T5 : TD N (keptS (s3.setRow k (w :: -x :: rest)) (-x) (wg (s3.setRow k (w :: -x :: rest)) (-x) ++ [k])) := ⟨S3.core.td.nz, S3.core.td.nd, S3.core.td.kn, S3.core.td.kK, S3.core.td.hK, S3.core.td.cK, S3.core.td.lK, S3.core.td.lB⟩
  have hal5 := S4.clash
  rcases T5.say hw0 with ⟨hin, hsay⟩ | ⟨hin, hsay⟩ | ⟨hin, hsay⟩
  · -- true
    refine s_seq (s_says (l := w) (b := false) u5'.1 ha5 T5.knOK rfl rfl (by rw [hsay]; rfl) (fun h => by cases h) fun _ => s_skip (s_seq (s_says (l := w) (b := false) u5'.1 ha5 T5.knOK rfl rfl (by rw [hsay]; rfl) (fun h => by cases h) fun _ => s_skip (s_skip (hK _ _ ⟨lay3, _, _, _, rfl, h345, K5, ho5.1, ho5.2, hl3, S4.keep hk (setRow_at hklt) ?_ hwl⟩)))))
    obtain ⟨j, hj⟩ := List.mem_iff_getElem?.mp hin
    exact ⟨j, hj, by rw [lvl_all S4.be]; exact lvl_le⟩
  · -- false: a clash
    have hall : ∀ y ∈ w :: -x :: rest, -y ∈ s3.ro := fun y hy => by
      rcases List.mem_cons.mp hy with rfl | hy
      · exact hin
      · rcases List.mem_cons.mp hy with rfl | hy
        · exact List.mem_of_getElem? S3.at_
        · exact hcase.elim (fun h => (T5.no2 h hin).elim) fun h => h y hy
    refine s_seq (s_says (l := w) (b := true) u5'.1 ha5 T5.knOK rfl rfl (by rw [hsay]; rfl) (fun _ => ?_) fun h => by cases h)
    have hkept5 := u5'.1.at_ (.wt (-x)) S4.lk
    have hkept5 : H5 (lay2 (.wt (-x))) = some (.lst (nz (wg (s3.setRow k (w :: -x :: rest)) (-x) ++ [k]))) := by
      rw [← hl3, hkept5]
      show some (O.lst (nz (if (-x) = (-x) then _ else _))) = _
      rw [if_pos rfl]
    refine s_seq (s_ex (bm_l (l := nz (wg (s3.setRow k (w :: -x :: rest)) (-x) ++ [k])) (b := lay2 (.wt (-x))) rfl hkept5 rfl (e_cons (sl_lo (a := old) (k := i + 1) rfl ho5.1 (pvb rfl (pvb rfl (by rw [e0]; rfl))) fun y hy => e_nil ?_))))
    have u6 := SF.junk u5'.1 (o := .lst ((nz (wg s1 (-x))).drop (i + 1))) hy
    have e6 : (nz (wg s1 (-x))).drop (i + 1) = nz ((wg s1 (-x)).drop (i + 1)) := List.map_drop.symm
    have hkept6 : (H5.set y (.lst ((nz (wg s1 (-x))).drop (i + 1)))) (lay2 (.wt (-x))) = some (.lst (nz (wg (s3.setRow k (w :: -x :: rest)) (-x) ++ [k]))) := by
      rw [set_ne fun e => by rw [← e, hkept5] at hy; cases hy]; exact hkept5
    refine ext_ok hkept6 (by rw [set_eq, e6]) (fun e => by rw [← e, hkept5] at hy; cases hy) ?_ ?_
    · have h6 := S4.wlen.1
      rw [drop_get hk] at h6
      have : (s3.setRow k (w :: -x :: rest)).rows.length = s3.rows.length := List.length_set ..
      rw [this] at h6
      rw [nz_len, nz_len]
      simp only [List.length_append, List.length_cons, List.length_nil] at h6 ⊢
      lia
    have u7 := u_wt u6.1 S4.lk (wg (s3.setRow k (w :: -x :: rest)) (-x) ++ (wg s1 (-x)).drop i)
    rw [hl3] at u7
    have e7 : nz (wg (s3.setRow k (w :: -x :: rest)) (-x) ++ [k]) ++ nz ((wg s1 (-x)).drop (i + 1)) = nz (wg (s3.setRow k (w :: -x :: rest)) (-x) ++ (wg s1 (-x)).drop i) := by
      rw [← nz_app, drop_get hk, List.append_assoc]; rfl
    rw [e7]
    have u7' : SF (H5.set y (.lst ((nz (wg s1 (-x))).drop (i + 1)))) lay3 _ ((H5.set y (.lst ((nz (wg s1 (-x))).drop (i + 1)))).set (lay2 (.wt (-x))) (.lst (nz (wg (s3.setRow k (w :: -x :: rest)) (-x) ++ (wg s1 (-x)).drop i)))) lay3 (keptS (keptS (s3.setRow k (w :: -x :: rest)) (-x) (wg (s3.setRow k (w :: -x :: rest)) (-x) ++ [k])) (-x) (wg (s3.setRow k (w :: -x :: rest)) (-x) ++ (wg s1 (-x)).drop i)) := u7
    rw [kept_two] at u7'
    have ho7 : ((H5.set y (.lst ((nz (wg s1 (-x))).drop (i + 1)))).set (lay2 (.wt (-x))) (.lst (nz (wg (s3.setRow k (w :: -x :: rest)) (-x) ++ (wg s1 (-x)).drop i)))) old = some (.lst (nz (wg s1 (-x)))) := by
      rw [set_ne fun e => ho5.2 ⟨.wt (-x), S4.lk, by rw [hl3, e]⟩, set_ne fun e => by rw [← e, ho5.1] at hy; cases hy]; exact ho5.1
    exact s_seq (s_ret (pv_ok _ (.int k) _ (by exact hsub rfl rfl ho7) ⟨trivial, q2 _ lay3 _ k s1.seen _ (h345.trans (u6.trans u7')) (K3.trans (Kp.row.trans Kp.wat)) hal5.1 S4.cv hal5.2 S4.pr S4.be (setRow_at hklt) hall ⟨-x, List.mem_cons_of_mem _ (List.mem_cons_self ..), S3.at_⟩⟩))
  · -- open: set
    have hrest : ∀ y ∈ rest, -y ∈ s3.ro := hcase.elim (fun h => (hin w h rfl).elim) id
    obtain ⟨S6, hj⟩ := S4.let_ (setRow_at hklt) hin hrest
    have S7 := S6.keep hk (setRow_at hklt) hj hwl
    have C5 : Core N M (keptS (s3.setRow k (w :: -x :: rest)) (-x) (wg (s3.setRow k (w :: -x :: rest)) (-x) ++ [k])) := S4.core.wat S4.core.wn S4.core.wr
    refine s_seq (s_says (l := w) (b := false) u5'.1 ha5 T5.knOK rfl rfl (by rw [hsay]; rfl) (fun h => by cases h) fun _ => s_skip (s_seq (s_says (l := w) (b := true) u5'.1 ha5 T5.knOK rfl rfl (by rw [hsay]; rfl) (fun _ => ?_) fun h => by cases h)))
    refine s_seq (s_ex (cm_ok (xs := [.loc 5, .sub (.loc 2) (.loc 4)]) (P := fun _ H => _) u5'.1 ha5 rfl (e_cons (pv_ok (.loc 5) (.int w) _ rfl (e_cons (pv_ok _ (.int k) _ (by exact hsub rfl rfl ho5.1) (e_nil (c_let u5'.1 ha5 (C5.sz hN) rfl fun H6 h6 => ?_))))))))
    have ho6 := u5'.1.out h6.2 ho5.1 ho5.2
    have hpl : s1.seen < s3.ro.length := (List.getElem?_eq_some_iff.mp S3.at_).1
    exact s_skip (s_skip (hK _ _ ⟨lay3, _, _, _, rfl, h345.trans h6, K5.trans (Kp.let_ fun b hb => Nat.lt_of_le_of_lt (S4.be b hb) hpl), ho6.1, ho6.2, hl3, S7⟩))
end
end Mine
end
section
open PySem PySem.W
set_option tactic.hygienic false
namespace Mine
noncomputable def mkd (s : St) (fv : List Int) (i : Nat) : Bool := match s.ro[i]? with
  | some l => decide ((l.natAbs : Int) ∈ fv) && decide (lvl s.be i = s.be.length)
  | none => false
noncomputable def cnt (s : St) (fv : List Int) (n : Nat) : Nat := ((List.range n).filter (mkd s fv)).length
theorem fil1 {p : Nat → Bool} {n : Nat} : [n].filter p = if p n = true then [n] else [] := by
  rw [List.filter_cons]; rfl
theorem filter_one {p p' : Nat → Bool} {i : Nat} (h : ∀ j, p' j = (p j || decide (j = i))) (hi : p i = false) : ∀ n, ((List.range n).filter p').length = ((List.range n).filter p).length + if i < n then 1 else 0
  | 0 => rfl
  | n + 1 => by
    rw [List.range_succ, List.filter_append, List.filter_append, List.length_append, List.length_append, filter_one h hi n, fil1, fil1, h n]
    by_cases e : n = i
    · subst e
      rw [hi]; simp
    · have e2 : decide (n = i) = false := decide_eq_false e
      rw [e2, Bool.or_false]
      by_cases h2 : i < n
      · rw [if_pos h2, if_pos (Nat.lt_succ_of_lt h2)]; lia
      · rw [if_neg h2, if_neg (show ¬ i < n + 1 by lia)]; lia
theorem lvl_full {be : List Nat} {i : Nat} (h : lvl be i = be.length) : ∀ b ∈ be, b ≤ i := by
  unfold lvl at h
  have := List.filter_sublist (l := be) (p := fun b => decide (b ≤ i)) |>.eq_of_length h
  intro b hb
  rw [← this] at hb
  exact of_decide_eq_true (List.mem_filter.mp hb).2
noncomputable def Neg (α : Nat → Bool) (bh : List Int) : Prop := ∀ b ∈ bh, ltr α (-b)
noncomputable def Mks (s : St) (α : Nat → Bool) (fv : List Int) (n : Nat) : Prop := ∀ i < n, ∀ l, s.ro[i]? = some l → mkd s fv i = true → ltr α l
structure LsI (N : Nat) (M : (Nat → Bool) → Prop) (s : St) (c : List Int) (es : List (Int × V)) (bh : List Int) (spot : Nat) (last : Int) : Prop where
  kf : Keys N es
  b1 : ∀ b ∈ bh, ∃ i, An4 (s.ro[i]? = some (-b)) (0 < lvl s.be i) (lvl s.be i < s.be.length) ((b.natAbs : Int) ∈ ky es)
  b2 : (bh.map Int.natAbs).Nodup
  f1 : ∀ v ∈ ky es, Ex2 fun i l => An3 (s.ro[i]? = some l) ((l.natAbs : Int) = v) ((lvl s.be i < s.be.length → -l ∈ bh))
  sp : spot ≤ s.ro.length
  cl : ∀ x ∈ c, x ≠ last → ∃ i < spot, s.ro[i]? = some (-x)
  sem : ∀ α, M α → Neg α bh → Mks s α (ky es) spot → (∀ x ∈ c, x ≠ last → ltr α (-x)) → False
  ne : 1 ≤ cnt s (ky es) spot ∨ ∃ x ∈ c, x ≠ last ∧ ∃ p < spot, s.ro[p]? = some (-x) ∧ lvl s.be p = s.be.length
section
variable {N : Nat} {M : (Nat → Bool) → Prop} {s : St} {c bh : List Int} {es : List (Int × V)} {spot : Nat} {last : Int}
theorem ro_inj (T : TD N s) {i j : Nat} {l l' : Int} (h : s.ro[i]? = some l) (h' : s.ro[j]? = some l') (e : l.natAbs = l'.natAbs) : i = j ∧ l = l' := by
  obtain ⟨h1, rfl⟩ := List.getElem?_eq_some_iff.mp h
  obtain ⟨h2, rfl⟩ := List.getElem?_eq_some_iff.mp h'
  have e1 : i = j := by
    have a1 : i < (s.ro.map Int.natAbs).length := by rw [List.length_map]; exact h1
    have a2 : j < (s.ro.map Int.natAbs).length := by rw [List.length_map]; exact h2
    exact (List.getElem_inj (h₀ := a1) (h₁ := a2) T.nd).mp (by rw [List.getElem_map, List.getElem_map]; exact e)
  subst e1; exact ⟨rfl, rfl⟩
theorem ky_put_mem {k : Int} {v : V} {x : Int} : x ∈ ky (put es k v) ↔ x ∈ ky es ∨ x = k := by
  rw [ky_put]
  split
  · rename_i hk
    exact ⟨.inl, fun h => h.elim id fun e => e ▸ hk⟩
  · rw [List.mem_append, List.mem_singleton]
theorem mkd_put (T : TD N s) {i : Nat} {l : Int} (h : s.ro[i]? = some l) {v : V} {k : Int} (hk : k = l.natAbs) (j : Nat) : mkd s (ky (put es k v)) j = (mkd s (ky es) j || (decide (j = i) && decide (lvl s.be i = s.be.length))) := by
  unfold mkd
  cases hj : s.ro[j]? with
  | none =>
    by_cases e : j = i
    · subst e; rw [h] at hj; cases hj
    · simp [e]
  | some l' =>
    dsimp only
    rw [show decide ((l'.natAbs : Int) ∈ ky (put es k v)) = (decide ((l'.natAbs : Int) ∈ ky es) || decide (j = i)) by
      rw [← Bool.decide_or]
      apply decide_eq_decide.mpr
      rw [ky_put_mem]
      refine or_congr Iff.rfl ⟨fun e => (ro_inj T hj h (by rw [hk] at e; exact_mod_cast e)).1, fun e => ?_⟩
      subst e
      rw [h] at hj; cases hj; exact hk.symm]
    by_cases e : j = i
    · subst e
      cases decide ((l'.natAbs : Int) ∈ ky es) <;> cases decide (lvl s.be j = s.be.length) <;> simp
    · simp [e]
theorem mkd_mono (T : TD N s) {fv fv' : List Int} (h : ∀ v ∈ fv, v ∈ fv') {j : Nat} (hj : mkd s fv j = true) : mkd s fv' j = true := by
  unfold mkd at hj ⊢
  cases hr : s.ro[j]? with
  | none => rw [hr] at hj; cases hj
  | some l =>
    rw [hr] at hj
    dsimp only at hj ⊢
    rw [Bool.and_eq_true] at hj ⊢
    exact ⟨decide_eq_true (h _ (of_decide_eq_true hj.1)), hj.2⟩
theorem cnt_mono (T : TD N s) {fv fv' : List Int} (h : ∀ v ∈ fv, v ∈ fv') (n : Nat) : cnt s fv n ≤ cnt s fv' n := by
  unfold cnt
  induction n with
  | zero => exact Nat.le_refl _
  | succ n ih =>
    rw [List.range_succ, List.filter_append, List.filter_append, List.length_append, List.length_append, fil1, fil1]
    cases h1 : mkd s fv n with
    | false => simp only [Bool.false_eq_true, if_false, List.length_nil]; lia
    | true => rw [mkd_mono T h h1]; simp only [if_true, List.length_singleton]; lia
theorem LsI.hi (L : LsI N M s c es bh spot last) (C : Core N M s) {x : Int} {i : Nat} (hx : x ∈ c) (hi : s.ro[i]? = some (-x)) (his : i < spot) (hn : (x.natAbs : Int) ∉ ky es) (hl : lvl s.be i = s.be.length) : LsI N M s c (put es x.natAbs (.bool true)) bh spot last ∧ cnt s (ky (put es x.natAbs (.bool true))) spot = cnt s (ky es) spot + 1 := by
  have hk := C.td.nz _ (List.mem_of_getElem? hi)
  have hsub : ∀ v ∈ ky es, v ∈ ky (put es x.natAbs (.bool true)) := fun v hv => ky_put_mem.mpr (.inl hv)
  have hc : cnt s (ky (put es x.natAbs (.bool true))) spot = cnt s (ky es) spot + 1 := by
    have h1 := filter_one (p := mkd s (ky es)) (p' := mkd s (ky (put es x.natAbs (.bool true)))) (i := i) (fun j => by rw [mkd_put C.td hi (by lia) j, decide_eq_true hl, Bool.and_true]) (by
      unfold mkd
      rw [hi]
      dsimp only
      rw [Int.natAbs_neg, decide_eq_false hn]; rfl) spot
    rw [if_pos his] at h1
    exact h1
  refine ⟨⟨L.kf.put (by lia) (by lia), fun b hb => ?_, L.b2, fun v hv => ?_, L.sp, L.cl, fun α hα h1 h2 h3 => L.sem α hα h1 (fun j hj l hl hm => h2 j hj l hl (mkd_mono C.td hsub hm)) h3, .inl (by lia)⟩, hc⟩
  · refine nn fun hC => ?_
    obtain ⟨j, h1, h2, h3, h4⟩ := L.b1 b hb
    refine hC ?_
    exact ⟨j, h1, h2, h3, hsub _ h4⟩
  · rcases ky_put_mem.mp hv with hv | rfl
    · exact L.f1 v hv
    · exact ⟨i, -x, hi, by lia, fun h => by lia⟩
theorem LsI.lo (L : LsI N M s c es bh spot last) (C : Core N M s) {x : Int} {i : Nat} (hx : x ∈ c) (hi : s.ro[i]? = some (-x)) (his : i < spot) (hn : (x.natAbs : Int) ∉ ky es) (h0 : 0 < lvl s.be i) (hl : lvl s.be i < s.be.length) : LsI N M s c (put es x.natAbs (.bool true)) (bh ++ [x]) spot last ∧ cnt s (ky (put es x.natAbs (.bool true))) spot = cnt s (ky es) spot := by
  have hk := C.td.nz _ (List.mem_of_getElem? hi)
  have hsub : ∀ v ∈ ky es, v ∈ ky (put es x.natAbs (.bool true)) := fun v hv => ky_put_mem.mpr (.inl hv)
  have hm : mkd s (ky (put es x.natAbs (.bool true))) = mkd s (ky es) := funext fun j => by
    rw [mkd_put C.td hi (by lia) j, decide_eq_false (Nat.ne_of_lt hl), Bool.and_false, Bool.or_false]
  have hc : cnt s (ky (put es x.natAbs (.bool true))) spot = cnt s (ky es) spot := by unfold cnt; rw [hm]
  refine ⟨⟨L.kf.put (by lia) (by lia), fun b hb => ?_, ?_, fun v hv => ?_, L.sp, L.cl, fun α hα h1 h2 h3 => L.sem α hα (fun b hb => h1 b (List.mem_append_left _ hb)) (fun j hj l hl hm' => h2 j hj l hl (by rw [hm]; exact hm')) h3, L.ne.imp (fun h => by rw [hc]; exact h) id⟩, hc⟩
  · rcases List.mem_append.mp hb with hb | hb
    · refine nn fun hC => ?_
      obtain ⟨j, h1, h2, h3, h4⟩ := L.b1 b hb
      refine hC ?_
      exact ⟨j, h1, h2, h3, hsub _ h4⟩
    · rw [List.mem_singleton.mp hb]
      exact ⟨i, hi, h0, hl, ky_put_mem.mpr (.inr rfl)⟩
  · rw [List.map_append, List.nodup_append]
    refine ⟨L.b2, by simp, fun a ha b hb e => ?_⟩
    obtain ⟨y, hy, rfl⟩ := List.mem_map.mp ha
    simp only [List.map_cons, List.map_nil, List.mem_singleton] at hb
    obtain ⟨_, _, _, _, h4⟩ := L.b1 y hy
    rw [e, hb] at h4
    exact hn h4
  · rcases ky_put_mem.mp hv with hv | rfl
    · refine nn fun hC => ?_
      obtain ⟨j, l, h1, h2, h3⟩ := L.f1 v hv
      refine hC ?_
      exact ⟨j, l, h1, h2, fun h => List.mem_append_left _ (h3 h)⟩
    · exact ⟨i, -x, hi, by lia, fun _ => by rw [Int.neg_neg]; exact List.mem_append_right _ (List.mem_singleton.mpr rfl)⟩
noncomputable def Seen (s : St) (es : List (Int × V)) (last : Int) (l : List Int) : Prop := ∀ x ∈ l, x ≠ last → ∀ i, s.ro[i]? = some (-x) → lvl s.be i = 0 ∨ (x.natAbs : Int) ∈ ky es
structure ScI (N : Nat) (M : (Nat → Bool) → Prop) (s : St) (es : List (Int × V)) (bh : List Int) (q : Nat) : Prop where
  sem : ∀ α, M α → Neg α bh → Mks s α (ky es) q → False
  one : 1 ≤ cnt s (ky es) q
  le : q ≤ s.ro.length
theorem LsI.close (L : LsI N M s c es bh spot last) (C : Core N M s) (hb : 0 < s.be.length) (hs : Seen s es last c) : ScI N M s es bh spot := by
  refine ⟨fun α hα h1 h2 => L.sem α hα h1 h2 fun x hx hxl => ?_, ?_, L.sp⟩
  · obtain ⟨i, his, hi⟩ := L.cl x hx hxl
    rcases hs x hx hxl i hi with h0 | hf
    · exact C.zM i _ hi h0 α hα
    · refine nn fun hC => ?_
      obtain ⟨j, l, hj, he, h3⟩ := L.f1 _ hf
      obtain ⟨rfl, rfl⟩ := ro_inj C.td hj hi (by lia)
      refine hC ?_
      by_cases hl : lvl s.be j < s.be.length
      · have := h1 _ (h3 hl)
        rwa [Int.neg_neg] at this
      · refine h2 j his _ hi ?_
        unfold mkd
        rw [hi]
        dsimp only
        rw [Int.natAbs_neg, decide_eq_true hf, decide_eq_true (Nat.le_antisymm lvl_le (by lia))]; rfl
  · rcases L.ne with h | ⟨x, hx, hxl, p, hp, hpr, hpl⟩
    · exact h
    · have hf := (hs x hx hxl p hpr).resolve_left (by lia)
      unfold cnt
      rw [Nat.succ_le_iff, List.length_pos_iff]
      intro h
      rw [List.filter_eq_nil_iff] at h
      refine h p (List.mem_range.mpr hp) ?_
      unfold mkd
      rw [hpr]
      dsimp only
      rw [Int.natAbs_neg, decide_eq_true hf, decide_eq_true hpl]; rfl
theorem cnt_succ {fv : List Int} {q : Nat} : cnt s fv (q + 1) = cnt s fv q + if mkd s fv q = true then 1 else 0 := by
  unfold cnt
  rw [List.range_succ, List.filter_append, List.length_append, fil1]
  cases mkd s fv q <;> rfl
theorem cnt_pos {fv : List Int} {q : Nat} (h : 1 ≤ cnt s fv q) : ∃ i < q, mkd s fv i = true := by
  unfold cnt at h
  obtain ⟨i, hi⟩ := List.length_pos_iff_exists_mem.mp h
  have := List.mem_filter.mp hi
  exact ⟨i, List.mem_range.mp this.1, this.2⟩
theorem mkd_lvl {fv : List Int} {q : Nat} (h : mkd s fv q = true) : lvl s.be q = s.be.length := by
  unfold mkd at h
  cases hr : s.ro[q]? with
  | none => rw [hr] at h; cases h
  | some l =>
    rw [hr] at h
    dsimp only at h
    rw [Bool.and_eq_true] at h
    exact of_decide_eq_true h.2
theorem ScI.skip {q : Nat} (S : ScI N M s es bh (q + 1)) {l : Int} (hl : s.ro[q]? = some l) (hn : (l.natAbs : Int) ∉ ky es) : ScI N M s es bh q ∧ cnt s (ky es) q = cnt s (ky es) (q + 1) := by
  have hm : mkd s (ky es) q = false := by
    unfold mkd
    rw [hl]
    dsimp only
    rw [decide_eq_false hn]; rfl
  have hc : cnt s (ky es) q = cnt s (ky es) (q + 1) := by rw [cnt_succ, hm]; rfl
  refine ⟨⟨fun α hα h1 h2 => S.sem α hα h1 fun i hi l' hl' hm' => ?_, by rw [hc]; exact S.one, Nat.le_of_succ_le S.le⟩, hc⟩
  rcases Nat.lt_succ_iff_lt_or_eq.mp hi with hi | rfl
  · exact h2 i hi l' hl' hm'
  · rw [hm] at hm'; cases hm'
theorem ScI.top {q : Nat} (S : ScI N M s es bh (q + 1)) {l : Int} (hl : s.ro[q]? = some l) (hn : (l.natAbs : Int) ∈ ky es) : lvl s.be q = s.be.length ∧ cnt s (ky es) (q + 1) = cnt s (ky es) q + 1 := by
  obtain ⟨i, hi, hm⟩ := cnt_pos S.one
  have h1 : lvl s.be q = s.be.length := Nat.le_antisymm lvl_le (by rw [← mkd_lvl hm]; exact lvl_mono (by lia))
  have h2 : mkd s (ky es) q = true := by
    unfold mkd
    rw [hl]
    dsimp only
    rw [decide_eq_true hn, decide_eq_true h1]; rfl
  exact ⟨h1, by rw [cnt_succ, h2]; rfl⟩
theorem ScI.learn {q : Nat} (S : ScI N M s es bh (q + 1)) (C : Core N M s) {u : Int} (hl : s.ro[q]? = some u) (hn : (u.natAbs : Int) ∈ ky es) (h0 : cnt s (ky es) q = 0) (b1 : ∀ b ∈ bh, b ≠ 0) : ∀ α, M α → Sat α (-u :: bh) := by
  intro α hα
  apply Classical.byContradiction
  intro hns
  have hu := (C.td.nz u (List.mem_of_getElem? hl)).1
  have hf : ∀ y ∈ -u :: bh, ¬ ltr α y := fun y hy ht => hns ⟨y, hy, ht⟩
  refine S.sem α hα (fun b hb => (ltr_neg (b1 b hb)).mpr (hf b (List.mem_cons_of_mem _ hb))) fun i hi l hi' hm => ?_
  rcases Nat.lt_succ_iff_lt_or_eq.mp hi with hi | rfl
  · exfalso
    unfold cnt at h0
    have := List.length_eq_zero_iff.mp h0
    rw [List.filter_eq_nil_iff] at this
    exact this i (List.mem_range.mpr hi) hm
  · rw [hl] at hi'; cases hi'
    have := hf (-u) (List.mem_cons_self ..)
    exact Classical.byContradiction fun h => this ((ltr_neg hu).mpr h)
theorem LsI.next {q k0 : Nat} {c0 : List Int} (L : LsI N M s c0 es bh k0 last) (S : ScI N M s es bh (q + 1)) (C : Core N M s) (hb : 0 < s.be.length) {u : Int} (hl : s.ro[q]? = some u) (hn : (u.natAbs : Int) ∈ ky es) (h0 : cnt s (ky es) q ≠ 0) : Ex2 fun (k : Nat) (c : List Int) => An3 (get s.ca u.natAbs = some (.int k)) (s.rows[k]? = some c) (LsI N M s c es bh q u) := by
  obtain ⟨h1, h2⟩ := S.top hl hn
  obtain ⟨i, hi, hm⟩ := cnt_pos (Nat.one_le_iff_ne_zero.mpr h0)
  rcases C.ca q u hl with ⟨h3, h4⟩ | ⟨k, c, h3, h4, h5, h6⟩
  · exfalso
    rcases h4 with h4 | h4
    · lia
    · have := lvl_full (mkd_lvl hm) q h4
      lia
  · refine ⟨k, c, h3, h4, L.kf, L.b1, L.b2, L.f1, Nat.le_of_succ_le S.le, fun x hx hxu => ?_, fun α hα h7 h8 h9 => ?_, .inl (Nat.one_le_iff_ne_zero.mpr h0)⟩
    · obtain ⟨j, hj⟩ := List.mem_iff_getElem?.mp (h6 x hx hxu)
      have hlt := (List.getElem?_eq_some_iff.mp hj).1
      rw [List.length_take] at hlt
      rw [List.getElem?_take_of_lt (by lia)] at hj
      exact ⟨j, by lia, hj⟩
    · obtain ⟨y, hy, ht⟩ := C.rM c (List.mem_of_getElem? h4) α hα
      have hy0 := ((C.rk c (List.mem_of_getElem? h4)).2.2 y hy).1
      have hyu : y = u := Classical.byContradiction fun e => (ltr_neg hy0).mp (h9 y hy e) ht
      subst hyu
      refine S.sem α hα h7 fun j hj l hl' hm' => ?_
      rcases Nat.lt_succ_iff_lt_or_eq.mp hj with hj | rfl
      · exact h8 j hj l hl' hm'
      · rw [hl] at hl'; cases hl'; exact ht
theorem LsI.start (C : Core N M s) (hc : c ∈ s.rows) (hall : ∀ x ∈ c, -x ∈ s.ro) {p : Nat} (hp : ∀ b ∈ s.be, b ≤ p) (hx : ∃ x ∈ c, s.ro[p]? = some (-x)) : LsI N M s c [] [] s.ro.length 0 := by
  have hnz := (C.rk c hc).2.2
  refine ⟨.nil, fun b hb => (by cases hb), List.nodup_nil, fun v hv => (by cases hv), Nat.le_refl _, fun x hx _ => ?_, fun α hα _ _ h => ?_, ?_⟩
  · obtain ⟨i, hi⟩ := List.mem_iff_getElem?.mp (hall x hx)
    exact ⟨i, (List.getElem?_eq_some_iff.mp hi).1, hi⟩
  · obtain ⟨x, hx, ht⟩ := C.rM c hc α hα
    exact (ltr_neg (hnz x hx).1).mp (h x hx (hnz x hx).1) ht
  · obtain ⟨x, hx, hxp⟩ := hx
    exact .inr ⟨x, hx, (hnz x hx).1, p, (List.getElem?_eq_some_iff.mp hxp).1, hxp, lvl_all hp⟩
end
end Mine
end
section
open PySem PySem.W
set_option tactic.hygienic false
namespace Mine
theorem ne_ii {H : AH} {i j : Int} : cmpV H .ne (.int i) (.int j) = some (!decide (i = j)) := by
  show (eqV H (.int i) (.int j)).map (!·) = _
  rw [show eqV H (.int i) (.int j) = some (decide (i = j)) from eq_ii (H := H)]; rfl
theorem eq_nn {H : AH} {i j : Nat} : cmpV H .eq (.int i) (.int j) = some (decide (i = j)) := by
  rw [eq_ii]
  congr 1
  exact decide_eq_decide.mpr (by lia)
theorem nm {H : AH} {d : Addr} {es : List (Int × V)} {k : Int} (h : H d = some (.dct es)) : cmpV H .notMem (.int k) (.ref d) = some (!decide (k ∈ ky es)) := by
  show (memV H (.int k) (.ref d)).map (!·) = _
  rw [mb h]; rfl
section
variable {sp : Sp} {m : List V} {H : AH} {Q : V → AH → Prop}
theorem pv_and {l r : X} {b d : Bool} (h : l.pv m H = some (.bool b)) (h' : b = true → r.pv m H = some (.bool d)) : (X.and l r).pv m H = some (.bool (b && d)) := by
  refine pvb (pvb h rfl) ?_
  cases b
  · rfl
  · show ((r.pv m H).bind V.b?).map V.bool = _
    rw [h' rfl]; rfl
theorem abs_pv {x : X} {i : Int} (h : x.pv m H = some (.int i)) : (X.bi .abs [x]).pv m H = some (.int i.natAbs) := pvb (pvb h rfl) rfl
theorem e_dict0 (h : ∀ a, H a = none → Q (.ref a) (H.set a (.dct []))) : (X.dict0).ev sp m H Q := h
theorem add_ll {a b : Addr} {l r : List V} (h : H a = some (.lst l)) (h' : H b = some (.lst r)) (hl : l.length + r.length ≤ sz) (q : ∀ x, H x = none → Q (.ref x) (H.set x (.lst (l ++ r)))) : binW H .add (.ref a) (.ref b) Q := by
  show ifS (H a) _
  exact ifS_mk h (ifS_mk h' ⟨hl, q⟩)
theorem e_bin {op : Op} {l r : X} (h : l.ev sp m H fun v H => r.ev sp m H fun w H => binW H op v w Q) : (X.bin op l r).ev sp m H Q := h
end
structure Les (N : Nat) (M : (Nat → Bool) → Prop) (s : St) (u : Int) (bh : List Int) : Prop where
  u1 : ∃ i, s.ro[i]? = some u ∧ lvl s.be i = s.be.length
  b1 : ∀ b ∈ bh, ∃ i, An3 (s.ro[i]? = some (-b)) (0 < lvl s.be i) (lvl s.be i < s.be.length)
  nd : ((-u :: bh).map Int.natAbs).Nodup
  sat : ∀ α, M α → Sat α (-u :: bh)
noncomputable def LH (N : Nat) (H : AH) (lay : Ro → Addr) (s : St) (fa ba : Addr) (es : List (Int × V)) (bh : List Int) (H' : AH) : Prop :=
  Ex3 fun lay' es' g => An6 (SF H lay s H' lay' (hot s es' g)) (HtOK N es') (H' fa = some (.dct es)) (H' ba = some (.lst (zs bh))) (¬ fp lay' (hot s es' g) fa) (¬ fp lay' (hot s es' g) ba)
section
variable {n : Nat} {H : AH} {lay : Ro → Addr} {s : St} {a : Addr} {Q : V → AH → Prop} {N : Nat} {M : (Nat → Bool) → Prop}
theorem c_lesson (So : Sol H lay s) (ha : lay .ins = a) (C : Core N M s) (hN : N < 1000) (hb : 0 < s.be.length) {k : Nat} {c : List Int} (hk : s.rows[k]? = some c) (hall : ∀ x ∈ c, -x ∈ s.ro) {p : Nat} (hp : ∀ b ∈ s.be, b ≤ p) (hx : ∃ x ∈ c, s.ro[p]? = some (-x))
    (qq : ∀ H' lay' es g y u bh, SF H lay s H' lay' (hot s es g) → HtOK N es → H' y = some (.lst (zs (-u :: bh))) → ¬ fp lay' (hot s es g) y → Les N M s u bh → Q (.ref y) H') : spN tab02 (n + 2) 12 [.ref a, .int k] H Q := by
  have hsz : N < sz := Nat.lt_trans hN (by decide)
  refine sp_go rfl rfl (s_seq (s_asgN (e_cons (e_dict0 fun fa hfa => e_cons (e_list (e_nil fun ba hba => e_cons (pv_ok (.c (.int 0)) (.int 0) _ rfl (e_cons (pv_ok _ (.int s.ro.length) _ (len_pv (((So.junk hfa).junk hba).a_ ha rfl rfl) (ln_zs (((So.junk hfa).junk hba).at_ .ro trivial))) (e_cons (pv_ok (.c (.int 0)) (.int 0) _ rfl (e_nil ⟨rfl, ?_⟩))))))))))))
  have h0 := (SF.junk So (o := .dct []) hfa).trans (SF.junk (So.junk hfa) (o := .lst []) hba)
  have hfb : fa ≠ ba := by rintro rfl; rw [set_eq] at hba; cases hba
  have ffa : Fre H lay s fa := .of hfa
  have fba : Fre H lay s ba := (SF.junk So (o := .dct []) hfa).fre hba
  have hLH0 : LH N H lay s fa ba [] [] ((H.set fa (.dct [])).set ba (.lst [])) := ⟨lay, s.ht, s.gain, h0, C.ht, by rw [set_ne hfb]; exact set_eq, set_eq, So.nfp hfa, (So.junk hfa).nfp hba⟩
  generalize ((H.set fa (.dct [])).set ba (.lst [])) = H0 at hLH0
  have hcnt0 : (0 : Int) = (cnt s (ky []) s.ro.length : Nat) := by
    have : cnt s (ky []) s.ro.length = 0 := by
      unfold cnt
      rw [List.length_eq_zero_iff, List.filter_eq_nil_iff]
      intro i _ h
      unfold mkd at h
      cases hr : s.ro[i]? with
      | none => rw [hr] at h; cases h
      | some l => rw [hr] at h; cases h
    rw [this]; rfl
  refine s_seq (s_whK (fun t m H' => Ex7 fun (k : Nat) (c : List Int) (es : List (Int × V)) (bh : List Int) (last : Int) (z7 z8 : V) => An4 (m = [.ref a, .int k, .ref fa, .ref ba, .int (cnt s (ky es) t : Nat), .int t, .int last, z7, z8]) (s.rows[k]? = some c) (LH N H lay s fa ba es bh H') (LsI N M s c es bh t last)) s.ro.length ⟨k, c, [], [], 0, .un, .un, by rw [← hcnt0]; rfl, hk, hLH0, LsI.start C (List.mem_of_getElem? hk) hall hp hx⟩ fun t m H1 KW hI hW => ⟨true, rfl, fun _ => ?_, fun h => by cases h⟩)
  clear hk hall hx hLH0
  refine nn fun hC => ?_
  obtain ⟨k, c, es, bh, last, z7, z8, rfl, hk, hL, L⟩ := hI
  obtain ⟨lay1, es1, g1, h1, ht1, hfa1, hba1, nfa1, nba1⟩ := hL
  refine hC ?_
  have hklt := (List.getElem?_eq_some_iff.mp hk).1
  have hfix : ∀ {H' lay' es g}, SF H lay s H' lay' (hot s es g) → lay' (.cl k) = lay (.cl k) := fun h => (h.2.fix (.cl k) rfl hklt).2
  have hrow : ∀ {H' lay' es g}, SF H lay s H' lay' (hot s es g) → H' (lay (.cl k)) = some (.lst (zs c)) := fun {H' lay' es g} h => by
    rw [← hfix h]; exact h.1.row (s := hot s es g) hk
  have hnz := (C.rk c (List.mem_of_getElem? hk)).2.2
  refine s_seq (s_for (pv_ok _ (.ref (lay (.cl k))) _ (by rw [← hfix h1]; exact ref_row h1.1 (h1.ins ha) hklt rfl) (it_l (hrow h1) ?_)))
  refine floop_ind (fun j m H' => Ex4 fun es bh z7 z8 => An4 (m = [.ref a, .int k, .ref fa, .ref ba, .int (cnt s (ky es) t : Nat), .int t, .int last, z7, z8]) (LH N H lay s fa ba es bh H') (LsI N M s c es bh t last) (Seen s es last (c.take j))) _ (fun j v m H2 K hv hI hK => ?_) (fun m H2 hI => ?_) ⟨es, bh, z7, z8, rfl, ⟨lay1, es1, g1, h1, ht1, hfa1, hba1, nfa1, nba1⟩, L, fun x hx => by cases hx⟩
  · clear L hfa1 hba1
    refine nn fun hC => ?_
    obtain ⟨es, bh, z7, z8, rfl, ⟨lay2, es2, g2, h2, ht2, hfa2, hba2, nfa2, nba2⟩, L, hs⟩ := hI
    obtain ⟨x, hxj, rfl⟩ := zs_at hv
    refine hC ?_
    have hxc := List.mem_of_getElem? hxj
    have hx0 := hnz x hxc
    have ha2 := h2.ins ha
    refine ⟨see_lst (hrow h2), s_seq (s_asg (pv_ok _ (.int x.natAbs) _ rfl ?_))⟩
    have hsame : (∀ y ∈ c.take (j + 1), y ∈ c.take j ∨ y = x) := fun y hy => (mem_take_succ hxj).mp hy
    have hskip : ∀ z7 z8, (x = last ∨ (x.natAbs : Int) ∈ ky es ∨ ∀ i, s.ro[i]? = some (-x) → lvl s.be i = 0) → K [.ref a, .int k, .ref fa, .ref ba, .int (cnt s (ky es) t : Nat), .int t, .int last, z7, z8] H2 := fun z7 z8 h => hK _ _ ⟨es, bh, z7, z8, rfl, ⟨lay2, es2, g2, h2, ht2, hfa2, hba2, nfa2, nba2⟩, L, fun y hy hyl i hi => by
      rcases hsame y hy with hy | rfl
      · exact hs y hy hyl i hi
      · rcases h with h | h | h
        · exact absurd h hyl
        · exact .inr h
        · exact .inl (h i hi)⟩
    by_cases hxl : x = last
    · exact s_seq (s_ite (b := false) (pv_and (b := false) (d := false) (pvb rfl (pvb rfl (pcm (by rw [ne_ii, decide_eq_true hxl]; rfl)))) (fun h => by cases h)) (fun h => by cases h) fun _ => s_skip (s_skip (hskip _ _ (.inl hxl))))
    obtain ⟨i, hit, hi⟩ := L.cl x hxc hxl
    have hhe : ∀ {H' lay' es g z7}, SF H lay s H' lay' (hot s es g) → (X.sub (.attr (.loc 0) 1) (.loc 8)).pv [.ref a, .int k, .ref fa, .ref ba, .int (cnt s (ky es) t : Nat), .int t, .int last, z7, .int x.natAbs] H' = some (.int (lvl s.be i)) := fun h => pvb (h.1.a_ (h.ins ha) rfl rfl) (pvb rfl (sb_d (h.1.at_ .he trivial) (by have := C.he i _ hi; rw [Int.natAbs_neg] at this; exact this)))
    have hcond : (X.and (.cmp .ne (.loc 7) (.loc 6)) (.and (.cmp .notMem (.loc 8) (.loc 2)) (.and (.cmp .gt (.sub (.attr (.loc 0) 1) (.loc 8)) (.c (.int 0))) (.c (.bool true))))).pv [.ref a, .int k, .ref fa, .ref ba, .int (cnt s (ky es) t : Nat), .int t, .int last, .int x, .int x.natAbs] H2 = some (.bool (true && (!decide ((x.natAbs : Int) ∈ ky es) && (decide (0 < lvl s.be i) && true)))) := by
      refine pv_and (pvb rfl (pvb rfl (pcm (by rw [ne_ii, decide_eq_false hxl]; rfl)))) fun _ => pv_and (pvb rfl (pvb rfl (pcm (nm hfa2)))) fun _ => pv_and (pvb (pvb (h2.1.a_ ha2 rfl rfl) (pvb rfl (sb_d (h2.1.at_ .he trivial) (by have := C.he i _ hi; rw [Int.natAbs_neg] at this; exact this)))) (pvb rfl (pcm ?_))) fun _ => rfl
      show some (decide ((0 : Int) < (lvl s.be i : Int))) = _
      congr 1
      exact decide_eq_decide.mpr (by lia)
    refine s_seq (s_ite hcond (fun hd => ?_) fun hd => ?_)
    · rw [Bool.true_and, Bool.and_true, Bool.and_eq_true] at hd
      have hnf : (x.natAbs : Int) ∉ ky es := of_decide_eq_false (by
        have := hd.1
        rwa [Bool.not_eq_true'] at this)
      have hl0 := of_decide_eq_true hd.2
      refine s_seq (s_setI (v := .ref fa) (k := .int x.natAbs) rfl rfl rfl (setI_d hfa2 (Nat.lt_of_le_of_lt L.kf.len hsz) ?_))
      have h3 := h2.side (o := .dct (put es x.natAbs (.bool true))) ffa nfa2
      have hba3 : (H2.set fa (.dct (put es x.natAbs (.bool true)))) ba = some (.lst (zs bh)) := by rw [set_ne fun e => hfb e.symm]; exact hba2
      refine s_seq (s_ex (cm_ok (xs := [.loc 8]) (P := fun _ H => _) h3.1 ha2 rfl (e_cons (pv_ok (.loc 8) (.int x.natAbs) _ rfl (e_nil (c_warm h3.1 ha2 hN ht2 (by lia) (by lia) fun H4 lay4 es4 g4 h4 ht4 => ?_))))))
      have h4' : SF H lay s H4 lay4 (hot s es4 g4) := h3.trans h4
      have hfa4 := h3.1.out h4.2 (x := fa) (o := .dct (put es x.natAbs (.bool true))) set_eq nfa2
      have hba4 := h3.1.out h4.2 hba3 nba2
      refine s_seq (s_ite (b := decide (lvl s.be i = s.be.length)) (pvb (pvb (h4'.1.a_ (h4'.ins ha) rfl rfl) (pvb rfl (sb_d (h4'.1.at_ .he trivial) (by have := C.he i _ hi; rw [Int.natAbs_neg] at this; exact this)))) (pvb (len_pv (h4'.1.a_ (h4'.ins ha) rfl rfl) (ln_nz (h4'.1.at_ .be trivial))) (pcm eq_nn))) (fun he => ?_) fun he => ?_)
      · obtain ⟨L', hc⟩ := L.hi C hxc hi hit hnf (of_decide_eq_true he)
        refine s_seq (s_asg (pv_ok _ (.int (cnt s (ky (put es x.natAbs (.bool true))) t : Nat)) _ (pvb rfl (pvb rfl (by rw [hc]; rfl))) (s_skip (s_skip (s_skip (hK _ _ ⟨_, _, _, _, rfl, ⟨lay4, es4, g4, h4', ht4, hfa4.1, hba4.1, hfa4.2, hba4.2⟩, L', fun y hy hyl i' hi' => ?_⟩))))))
        rcases hsame y hy with hy | rfl
        · exact (hs y hy hyl i' hi').imp id fun h => ky_put_mem.mpr (.inl h)
        · exact .inr (ky_put_mem.mpr (.inr rfl))
      · have hll : lvl s.be i < s.be.length := Nat.lt_of_le_of_ne lvl_le (of_decide_eq_false he)
        obtain ⟨L', hc⟩ := L.lo C hxc hi hit hnf hl0 hll
        have hbl : bh.length < sz := by
          have := nodup_le (r := s.ro.map Int.natAbs) L.b2 fun v hv => by
            obtain ⟨b, hb, rfl⟩ := List.mem_map.mp hv
            obtain ⟨i', hi', _⟩ := L.b1 b hb
            exact List.mem_map.mpr ⟨-b, List.mem_of_getElem? hi', Int.natAbs_neg _⟩
          rw [List.length_map, List.length_map] at this
          exact Nat.lt_of_le_of_lt (Nat.le_trans this C.td.len) hsz
        refine s_seq (s_ex (bm_l (b := ba) rfl hba4.1 rfl (e_cons (pv_ok (.loc 7) (.int x) _ rfl (e_nil (app_ok hba4.1 (by rw [zs_len]; exact hbl) ?_))))))
        have h5 := h4'.side (o := .lst (zs bh ++ [.int x])) fba hba4.2
        refine s_skip (s_skip (s_skip (hK _ _ ⟨_, bh ++ [x], _, _, by rw [hc]; rfl, ⟨lay4, es4, g4, h5, ht4, by rw [set_ne hfb]; exact hfa4.1, by rw [set_eq, zs_app]; rfl, hfa4.2, hba4.2⟩, L', fun y hy hyl i' hi' => ?_⟩)))
        rcases hsame y hy with hy | rfl
        · exact (hs y hy hyl i' hi').imp id fun h => ky_put_mem.mpr (.inl h)
        · exact .inr (ky_put_mem.mpr (.inr rfl))
    · rw [Bool.true_and, Bool.and_true, Bool.and_eq_false_iff] at hd
      refine s_skip (s_skip (hskip _ _ (.inr ?_)))
      rcases hd with hd | hd
      · rw [Bool.not_eq_false'] at hd
        exact .inl (of_decide_eq_true hd)
      · refine .inr fun i' hi' => ?_
        obtain ⟨rfl, _⟩ := ro_inj C.td hi hi' rfl
        have := of_decide_eq_false hd
        lia
  · clear L hfa1 hba1
    refine nn fun hC => ?_
    obtain ⟨es, bh, z7, z8, rfl, ⟨lay2, es2, g2, h2, ht2, hfa2, hba2, nfa2, nba2⟩, L, hs⟩ := hI
    refine hC ?_
    have ha2 := h2.ins ha
    rw [zs_len, List.take_length] at hs
    have S := L.close C hb hs
    refine ⟨see_lst (hrow h2), ?_⟩
    obtain ⟨t, rfl⟩ : ∃ q, t = q + 1 := by
      cases t with
      | zero => exact absurd S.one (by unfold cnt; simp)
      | succ q => exact ⟨q, rfl⟩
    refine s_seq (s_asg (pv_ok _ (.int t) _ (pvb rfl (pvb rfl (by show some (V.int (((t + 1 : Nat) : Int) - 1)) = _; congr 2; lia))) ?_))
    refine s_seq (s_whK (fun q m H' => m = [.ref a, .int k, .ref fa, .ref ba, .int (cnt s (ky es) (t + 1) : Nat), .int q, .int last, z7, z8] ∧ H' = H2 ∧ q ≤ t ∧ ScI N M s es bh (q + 1) ∧ cnt s (ky es) (q + 1) = cnt s (ky es) (t + 1)) t ⟨rfl, rfl, Nat.le_refl _, S, rfl⟩ fun q m H' KX hI hX => ?_)
    obtain ⟨rfl, rfl, hqt, Sq, hcq⟩ := hI
    have hql : q < s.ro.length := Sq.le
    have hu : s.ro[q]? = some s.ro[q] := List.getElem?_eq_getElem hql
    generalize s.ro[q] = u at hu
    have hrq : ∀ {z4 z6 : V}, (X.sub (.attr (.loc 0) 3) (.loc 5)).pv [.ref a, .int k, .ref fa, .ref ba, z4, .int q, z6, z7, z8] H' = some (.int u) := pvb (h2.1.a_ ha2 rfl rfl) (pvb rfl (sb_l (h2.1.at_ .ro trivial) (idx_nat (zs_get hu))))
    refine ⟨!decide ((u.natAbs : Int) ∈ ky es), pvb (abs_pv hrq) (pvb rfl (pcm (nm hfa2))), fun hd => ?_, fun hd => ?_⟩
    · have hn : (u.natAbs : Int) ∉ ky es := of_decide_eq_false (by rwa [Bool.not_eq_true'] at hd)
      obtain ⟨S', hc'⟩ := Sq.skip hu hn
      obtain ⟨q, rfl⟩ : ∃ r, q = r + 1 := by
        cases q with
        | zero => exact absurd S'.one (by unfold cnt; simp)
        | succ q => exact ⟨q, rfl⟩
      exact s_seq (s_asg (pv_ok _ (.int q) _ (pvb rfl (pvb rfl (by show some (V.int (((q + 1 : Nat) : Int) - 1)) = _; congr 2; lia))) (s_skip (hX q _ _ (Nat.lt_succ_self _) ⟨rfl, rfl, by lia, S', hc'.trans hcq⟩))))
    · have hn : (u.natAbs : Int) ∈ ky es := of_decide_eq_true (by rwa [Bool.not_eq_false'] at hd)
      obtain ⟨hlv, hct⟩ := Sq.top hu hn
      refine s_seq (s_asgN (e_cons (pv_ok _ (.int u) _ hrq (e_cons (pv_ok _ (.int (cnt s (ky es) q : Nat)) _ (pvb rfl (pvb rfl (by rw [← hcq, hct]; show some (V.int (((cnt s (ky es) q + 1 : Nat) : Int) - 1)) = _; congr 2; lia))) (e_nil ⟨rfl, ?_⟩))))))
      refine s_seq (s_ite (b := decide (cnt s (ky es) q = 0)) (pvb rfl (pvb rfl (pcm (eq_nn (j := 0))))) (fun h0 => ?_) fun h0 => ?_)
      · have h0 := of_decide_eq_true h0
        have b10 : ∀ b ∈ bh, b ≠ 0 := fun b hb => by
          obtain ⟨i, hi, _⟩ := L.b1 b hb
          have := (C.td.nz _ (List.mem_of_getElem? hi)).1
          lia
        refine s_seq (s_ret (e_bin (e_list (e_cons (pv_ok (.neg (.loc 6)) (.int (-u)) _ rfl (e_nil fun x hx => pv_ok (.loc 3) (.ref ba) _ rfl (add_ll (l := [.int (-u)]) (r := zs bh) set_eq (by rw [set_ne fun e => by rw [e, hx] at hba2; cases hba2]; exact hba2) ?_ fun y hy => ?_)))))))
        · have := nodup_le (r := s.ro.map Int.natAbs) L.b2 fun v hv => by
            obtain ⟨b, hb, rfl⟩ := List.mem_map.mp hv
            obtain ⟨i', hi', _⟩ := L.b1 b hb
            exact List.mem_map.mpr ⟨-b, List.mem_of_getElem? hi', Int.natAbs_neg _⟩
          rw [List.length_map, List.length_map] at this
          have := C.td.len
          rw [zs_len]
          simp only [List.length_cons, List.length_nil]
          have : (1000 : Nat) ≤ sz := by decide
          lia
        · have h6 := h2.trans ((SF.junk h2.1 hx).trans (SF.junk (h2.1.junk (o := .lst [.int (-u)]) hx) (o := .lst ([.int (-u)] ++ zs bh)) hy))
          refine qq _ _ _ _ y u bh h6 ht2 set_eq ((h2.1.junk (o := .lst [.int (-u)]) hx).nfp hy) ⟨⟨_, hu, hlv⟩, fun b hb => ?_, ?_, Sq.learn C hu hn h0 b10⟩
          · refine nn fun hC => ?_
            obtain ⟨i, h7, h8, h9, _⟩ := L.b1 b hb
            refine hC ?_
            exact ⟨i, h7, h8, h9⟩
          · rw [List.map_cons, List.nodup_cons]
            refine ⟨fun hm => ?_, L.b2⟩
            obtain ⟨b, hb, e⟩ := List.mem_map.mp hm
            obtain ⟨i, h7, h8, h9, _⟩ := L.b1 b hb
            obtain ⟨rfl, _⟩ := ro_inj C.td h7 hu (by lia)
            lia
      · have h0 := of_decide_eq_false h0
        refine nn fun hC => ?_
        obtain ⟨k', c', hca, hk', L'⟩ := L.next Sq C hb hu hn h0
        refine hC ?_
        refine s_skip (s_seq (s_asg (pv_ok _ (.int k') _ (pvb (h2.1.a_ ha2 rfl rfl) (pvb (abs_pv (i := u) rfl) (sb_d (h2.1.at_ .ca trivial) hca))) (s_skip (hW q _ _ (by lia) ⟨k', c', es, bh, u, z7, z8, rfl, hk', ⟨lay2, es2, g2, h2, ht2, hfa2, hba2, nfa2, nba2⟩, L'⟩)))))
end
end Mine
end
section
open PySem PySem.W
set_option tactic.hygienic false
namespace Mine
section
variable {N : Nat} {M : (Nat → Bool) → Prop} {s : St}
theorem take_at {α : Type} {l : List α} {i q : Nat} {x : α} (h : (l.take q)[i]? = some x) : i < q ∧ l[i]? = some x := by
  have hlt := (List.getElem?_eq_some_iff.mp h).1
  rw [List.length_take] at hlt
  rw [List.getElem?_take_of_lt (by lia)] at h
  exact ⟨by lia, h⟩
theorem at_take {α : Type} {l : List α} {i q : Nat} {x : α} (h : l[i]? = some x) (hi : i < q) : (l.take q)[i]? = some x := by
  rw [List.getElem?_take_of_lt hi]; exact h
theorem mem_take_at {α : Type} {l : List α} {q : Nat} {x : α} (h : x ∈ l.take q) : ∃ i < q, l[i]? = some x := by
  obtain ⟨i, hi⟩ := List.mem_iff_getElem?.mp h
  exact ⟨i, take_at hi⟩
theorem at_mem_take {α : Type} {l : List α} {i q : Nat} {x : α} (h : l[i]? = some x) (hi : i < q) : x ∈ l.take q := List.mem_of_getElem? (at_take h hi)
theorem Core.back (C : Core N M s) {h q : Nat} {kn li : List (Int × V)} (hq : s.be[h]? = some q) (T : TD N (backS s h q kn li)) : Core N M (backS s h q kn li) := by
  have hlv : ∀ {i}, i < q → lvl (s.be.take h) i = lvl s.be i := fun hi => lvl_take C.srt hq hi
  refine ⟨T, fun i l hl => ?_, fun i l hl => ?_, C.srt.sublist (List.take_sublist ..), fun b hb => srt_take C.srt hq b hb, ?_, C.rk, C.rM, fun i l hl h0 => ?_, C.ht, C.wn, C.wr, C.lim⟩
  · obtain ⟨hi, hl⟩ := take_at hl
    show _ = some (V.int (lvl (s.be.take h) i : Nat))
    rw [hlv hi]; exact C.he i l hl
  · obtain ⟨hi, hl⟩ := take_at hl
    rcases C.ca i l hl with ⟨h1, h2⟩ | ⟨k, c, h1, h2, h3, h4⟩
    · refine .inl ⟨h1, ?_⟩
      rcases h2 with h2 | h2
      · exact .inl (by show lvl (s.be.take h) i = 0; rw [hlv hi]; exact h2)
      · refine .inr ?_
        rw [← List.take_append_drop h s.be] at h2
        rcases List.mem_append.mp h2 with h2 | h2
        · exact h2
        · have := srt_drop C.srt hq i h2
          lia
    · refine .inr ⟨k, c, h1, h2, h3, fun x hx hxl => ?_⟩
      show -x ∈ (s.ro.take q).take i
      rw [List.take_take, Nat.min_eq_left (Nat.le_of_lt hi)]
      exact h4 x hx hxl
  · show q ≤ (s.ro.take q).length
    rw [List.length_take]
    have := C.kb q (List.mem_of_getElem? hq)
    lia
  · obtain ⟨hi, hl⟩ := take_at hl
    have h0 : lvl (s.be.take h) i = 0 := h0
    rw [hlv hi] at h0
    exact C.zM i l hl h0
theorem Cv.back (h : Cv M s) (C : Core N M s) {k q : Nat} {kn li : List (Int × V)} (hq : s.be[k]? = some q) : Cv M (backS s k q kn li) := fun α h1 h2 => h α h1 fun i l hl h0 => by
  have hi : i < q := (lvl_lt C.srt hq).mp (by lia)
  refine h2 i l (at_take hl hi) ?_
  show lvl (s.be.take k) i = 0
  rw [lvl_take C.srt hq hi]; exact h0
theorem PR.back {p : Nat} (P : PR s p) (C : Core N M s) {h q : Nat} {kn li : List (Int × V)} (hq : s.be[h]? = some q) (hp : q ≤ p) : PR (backS s h q kn li) q := fun k c w w' hc hw i hi hx => by
  refine nn fun hC => ?_
  obtain ⟨_, hx⟩ := take_at hx
  obtain ⟨j, h1, h2⟩ := P k c w w' hc hw i (by lia) hx
  refine hC ?_
  have hj : j < q := (lvl_lt C.srt hq).mp (Nat.le_trans h2 ((lvl_lt C.srt hq).mpr hi))
  refine ⟨j, at_take h1 hj, ?_⟩
  show lvl (s.be.take h) j ≤ lvl (s.be.take h) i
  rw [lvl_take C.srt hq hi, lvl_take C.srt hq hj]; exact h2
theorem WI.back (W : WI s) {h q : Nat} {kn li : List (Int × V)} : WI (backS s h q kn li) := ⟨W.iff, W.nd⟩
theorem Core.hot (C : Core N M s) {es : List (Int × V)} {g : Int} (h : HtOK N es) : Core N M (hot s es g) := ⟨⟨C.td.nz, C.td.nd, C.td.kn, C.td.kK, C.td.hK, C.td.cK, C.td.lK, C.td.lB⟩, C.he, C.ca, C.srt, C.bs, C.sl, C.rk, C.rM, C.zM, h, C.wn, C.wr, C.lim⟩
theorem Core.cl_ (C : Core N M s) {n : Nat} : Core N M (s.wCl n) := ⟨⟨C.td.nz, C.td.nd, C.td.kn, C.td.kK, C.td.hK, C.td.cK, C.td.lK, C.td.lB⟩, C.he, C.ca, C.srt, C.bs, C.sl, C.rk, C.rM, C.zM, C.ht, C.wn, C.wr, C.lim⟩
theorem Core.lg_ (C : Core N M s) {c : List Int} : Core N M (s.addLog c) := ⟨⟨C.td.nz, C.td.nd, C.td.kn, C.td.kK, C.td.hK, C.td.cK, C.td.lK, C.td.lB⟩, C.he, C.ca, C.srt, C.bs, C.sl, C.rk, C.rM, C.zM, C.ht, C.wn, C.wr, C.lim⟩
theorem Core.gain_ (C : Core N M s) {g : Int} : Core N M (s.wGain g) := ⟨⟨C.td.nz, C.td.nd, C.td.kn, C.td.kK, C.td.hK, C.td.cK, C.td.lK, C.td.lB⟩, C.he, C.ca, C.srt, C.bs, C.sl, C.rk, C.rM, C.zM, C.ht, C.wn, C.wr, C.lim⟩
theorem Core.ref_ (C : Core N M s) {b : Bool} : Core N M (s.wRef b) := ⟨⟨C.td.nz, C.td.nd, C.td.kn, C.td.kK, C.td.hK, C.td.cK, C.td.lK, C.td.lB⟩, C.he, C.ca, C.srt, C.bs, C.sl, C.rk, C.rM, C.zM, C.ht, C.wn, C.wr, C.lim⟩
theorem Core.bl_ (C : Core N M s) {b : List Int} : Core N M (s.wBl b) := ⟨⟨C.td.nz, C.td.nd, C.td.kn, C.td.kK, C.td.hK, C.td.cK, C.td.lK, C.td.lB⟩, C.he, C.ca, C.srt, C.bs, C.sl, C.rk, C.rM, C.zM, C.ht, C.wn, C.wr, C.lim⟩
theorem rows_app {c d : List Int} {k : Nat} (h : (s.rows ++ [c])[k]? = some d) : (k = s.rows.length ∧ d = c) ∨ s.rows[k]? = some d := by
  rcases Nat.lt_or_ge k s.rows.length with h' | h'
  · rw [List.getElem?_append_left h'] at h; exact .inr h
  · have h2 := (List.getElem?_eq_some_iff.mp h).1
    rw [List.length_append, List.length_singleton] at h2
    obtain rfl : k = s.rows.length := by lia
    rw [List.getElem?_concat_length] at h
    cases h; exact .inl ⟨rfl, rfl⟩
theorem app_rows {c d : List Int} {k : Nat} (h : s.rows[k]? = some d) : (s.rows ++ [c])[k]? = some d := by
  rw [List.getElem?_append_left (List.getElem?_eq_some_iff.mp h).1]; exact h
theorem Core.row_ (C : Core N M s) {c : List Int} (h1 : RowOK N c) (h2 : ∀ α, M α → Sat α c) : Core N M (s.addRow c) := by
  refine ⟨⟨C.td.nz, C.td.nd, C.td.kn, C.td.kK, C.td.hK, C.td.cK, C.td.lK, C.td.lB⟩, C.he, fun i l hl => ?_, C.srt, C.bs, C.sl, fun d hd => ?_, fun d hd => ?_, C.zM, C.ht, C.wn, C.wr, C.lim⟩
  · rcases C.ca i l hl with h | ⟨k, d, h3, h4, h5, h6⟩
    · exact .inl h
    · exact .inr ⟨k, d, h3, app_rows h4, h5, h6⟩
  · rcases List.mem_append.mp hd with hd | hd
    · exact C.rk d hd
    · rw [List.mem_singleton.mp hd]; exact h1
  · rcases List.mem_append.mp hd with hd | hd
    · exact C.rM d hd
    · rw [List.mem_singleton.mp hd]; exact h2
theorem Core.keep (C : Core N M s) {w0 w1 : Int} {r : List Int} (h1 : RowOK N (w0 :: w1 :: r)) (h2 : ∀ α, M α → Sat α (w0 :: w1 :: r)) : Core N M (keepS s w0 w1 r) := by
  have a0 := h1.2.2 w0 (List.mem_cons_self ..)
  have a1 := h1.2.2 w1 (List.mem_cons_of_mem _ (List.mem_cons_self ..))
  exact ((C.row_ h1 h2).addW a0.1 a0.2).addW a1.1 a1.2
theorem Cv.keep (h : Cv M s) {w0 w1 : Int} {r : List Int} : Cv M (keepS s w0 w1 r) := fun α h1 h2 => h α (fun c hc => h1 c (List.mem_append_left _ hc)) h2
theorem WI.keep (W : WI s) {w0 w1 : Int} {r : List Int} (hw : w0 ≠ w1) : WI (keepS s w0 w1 r) := by
  have hwg : ∀ l, wg (keepS s w0 w1 r) l = if l = w0 ∨ l = w1 then wg s l ++ [s.rows.length] else wg s l := fun l => by
    have e1 : ∀ l, wg (Mine.addW (s.addRow (w0 :: w1 :: r)) w0 s.rows.length) l = if l = w0 then wg s w0 ++ [s.rows.length] else wg s l := fun l => wg_add
    have e2 : wg (keepS s w0 w1 r) l = if l = w1 then wg (Mine.addW (s.addRow (w0 :: w1 :: r)) w0 s.rows.length) w1 ++ [s.rows.length] else wg (Mine.addW (s.addRow (w0 :: w1 :: r)) w0 s.rows.length) l := wg_add
    rw [e2, e1, e1, if_neg (fun e : w1 = w0 => hw e.symm)]
    by_cases h1 : l = w1
    · rw [if_pos h1, if_pos (.inr h1), h1]
    · rw [if_neg h1]
      by_cases h0 : l = w0
      · rw [if_pos h0, if_pos (.inl h0), h0]
      · rw [if_neg h0, if_neg fun h => h.elim h0 h1]
  have hlt : ∀ l, s.rows.length ∉ wg s l := fun l h => by
    obtain ⟨c, hc, _⟩ := (W.iff _ l).mp h
    have := (List.getElem?_eq_some_iff.mp hc).1
    lia
  refine ⟨fun k l => ?_, fun l => ?_⟩
  · rw [hwg]
    constructor
    · intro h
      have key : k ∈ wg s l ∨ (k = s.rows.length ∧ (l = w0 ∨ l = w1)) := by
        split at h
        · rename_i e
          rcases List.mem_append.mp h with h | h
          · exact .inl h
          · exact .inr ⟨List.mem_singleton.mp h, e⟩
        · exact .inl h
      rcases key with h | ⟨rfl, e⟩
      · obtain ⟨c, hc, hw⟩ := (W.iff k l).mp h
        exact ⟨c, app_rows hc, hw⟩
      · exact ⟨w0 :: w1 :: r, List.getElem?_concat_length, wch_two.mpr e⟩
    · rintro ⟨c, hc, hw⟩
      rcases rows_app hc with ⟨rfl, rfl⟩ | hc
      · rw [if_pos (wch_two.mp hw)]; exact List.mem_append_right _ (List.mem_singleton.mpr rfl)
      · have h := (W.iff k l).mpr ⟨c, hc, hw⟩
        split
        · exact List.mem_append_left _ h
        · exact h
  · rw [hwg]
    split
    · rw [List.nodup_append]
      exact ⟨W.nd l, by simp, fun a ha b hb e => hlt l (by rw [← List.mem_singleton.mp hb, ← e]; exact ha)⟩
    · exact W.nd l
theorem PR.keep {p : Nat} (P : PR s p) {w0 w1 : Int} {r : List Int} (h : ∀ x y, (x = w0 ∧ y = w1) ∨ (x = w1 ∧ y = w0) → ∀ i < p, s.ro[i]? = some (-x) → ∃ j, s.ro[j]? = some y ∧ lvl s.be j ≤ lvl s.be i) : PR (keepS s w0 w1 r) p := fun k c w w' hc hw i hi hx => by
  rcases rows_app hc with ⟨rfl, rfl⟩ | hc
  · exact h w w' (pair_two hw) i hi hx
  · exact P k c w w' hc hw i hi hx
end
theorem ext_split {H H' : AH} (h : Ext H H') {y : Addr} {o : O} (hy : H y = none) (hy' : H' y = some o) : ∃ H0, An3 (Ext H H0) (H0 y = none) (H' = H0.set y o) := by
  refine ⟨fun a => if a = y then none else H' a, fun x p hx => ?_, if_pos rfl, ?_⟩
  · show (if x = y then none else H' x) = _
    rw [if_neg (by rintro rfl; rw [hy] at hx; cases hx)]; exact h x p hx
  · funext a
    unfold AH.set
    by_cases e : a = y
    · rw [if_pos e, e]; exact hy'
    · rw [if_neg e]; exact (if_neg e).symm
end Mine
end
section
open PySem PySem.W
set_option tactic.hygienic false
namespace Mine
theorem nd_inj {l : List Int} (h : (l.map Int.natAbs).Nodup) {x y : Int} (hx : x ∈ l) (hy : y ∈ l) (e : x.natAbs = y.natAbs) : x = y := by
  obtain ⟨i, hi, rfl⟩ := List.getElem_of_mem hx
  obtain ⟨j, hj, rfl⟩ := List.getElem_of_mem hy
  have h1 : i < (l.map Int.natAbs).length := by rw [List.length_map]; exact hi
  have h2 : j < (l.map Int.natAbs).length := by rw [List.length_map]; exact hj
  have : i = j := (List.getElem_inj (h₀ := h1) (h₁ := h2) h).mp (by rw [List.getElem_map, List.getElem_map]; exact e)
  subst this; rfl
theorem lits_len {N : Nat} {c : List Int} (h2 : (c.map Int.natAbs).Nodup) (h3 : ∀ x ∈ c, x ≠ 0 ∧ x.natAbs ≤ N) : c.length ≤ N := by
  have := nodup_le (r := (List.range N).map (· + 1)) h2 fun x hx => by
    obtain ⟨l, hl, rfl⟩ := List.mem_map.mp hx
    have := h3 l hl
    exact List.mem_map.mpr ⟨l.natAbs - 1, List.mem_range.mpr (by lia), by lia⟩
  rwa [List.length_map, List.length_map, List.length_range] at this
section
variable {N : Nat} {M : (Nat → Bool) → Prop} {s : St}
structure Good4 (N : Nat) (M : (Nat → Bool) → Prop) (s : St) : Prop where
  c : Core N M s
  cv : Cv M s
  w : WI s
  p : PR s s.seen
theorem Les.perm {u : Int} {bh bh2 : List Int} (L : Les N M s u bh) (h : bh2.Perm bh) : Les N M s u bh2 :=
  ⟨L.u1, fun b hb => L.b1 b (h.mem_iff.mp hb), ((h.cons (-u)).map _).nodup_iff.mpr L.nd, fun α hα => by
    obtain ⟨y, hy, ht⟩ := L.sat α hα
    exact ⟨y, (h.cons (-u)).mem_iff.mpr hy, ht⟩⟩
theorem Les.free {u : Int} {bh : List Int} (L : Les N M s u bh) (C : Core N M s) {h q : Nat} (hq : s.be[h]? = some q) : ∀ x ∈ s.ro.take q, x.natAbs ≠ (-u).natAbs := by
  intro x hx e
  obtain ⟨i, hi, hxi⟩ := mem_take_at hx
  obtain ⟨iu, hu, hlu⟩ := L.u1
  obtain ⟨rfl, _⟩ := ro_inj C.td hxi hu (by lia)
  have h1 := (lvl_lt C.srt hq).mpr hi
  have h2 := (List.getElem?_eq_some_iff.mp hq).1
  lia
theorem Les.nz {u : Int} {bh : List Int} (L : Les N M s u bh) (C : Core N M s) : ∀ x ∈ -u :: bh, x ≠ 0 ∧ x.natAbs ≤ N := by
  intro x hx
  rcases List.mem_cons.mp hx with rfl | hx
  · obtain ⟨i, hi, _⟩ := L.u1
    have := C.td.nz u (List.mem_of_getElem? hi)
    lia
  · obtain ⟨i, hi, _⟩ := L.b1 x hx
    have := C.td.nz _ (List.mem_of_getElem? hi)
    lia
theorem learn_nil (C : Core N M s) (cv : Cv M s) (W : WI s) {p : Nat} (P : PR s p) (hp : ∀ b ∈ s.be, b ≤ p) {u : Int} (L : Les N M s u []) {q : Nat} (hq : s.be[0]? = some q) {kn li : List (Int × V)} (T : TD N (backS s 0 q kn li)) : Good4 N M (letS (backS s 0 q kn li) (-u) .none) := by
  have hqb := List.mem_of_getElem? hq
  have C1 := C.back hq T
  have hu := L.nz C (-u) (List.mem_cons_self ..)
  refine ⟨C1.let_ hu.1 hu.2 (L.free C hq) (.inl ⟨rfl, .inl rfl⟩) fun _ α hα => ?_, (cv.back C hq).let_, ⟨W.iff, W.nd⟩, (P.back C hq (hp q hqb)).let_ C1.sl⟩
  obtain ⟨y, hy, ht⟩ := L.sat α hα
  rw [List.mem_singleton.mp hy] at ht; exact ht
theorem learn_cons (C : Core N M s) (cv : Cv M s) (W : WI s) {p : Nat} (P : PR s p) (hp : ∀ b ∈ s.be, b ≤ p) {u b : Int} {r : List Int} (L : Les N M s u (b :: r)) {h q : Nat} (hq : s.be[h]? = some q) (h0 : 0 < h) (hmax : ∀ x ∈ b :: r, ∀ i, s.ro[i]? = some (-x) → lvl s.be i ≤ h) (hbh : ∀ i, s.ro[i]? = some (-b) → lvl s.be i = h) {kn li : List (Int × V)} (T : TD N (backS s h q kn li)) : Good4 N M (letS (keepS (backS s h q kn li) (-u) b r) (-u) (.int s.rows.length)) := by
  have hqb := List.mem_of_getElem? hq
  have C1 := C.back hq T
  have hnz := L.nz C
  have hlen : ∀ x ∈ b :: r, ∃ i < q, s.ro[i]? = some (-x) := fun x hx => by
    obtain ⟨i, hi, _⟩ := L.b1 x hx
    exact ⟨i, (lvl_lt C.srt hq).mp (hmax x hx i hi), hi⟩
  have hub : -u ≠ b := fun e => (List.nodup_cons.mp L.nd).1 (by rw [e]; exact List.mem_map_of_mem (List.mem_cons_self ..))
  have hrow : RowOK N (-u :: b :: r) := ⟨by simp, L.nd, hnz⟩
  have C2 := C1.keep hrow L.sat
  have hfree := L.free C hq
  have hu := hnz (-u) (List.mem_cons_self ..)
  have hlt := (List.getElem?_eq_some_iff.mp hq).1
  have hbl : (s.be.take h).length = h := by rw [List.length_take]; lia
  have hql : (s.ro.take q).length = q := by
    have := C.kb q hqb
    rw [List.length_take]; lia
  have W2 := (W.back (h := h) (q := q) (kn := kn) (li := li)).keep (r := r) hub
  refine ⟨C2.let_ hu.1 hu.2 hfree (.inr ⟨s.rows.length, -u :: b :: r, rfl, List.getElem?_concat_length, List.mem_cons_self .., fun x hx hxu => ?_⟩) fun hz => ?_, (cv.back C hq).keep.let_, ⟨W2.iff, W2.nd⟩, ?_⟩
  · obtain ⟨i, hi, hx2⟩ := hlen x ((List.mem_cons.mp hx).resolve_left hxu)
    exact at_mem_take hx2 hi
  · exfalso
    have : (s.be.take h).length = 0 := hz
    lia
  · have P1 := P.back C (kn := kn) (li := li) hq (hp q hqb)
    intro k c w w' hc hw i hi hx
    have hi : i < q := hi
    have hx5 : (s.ro.take q)[i]? = some (-w) := by
      rcases at_app (s := keepS (backS s h q kn li) (-u) b r) hx with hx | ⟨rfl, _⟩
      · exact hx
      · have : (s.ro.take q).length < q := hi
        lia
    have hlast : (letS (keepS (backS s h q kn li) (-u) b r) (-u) (.int s.rows.length)).ro[q]? = some (-u) := by
      show (s.ro.take q ++ [-u])[q]? = _
      have := List.getElem?_concat_length (l := s.ro.take q) (a := -u)
      rwa [hql] at this
    rcases rows_app (s := backS s h q kn li) hc with ⟨rfl, rfl⟩ | hc
    · rcases pair_two hw with ⟨rfl, rfl⟩ | ⟨rfl, rfl⟩
      · exact (hfree _ (List.mem_of_getElem? hx5) (by lia)).elim
      · obtain ⟨_, hx2⟩ := take_at hx5
        refine ⟨q, hlast, ?_⟩
        show lvl (s.be.take h) q ≤ lvl (s.be.take h) i
        rw [lvl_take C.srt hq hi, hbh i hx2]
        exact Nat.le_trans lvl_le (by lia)
    · obtain ⟨j, h1, h2⟩ := P1 k c w w' hc hw i hi hx5
      exact ⟨j, app_at (s := keepS (backS s h q kn li) (-u) b r) h1, h2⟩
theorem learn_new {u b : Int} {r : List Int} (C : Core N M s) {h q : Nat} (hq : s.be[h]? = some q) {i : Nat} (hi : s.ro[i]? = some (-b)) (hl : lvl s.be i = h) : q ∉ s.be.take h := by
  intro hm
  have hiq : i < q := (lvl_lt C.srt hq).mp (by lia)
  obtain ⟨j, hj, hjq⟩ := mem_take_at hm
  have := (lvl_lt C.srt hjq).mpr hiq
  lia
end
end Mine
end
section
open PySem PySem.W
set_option tactic.hygienic false
namespace Mine
section
variable {sp : Sp} {m : List V} {H : AH} {Q : V → AH → Prop}
theorem e_callG {f : Nat} {xs : List X} (h : X.evs sp xs m H fun vs H => sp f vs H Q) : (X.callG f xs).ev sp m H Q := h
theorem e_ite {c x y : X} {b : Bool} (h : c.pv m H = some (.bool b)) (h1 : b = true → x.ev sp m H Q) (h2 : b = false → y.ev sp m H Q) : (X.ite c x y).ev sp m H Q := by
  refine pv_ok c _ _ h (ifS_mk (o := (V.bool b).b?) rfl ?_)
  cases b
  · exact h2 rfl
  · exact h1 rfl
noncomputable def sortW (sp : Sp) (f : Nat) (v ov : V) (H : AH) (Q : V → AH → Prop) : Prop := ifS v.r? fun a => ifS (H.see a) fun o => ifS o.l? fun l => ifS (insV H ov) fun _ =>
      l.length < 64 ∧ ∃ g : V → Int, (∀ v ∈ l, sp f [ov, v] H fun w H' => w = .int (g v) ∧ H' = H) ∧ ∀ ys, ys.Perm l → ys.Pairwise (fun p q => g q ≤ g p) → ∀ x, H x = none → Q (.ref x) (H.set x (.lst ys))
theorem e_sort {f : Nat} {x o : X} (h : x.ev sp m H fun v H => o.ev sp m H fun ov H => sortW sp f v ov H Q) : (X.sortH f x o).ev sp m H Q := h
theorem sort_ok {lay : Ro → Addr} {s : St} {a b : Addr} {f : Nat} {l : List V} (So : Sol H lay s) (ha : lay .ins = a) (hb : H b = some (.lst l)) (hl : l.length < 64) (g : V → Int) (hg : ∀ v ∈ l, sp f [.ref a, v] H fun w H' => w = .int (g v) ∧ H' = H)
    (q : ∀ ys, ys.Perm l → ys.Pairwise (fun p q => g q ≤ g p) → ∀ x, H x = none → Q (.ref x) (H.set x (.lst ys))) : sortW sp f (.ref b) (.ref a) H Q := by
  exact ifS_mk (x := b) rfl (ifS_mk (see_lst hb) (ifS_mk (x := l) rfl (ifS_mk (insV_mk (ha ▸ So.at_ .ins trivial) (So.at_ .att trivial)) ⟨hl, g, hg, q⟩)))
end
structure Lrn (s s' : St) (h q : Nat) (l : Int) (lc : List Int) : Prop where
  hq : s.be[h]? = some q
  be : s'.be = s.be.take h
  ro : s'.ro = s.ro.take q ++ [l]
  nq : q ∉ s.be.take h
  ref : s'.ref = s.ref
  lg : s'.lg = s.lg ++ [lc]
  cl : s'.cl = s.cl + 1
  bl : s'.bl = s.bl
  rl : s'.rows.length ≤ s.rows.length + 1
section
variable {n : Nat} {H : AH} {lay : Ro → Addr} {s : St} {a : Addr} {Q : V → AH → Prop} {N : Nat} {M : (Nat → Bool) → Prop}
noncomputable def hgt (s : St) : V → Int := fun v => match v with
  | .int l => match get s.he l.natAbs with
    | some (.int h) => h
    | _ => 0
  | _ => 0
theorem hgt_at (C : Core N M s) {b : Int} {i : Nat} (h : s.ro[i]? = some (-b)) : hgt s (.int b) = lvl s.be i := by
  have := C.he i _ h
  rw [Int.natAbs_neg] at this
  unfold hgt
  dsimp only
  rw [this]
set_option maxHeartbeats 2000000 in
theorem c_learn (So : Sol H lay s) (ha : lay .ins = a) (C : Core N M s) (hN : N < 60) (cv : Cv M s) (W : WI s) {p : Nat} (P : PR s p) (hp : ∀ b ∈ s.be, b ≤ p) {k : Nat} {c : List Int} (hk : s.rows[k]? = some c) (hall : ∀ x ∈ c, -x ∈ s.ro) (hx : ∃ x ∈ c, s.ro[p]? = some (-x)) (hrz : s.rows.length + 1 < sz) (hlz : s.lg.length < sz)
    (q1 : ∀ H' lay', SF H lay s H' lay' (((s.wCl (s.cl + 1)).wRef true).addLog []) → s.be = [] → (∀ α, ¬ M α) → Q .none H')
    (q2 : ∀ H' lay' s' h q u lc, SF H lay s H' lay' s' → Lrn s s' h q u lc → Good4 N M s' → (∀ α, M α → Sat α lc) → Q .none H') : spN tab02 (n + 3) 14 [.ref a, .int k] H Q := by
  have hsz : N < sz := Nat.lt_trans hN (by decide)
  have hN' : N < 1000 := Nat.lt_trans hN (by decide)
  have u1 := u_cl So (s.cl + 1)
  refine sp_go rfl rfl (s_seq (s_setA (v := .int (s.cl + 1 : Nat)) So ha rfl (pvb (So.a_ ha rfl rfl) (pvb rfl (by rfl))) ?_))
  generalize H.set (lay .att) (.att (put (attL lay s) 14 (.int (s.cl + 1 : Nat)))) = H1 at u1
  have C1 : Core N M (s.wCl (s.cl + 1)) := C.cl_
  refine s_seq (s_ite (b := decide (s.be.length = 0)) (pvb (len_pv (u1.1.a_ ha rfl rfl) (ln_nz (u1.1.at_ .be trivial))) (pvb rfl (pcm (eq_nn (j := 0))))) (fun hd => ?_) fun hd => ?_)
  · have h0 := List.length_eq_zero_iff.mp (of_decide_eq_true hd)
    refine s_seq (s_ex (cm_ok (xs := []) (P := fun _ H => _) u1.1 ha rfl (e_nil (c_refute u1.1 ha hlz fun H2 lay2 h2 => s_seq (s_ret (pv_ok (.c .none) .none _ rfl (q1 _ _ (u1.trans h2) h0 fun α hα => ?_)))))))
    obtain ⟨y, hy, ht⟩ := C.rM c (List.mem_of_getElem? hk) α hα
    obtain ⟨i, hi⟩ := List.mem_iff_getElem?.mp (hall y hy)
    have := C.zM i _ hi (by rw [h0]; rfl) α hα
    exact (ltr_neg ((C.rk c (List.mem_of_getElem? hk)).2.2 y hy).1).mp this ht
  have hb : 0 < s.be.length := Nat.pos_of_ne_zero (of_decide_eq_false hd)
  refine s_skip (s_seq (s_asg (cm_ok (xs := [.loc 1]) (P := fun v H => _) u1.1 ha rfl (e_cons (pv_ok (.loc 1) (.int k) _ rfl (e_nil (c_lesson u1.1 ha C1 hN' hb hk hall hp hx fun H2 lay2 es g y u bh h2 ht2 hy2 ny2 L => ?_)))))))
  have L : Les N M s u bh := ⟨L.u1, L.b1, L.nd, L.sat⟩
  have h12 := u1.trans h2
  have ha2 := h12.ins ha
  have hnz := L.nz C
  have hlen : (-u :: bh).length ≤ N := lits_len L.nd hnz
  have hlen1 : bh.length < 60 := by
    rw [List.length_cons] at hlen; lia
  refine s_seq (s_ex (bm_l (h2.1.a_ ha2 rfl rfl) (h2.1.at_ .lg trivial) rfl (e_cons (e_callG (e_cons (pv_ok (.loc 2) (.ref y) _ rfl (e_nil (c_ordered hy2 (.inl rfl) (fun x hx => (hnz x hx).1) (by lia) (fun H3 E3 hbad => ?_) fun H3 y3 cc E3 hy3 hy3' hO => e_nil ?_))))))))
  · obtain ⟨x, h7, h8⟩ := hbad
    have := nd_inj L.nd h7 h8 (by lia)
    have := (hnz x h7).1
    lia
  obtain ⟨H0, E0, hy0, rfl⟩ := ext_split E3 hy3 hy3'
  have s0 := E0.sf h2.1
  have s3 := n_lg s0.1 y3 hy0 cc
  have hz3 : (refs (hot (s.wCl (s.cl + 1)) es g).lg.length fun i => lay2 (.le i)).length < sz := by rw [refs_len]; exact hlz
  refine app_ok ((s0.1.junk (o := .tup (zs cc)) hy0).at_ .lg trivial) hz3 ?_
  have s03 := s0.trans s3
  have hyC := h2.1.out s03.2 hy2 ny2
  have h123 := h12.trans s03
  have haC := h123.ins ha
  generalize ((H0.set y3 (.tup (zs cc))).set (lay2 .lg) (.lst ((refs (hot (s.wCl (s.cl + 1)) es g).lg.length fun i => lay2 (.le i)) ++ [.ref y3]))) = HC at s3 s03 h123 hyC
  generalize (up lay2 (.le (hot (s.wCl (s.cl + 1)) es g).lg.length) y3) = layC at s3 s03 h123 hyC haC
  have hlog : ∀ α, M α → Sat α cc := fun α hα => by
    obtain ⟨x, h7, h8⟩ := L.sat α hα
    exact ⟨x, (hO.mem x).mpr h7, h8⟩
  obtain ⟨hyC, nyC⟩ := hyC
  have SoC := s3.1
  clear s03 s3 s0 E3
  have CC : Core N M ((hot (s.wCl (s.cl + 1)) es g).addLog cc) := (C1.hot ht2).lg_
  have hat : ∀ b ∈ bh, ∃ i, An4 (s.ro[i]? = some (-b)) (hgt s (.int b) = lvl s.be i) (0 < lvl s.be i) (lvl s.be i < s.be.length) := fun b hb => by
    refine nn fun hC => ?_
    obtain ⟨i, h7, h8, h9⟩ := L.b1 b hb
    refine hC ?_
    exact ⟨i, h7, hgt_at C h7, h8, h9⟩
  refine s_seq (s_asg (e_bin (sl_hi (a := y) (k := 1) rfl hyC rfl fun x1 hx1 => e_sort (sl_lo (a := y) (k := 1) rfl (by rw [set_ne fun e => by rw [e, hx1] at hyC; cases hyC]; exact hyC) rfl fun x2 hx2 => pv_ok (.loc 0) (.ref a) _ rfl ?_))))
  rw [show (zs (-u :: bh)).take 1 = [.int (-u)] from rfl] at hx2 ⊢
  rw [show (zs (-u :: bh)).drop 1 = zs bh from rfl]
  have So1 := SoC.junk (o := .lst [.int (-u)]) hx1
  have So2 := So1.junk (o := .lst (zs bh)) hx2
  refine sort_ok So2 haC set_eq (by rw [zs_len]; lia) (hgt s) (fun v hv => ?_) fun ys hys hpw x3 hx3 => ?_
  · refine nn fun hC => ?_
    obtain ⟨b, hb, rfl⟩ := List.mem_map.mp hv
    obtain ⟨i, h7, h8, _⟩ := hat b hb
    refine hC ?_
    have := C.he i _ h7
    rw [Int.natAbs_neg] at this
    exact c_height So2 haC (v := .int (lvl s.be i)) this ⟨by rw [h8], rfl⟩
  obtain ⟨bh2, rfl, hp2⟩ := perm_zs hys
  have So3 := So2.junk (o := .lst (zs bh2)) hx3
  have L2 := L.perm hp2
  have hlen2 : bh2.length < 60 := by rw [hp2.length_eq]; exact hlen1
  have hx12 : x1 ≠ x2 := fun e => by rw [e, set_eq] at hx2; cases hx2
  have hx13 : x1 ≠ x3 := fun e => by rw [← e, set_ne hx12, set_eq] at hx3; cases hx3
  have hl1 : (((HC.set x1 (.lst [.int (-u)])).set x2 (.lst (zs bh))).set x3 (.lst (zs bh2))) x1 = some (.lst [.int (-u)]) := by rw [set_ne hx13, set_ne hx12]; exact set_eq
  have hl2 : [V.int (-u)].length + (zs bh2).length ≤ sz := by
    rw [zs_len]
    simp only [List.length_cons, List.length_nil]
    have : (1000 : Nat) ≤ sz := by decide
    lia
  refine add_ll (l := [.int (-u)]) (r := zs bh2) hl1 set_eq hl2 fun x4 hx4 => ?_
  have So4 := So3.junk (o := .lst ([.int (-u)] ++ zs bh2)) hx4
  have s4 := h123.trans ((SF.junk SoC (o := .lst [.int (-u)]) hx1).trans ((SF.junk So1 (o := .lst (zs bh)) hx2).trans ((SF.junk So2 (o := .lst (zs bh2)) hx3).trans (SF.junk So3 (o := .lst ([.int (-u)] ++ zs bh2)) hx4))))
  have hD : ((((HC.set x1 (.lst [.int (-u)])).set x2 (.lst (zs bh))).set x3 (.lst (zs bh2))).set x4 (.lst ([.int (-u)] ++ zs bh2))) x4 = some (.lst (zs (-u :: bh2))) := set_eq
  have nD : ¬ fp layC ((hot (s.wCl (s.cl + 1)) es g).addLog cc) x4 := So3.nfp hx4
  generalize ((((HC.set x1 (.lst [.int (-u)])).set x2 (.lst (zs bh))).set x3 (.lst (zs bh2))).set x4 (.lst ([.int (-u)] ++ zs bh2))) = HD at hD s4 So4
  have hpw2 := (List.pairwise_map (f := V.int)).mp (show (bh2.map V.int).Pairwise (fun p q => hgt s q ≤ hgt s p) from hpw)
  have hat2 : ∀ b ∈ bh2, ∃ i, An4 (s.ro[i]? = some (-b)) (hgt s (.int b) = lvl s.be i) (0 < lvl s.be i) (lvl s.be i < s.be.length) := fun b hb => hat b (hp2.mem_iff.mp hb)
  clear hl1 hl2 hat hpw hys hx1 hx2 hx3 hx4 hx12 hx13 So1 So2 So3 hyC nyC h123 SoC L
  have hcond : ∀ {H' : AH}, H' x4 = some (.lst (zs (-u :: bh2))) → (X.cmp .gt (.bi .len [(.loc 2)]) (.c (.int 1))).pv [.ref a, .int k, .ref x4] H' = some (.bool (decide (1 < (bh2.length + 1)))) := fun h => pvb (len_pv rfl (ln_zs h)) (pvb rfl (pcm (show some (decide ((1 : Int) < ((bh2.length + 1 : Nat) : Int))) = _ by congr 1; exact decide_eq_decide.mpr (by lia))))
  have hgain : ∀ {H' lay' s'} {P : List V → AH → Prop}, SF H lay s H' lay' s' → (∀ H'' g', SF H lay s H'' lay' (s'.wGain g') → P [.ref a, .int k, .ref x4] H'') → (S.seq (.setA (.loc 0) 10 (.bin .add (.bin .add (.attr (.loc 0) 10) (.bin .fdiv (.attr (.loc 0) 10) (.c (.int 8)))) (.c (.int 1)))) .skip).wp (spN tab02 (n + 2)) [.ref a, .int k, .ref x4] H' P Q := fun {H' lay' s' P} h q => s_seq (s_setA (v := .int (s'.gain + s'.gain / 8 + 1)) h.1 (h.ins ha) rfl (pvb (pvb (h.1.a_ (h.ins ha) rfl rfl) (pvb (pvb (h.1.a_ (h.ins ha) rfl rfl) (pvb rfl rfl)) rfl)) (pvb rfl rfl)) (s_skip (q _ _ (h.trans (u_gain h.1 _)))))
  cases bh2 with
  | nil =>
    obtain ⟨q, hq⟩ : ∃ q, s.be[0]? = some q := ⟨s.be[0], List.getElem?_eq_getElem hb⟩
    refine s_seq (s_ex (cm_ok (xs := [_]) (P := fun _ H => _) So4 haC rfl (e_cons (e_ite (hcond hD) (fun h => by cases h) fun _ => pv_ok (.c (.int 0)) (.int 0) _ rfl (e_nil (c_back (h := 0) So4 haC CC.td hN' hq (C.kb q (List.mem_of_getElem? hq)) fun H5 lay5 kn li h5 T5 => ?_))))))
    have hD5 := So4.out h5.2 hD nD
    have h05 := s4.trans h5
    have ha5 := h05.ins ha
    have G := learn_nil CC (show Cv M _ from cv) (show WI _ from ⟨W.iff, W.nd⟩) (show PR _ p from P) hp (show Les N M _ u [] from ⟨L2.u1, L2.b1, L2.nd, L2.sat⟩) hq T5
    have C5 : Core N M (backS ((hot (s.wCl (s.cl + 1)) es g).addLog cc) 0 q kn li) := CC.back hq T5
    refine s_seq (s_ex (cm_ok (xs := [_, _]) (P := fun _ H => _) h05.1 ha5 rfl (e_cons (pv_ok (.sub (.loc 2) (.c (.int 0))) (.int (-u)) _ (pvb rfl (pvb rfl (sb_l (n := 0) hD5.1 rfl))) (e_cons (e_ite (hcond hD5.1) (fun h => by cases h) fun _ => pv_ok (.c .none) .none _ rfl (e_nil (c_let h05.1 ha5 (C5.sz hN') rfl fun H6 h6 => ?_))))))))
    exact hgain (h05.trans h6) fun H7 g' h7 => q2 _ _ _ 0 q (-u) cc h7 ⟨hq, rfl, rfl, fun h => (by cases h), rfl, rfl, rfl, rfl, Nat.le_succ _⟩ ⟨G.c.gain_, G.cv, ⟨G.w.iff, G.w.nd⟩, G.p⟩ hlog
  | cons b r =>
    refine nn fun hC => ?_
    obtain ⟨ib, hib, hgb, hb0, hbl⟩ := hat2 b (List.mem_cons_self ..)
    obtain ⟨q, hq⟩ : ∃ q, s.be[lvl s.be ib]? = some q := ⟨_, List.getElem?_eq_getElem hbl⟩
    refine hC ?_
    have hmax : ∀ x ∈ b :: r, ∀ i, s.ro[i]? = some (-x) → lvl s.be i ≤ lvl s.be ib := fun x hx i hi => by
      obtain ⟨i', hi', hg', _⟩ := hat2 x hx
      obtain ⟨rfl, _⟩ := ro_inj C.td hi hi' rfl
      rcases List.mem_cons.mp hx with rfl | hx
      · obtain ⟨rfl, _⟩ := ro_inj C.td hi hib rfl
        exact Nat.le_refl _
      · have := (List.pairwise_cons.mp hpw2).1 x hx
        rw [hg', hgb] at this
        lia
    have hbh : ∀ i, s.ro[i]? = some (-b) → lvl s.be i = lvl s.be ib := fun i hi => by
      obtain ⟨rfl, _⟩ := ro_inj C.td hi hib rfl
      rfl
    have hct : decide (1 < (b :: r).length + 1) = true := decide_eq_true (by simp)
    have hheb := C.he ib _ hib
    rw [Int.natAbs_neg] at hheb
    clear hat2 hpw2
    generalize hhe : lvl s.be ib = hh at hb0 hbl hgb hmax hbh hheb hq
    have hq' : ((hot (s.wCl (s.cl + 1)) es g).addLog cc).be[hh]? = some q := hq
    refine s_seq (s_ex (cm_ok (xs := [_]) (P := fun _ H => _) So4 haC rfl (e_cons (e_ite (hcond hD) (fun _ => ?_) fun h => by rw [hct] at h; cases h))))
    refine cm_ok (xs := [_]) So4 haC rfl (e_cons (pv_ok (.sub (.loc 2) (.c (.int 1))) (.int b) _ (pvb rfl (pvb rfl (sb_l (n := 1) hD rfl))) (e_nil ?_)))
    refine c_height So4 haC (v := .int hh) hheb ?_
    refine e_nil ?_
    refine c_back (h := hh) So4 haC CC.td hN' hq' (CC.kb q (List.mem_of_getElem? hq')) fun H5 lay5 kn li h5 T5 => ?_
    have hD5 := So4.out h5.2 hD nD
    have h05 := s4.trans h5
    have ha5 := h05.ins ha
    have G := learn_cons CC (show Cv M _ from cv) (show WI _ from ⟨W.iff, W.nd⟩) (show PR _ p from P) hp (show Les N M _ u (b :: r) from ⟨L2.u1, L2.b1, L2.nd, L2.sat⟩) hq' hb0 hmax hbh T5
    have C5 : Core N M (backS ((hot (s.wCl (s.cl + 1)) es g).addLog cc) hh q kn li) := CC.back hq' T5
    have W5 : WI (backS ((hot (s.wCl (s.cl + 1)) es g).addLog cc) hh q kn li) := ⟨W.iff, W.nd⟩
    have hw : (backS ((hot (s.wCl (s.cl + 1)) es g).addLog cc) hh q kn li).wks.length < 130 := Nat.lt_of_le_of_lt C5.wlen (by lia)
    have h130 : (130 : Nat) < sz := by decide
    refine s_seq (s_ex (cm_ok (xs := [_, _]) (P := fun _ H => _) h05.1 ha5 rfl (e_cons (pv_ok (.sub (.loc 2) (.c (.int 0))) (.int (-u)) _ (pvb rfl (pvb rfl (sb_l (n := 0) hD5.1 rfl))) (e_cons (e_ite (hcond hD5.1) (fun _ => ?_) fun h => by rw [hct] at h; cases h))))))
    refine cm_ok (xs := [_]) h05.1 ha5 rfl (e_cons (pv_ok (.loc 2) (.ref x4) _ rfl (e_nil ?_)))
    refine c_keep h05.1 ha5 hD5.1 hD5.2 (Nat.lt_of_succ_lt hrz) (by lia) (fun l => Nat.lt_of_le_of_lt (Nat.succ_le_succ (W5.len (l := l))) hrz) fun H6 lay6 h6 => e_nil ?_
    have h06 := h05.trans h6
    have hnz2 : RowOK N (-u :: b :: r) := ⟨by simp, L2.nd, L2.nz C⟩
    have C6 : Core N M (keepS (backS ((hot (s.wCl (s.cl + 1)) es g).addLog cc) hh q kn li) (-u) b r) := C5.keep hnz2 L2.sat
    refine c_let h06.1 (h06.ins ha) (C6.sz hN') rfl fun H7 h7 => ?_
    exact hgain (h06.trans h7) fun H8 g' h8 => q2 _ _ _ _ q (-u) cc h8 ⟨hq, rfl, rfl, learn_new (u := u) (b := b) (r := r) C hq hib hhe, rfl, rfl, rfl, rfl, by show (s.rows ++ [_]).length ≤ _; rw [List.length_append]; exact Nat.le_refl _⟩ ⟨G.c.gain_, G.cv, ⟨G.w.iff, G.w.nd⟩, G.p⟩ hlog
end
end Mine
end
section
open PySem PySem.W
set_option tactic.hygienic false
namespace Mine
structure BlI (N : Nat) (M : (Nat → Bool) → Prop) (s : St) (l : Int) (ds : List Int) (es : List (Int × V)) (t : Nat) : Prop where
  kf : Keys N es
  d1 : ∀ d ∈ ds, ∃ i, t ≤ i ∧ An3 (s.ro[i]? = some d) (0 < lvl s.be i) (i ∈ s.be)
  d2 : (ds.map Int.natAbs).Nodup
  sem : ∀ α, M α → (∀ x ∈ l :: ds, ltr α x) → (∀ i < t, ∀ x, s.ro[i]? = some x → (x.natAbs : Int) ∈ ky es → 0 < lvl s.be i → ltr α x) → False
section
variable {N : Nat} {M : (Nat → Bool) → Prop} {s : St} {l : Int} {ds : List Int} {es : List (Int × V)} {t : Nat}
theorem BlI.start (C : Core N M s) (hl : -l ∈ s.ro) : BlI N M s l [] [(l.natAbs, .bool true)] s.ro.length := by
  have hz := C.td.nz _ hl
  refine ⟨⟨by show [_].Nodup; simp, fun k hk => ?_⟩, fun d hd => (by cases hd), List.nodup_nil, fun α hα h1 h2 => ?_⟩
  · have : k = l.natAbs := List.mem_singleton.mp hk
    lia
  · obtain ⟨i, hi⟩ := List.mem_iff_getElem?.mp hl
    have h3 := h1 l (List.mem_cons_self ..)
    have h4 : ltr α (-l) := by
      by_cases h0 : lvl s.be i = 0
      · exact C.zM i _ hi h0 α hα
      · exact h2 i (List.getElem?_eq_some_iff.mp hi).1 _ hi (by rw [Int.natAbs_neg]; exact List.mem_singleton.mpr rfl) (by lia)
    exact (ltr_neg (by lia)).mp h4 h3
theorem BlI.skip (B : BlI N M s l ds es (t + 1)) {x : Int} (hx : s.ro[t]? = some x) (h : (x.natAbs : Int) ∉ ky es ∨ lvl s.be t = 0) : BlI N M s l ds es t :=
  ⟨B.kf, fun d hd => by
    obtain ⟨i, h1, h2⟩ := B.d1 d hd
    exact ⟨i, by lia, h2⟩, B.d2, fun α hα h1 h2 => B.sem α hα h1 fun i hi y hy hm hl => by
    rcases Nat.lt_succ_iff_lt_or_eq.mp hi with hi | rfl
    · exact h2 i hi y hy hm hl
    · rw [hx] at hy; cases hy
      rcases h with h | h
      · exact absurd hm h
      · lia⟩
theorem BlI.dec (B : BlI N M s l ds es (t + 1)) (C : Core N M s) {x : Int} (hx : s.ro[t]? = some x) (h0 : 0 < lvl s.be t) (hc : get s.ca x.natAbs = some .none) : BlI N M s l (ds ++ [x]) es t := by
  refine ⟨B.kf, fun d hd => ?_, ?_, fun α hα h1 h2 => B.sem α hα (fun y hy => h1 y ?_) fun i hi y hy hm hl => ?_⟩
  · rcases List.mem_append.mp hd with hd | hd
    · obtain ⟨i, h1, h2⟩ := B.d1 d hd
      exact ⟨i, by lia, h2⟩
    · rw [List.mem_singleton.mp hd]
      refine ⟨t, Nat.le_refl _, hx, h0, ?_⟩
      rcases C.ca t x hx with ⟨_, h | h⟩ | ⟨k, c, h, _⟩
      · lia
      · exact h
      · rw [hc] at h; cases h
  · rw [List.map_append, List.nodup_append]
    refine ⟨B.d2, by simp, fun a ha b hb e => ?_⟩
    obtain ⟨y, hy, rfl⟩ := List.mem_map.mp ha
    simp only [List.map_cons, List.map_nil, List.mem_singleton] at hb
    obtain ⟨i, h1, h2, _⟩ := B.d1 y hy
    obtain ⟨rfl, _⟩ := ro_inj C.td h2 hx (e.trans hb)
    lia
  · rcases List.mem_cons.mp hy with rfl | hy
    · exact List.mem_cons_self ..
    · exact List.mem_cons_of_mem _ (List.mem_append_left _ hy)
  · rcases Nat.lt_succ_iff_lt_or_eq.mp hi with hi | rfl
    · exact h2 i hi y hy hm hl
    · rw [hx] at hy; cases hy
      exact h1 _ (List.mem_cons_of_mem _ (List.mem_append_right _ (List.mem_singleton.mpr rfl)))
theorem ky_putAll {es fs : List (Int × V)} {v : Int} : v ∈ ky (putAll es fs) ↔ v ∈ ky es ∨ v ∈ ky fs := by
  induction fs generalizing es with
  | nil => exact ⟨.inl, fun h => h.elim id fun h => by cases h⟩
  | cons f fs ih =>
    show v ∈ ky (putAll (put es f.1 f.2) fs) ↔ v ∈ ky es ∨ v ∈ f.1 :: ky fs
    rw [ih, ky_put_mem, List.mem_cons, or_assoc]
theorem Keys.putAll {es fs : List (Int × V)} (h : Keys N es) (h' : ∀ k ∈ ky fs, 1 ≤ k ∧ k ≤ N) : Keys N (putAll es fs) := by
  induction fs generalizing es with
  | nil => exact h
  | cons f fs ih =>
    have hf := h' f.1 (List.mem_cons_self ..)
    exact ih (h.put hf.1 hf.2) fun k hk => h' k (List.mem_cons_of_mem _ hk)
theorem BlI.cause (B : BlI N M s l ds es (t + 1)) (C : Core N M s) {x : Int} (hx : s.ro[t]? = some x) {k : Nat} {c : List Int} (hk : s.rows[k]? = some c) (hxc : x ∈ c) (hoth : ∀ y ∈ c, y ≠ x → -y ∈ s.ro.take t) {fs : List (Int × V)} (hf : ∀ v, v ∈ ky fs ↔ ∃ y ∈ c, (y.natAbs : Int) = v) : BlI N M s l ds (putAll es fs) t := by
  have hnz := (C.rk c (List.mem_of_getElem? hk)).2.2
  refine ⟨B.kf.putAll fun v hv => ?_, fun d hd => ?_, B.d2, fun α hα h1 h2 => B.sem α hα h1 fun i hi y hy hm hl => ?_⟩
  · obtain ⟨y, hy, rfl⟩ := (hf v).mp hv
    have := hnz y hy
    lia
  · obtain ⟨i, h1, h2⟩ := B.d1 d hd
    exact ⟨i, by lia, h2⟩
  · rcases Nat.lt_succ_iff_lt_or_eq.mp hi with hi | rfl
    · exact h2 i hi y hy (ky_putAll.mpr (.inl hm)) hl
    · rw [hx] at hy; cases hy
      obtain ⟨z, hz, hzt⟩ := C.rM c (List.mem_of_getElem? hk) α hα
      by_cases e : z = x
      · rw [← e]; exact hzt
      · exfalso
        obtain ⟨j, hj, hjz⟩ := mem_take_at (hoth z hz e)
        refine (ltr_neg (hnz z hz).1).mp ?_ hzt
        by_cases h0 : lvl s.be j = 0
        · exact C.zM j _ hjz h0 α hα
        · exact h2 j hj _ hjz (ky_putAll.mpr (.inr ((hf _).mpr ⟨z, hz, by rw [Int.natAbs_neg]⟩))) (by lia)
end
section
variable {sp : Sp} {m : List V} {H : AH} {Q : V → AH → Prop}
theorem e_rev {x : X} {b : Addr} {l : List V} (hx : x.pv m H = some (.ref b)) (h : H b = some (.lst l)) (q : ∀ y, H y = none → Q (.ref y) (H.set y (.lst l.reverse))) : (X.rev x).ev sp m H Q := by
  exact pv_ok x _ _ hx (ifS_mk (x := b) rfl (ifS_mk (see_lst h) (ifS_mk (x := l) rfl q)))
theorem e_dict1 {k v : X} {i : Int} {w : V} (hk : k.pv m H = some (.int i)) (hv : v.pv m H = some w) (q : ∀ a, H a = none → Q (.ref a) (H.set a (.dct [(i, w)]))) : (X.dict1 k v).ev sp m H Q :=
  pv_ok k _ _ hk (pv_ok v _ _ hv (ifS_mk (x := i) rfl q))
theorem upd_ok {a b : Addr} {es fs : List (Int × V)} (h : H a = some (.dct es)) (h' : H b = some (.dct fs)) (n : a ≠ b) (hl : es.length + fs.length ≤ sz) (q : Q .none (H.set a (.dct (putAll es fs)))) : biW .update [.ref a, .ref b] H Q := by
  show ifS (H a) _
  exact ifD_mk h (ifD_mk (see_dct h') ⟨n, hl, q⟩)
theorem e_lc {mask : List Bool} {x cond b : X} (h : x.ev sp m H fun w H => itW H w fun items chk thaw H =>
      cloop chk (fun x H acc K => cond.ev sp (mskd m mask ++ [x]) H fun v H => ifB v (X.cw sp b (mskd m mask ++ [x]) H acc K) (K acc H)) items H [] fun acc H => ∀ a, thaw H a = none → Q (.ref a) ((thaw H).set a (.lst acc))) : (X.lcomp mask (.src x) cond b).ev sp m H Q := h
theorem pv_mem {v : X} {w : X} {k : Int} {d : Addr} {es : List (Int × V)} (hv : v.pv m H = some (.int k)) (hw : w.pv m H = some (.ref d)) (h : H d = some (.dct es)) : (X.cmp .mem v w).pv m H = some (.bool (decide (k ∈ ky es))) := pvb hv (pvb hw (pcm (mb h)))
end
section
variable {n : Nat} {H : AH} {lay : Ro → Addr} {s : St} {a : Addr} {Q : V → AH → Prop} {N : Nat} {M : (Nat → Bool) → Prop}
structure Blm (N : Nat) (M : (Nat → Bool) → Prop) (s : St) (l : Int) (ds : List Int) : Prop where
  d1 : ∀ d ∈ ds, ∃ i, An3 (s.ro[i]? = some d) (0 < lvl s.be i) (i ∈ s.be)
  d2 : (ds.map Int.natAbs).Nodup
  sem : ∀ α, M α → ¬ ∀ x ∈ l :: ds, ltr α x
set_option maxHeartbeats 1000000 in
theorem c_blame (So : Sol H lay s) (ha : lay .ins = a) (C : Core N M s) (hN : N < 60) {l : Int} (hl : -l ∈ s.ro) (hlz : s.lg.length < sz)
    (q : ∀ H' lay' s' ds, SF H lay s H' lay' s' → Blm N M s l ds → (s' = s.wBl (l :: ds) ∧ (∃ x ∈ l :: ds, -x ∈ l :: ds)) ∨ (∃ c, s' = (s.wBl (l :: ds)).addLog c ∧ Ord ((l :: ds).map fun x => -x) c) → Q .none H') : spN tab02 (n + 2) 15 [.ref a, .int l] H Q := by
  have hsz : N < sz := Nat.lt_trans hN (by decide)
  have h1000 : (1000 : Nat) ≤ sz := by decide
  have hz := C.td.nz _ hl
  refine sp_go rfl rfl (s_seq (s_asgN (e_cons (e_list (e_cons (pv_ok (.loc 1) (.int l) _ rfl (e_nil fun ba hba => e_cons (e_dict1 (i := l.natAbs) rfl rfl fun fa hfa => e_nil ⟨rfl, ?_⟩))))))))
  have h1 := SF.junk So (o := .lst [.int l]) hba
  have h2 := h1.trans (SF.junk h1.1 (o := .dct [((l.natAbs : Int), .bool true)]) hfa)
  have hfb : fa ≠ ba := by rintro rfl; rw [set_eq] at hfa; cases hfa
  have fba : Fre H lay s ba := .of hba
  have ffa : Fre H lay s fa := h1.fre hfa
  have nba := So.nfp hba
  have nfa := h1.1.nfp hfa
  have hba1 : ((H.set ba (.lst [.int l])).set fa (.dct [((l.natAbs : Int), .bool true)])) ba = some (.lst (zs (l :: []))) := by rw [set_ne fun e => hfb e.symm]; exact set_eq
  have hfa1 : ((H.set ba (.lst [.int l])).set fa (.dct [((l.natAbs : Int), .bool true)])) fa = some (.dct [((l.natAbs : Int), .bool true)]) := set_eq
  generalize ((H.set ba (.lst [.int l])).set fa (.dct [((l.natAbs : Int), .bool true)])) = H1 at h2 hba1 hfa1
  refine s_seq (s_for (e_rev (h2.1.a_ ha rfl rfl) (h2.1.at_ .ro trivial) fun rv hrv => it_l set_eq ?_))
  have h3 := h2.trans (SF.junk h2.1 (o := .lst (zs s.ro).reverse) hrv)
  have nrv := h2.1.nfp hrv
  have hrb : rv ≠ ba := by rintro rfl; rw [hba1] at hrv; cases hrv
  have hrf : rv ≠ fa := by rintro rfl; rw [hfa1] at hrv; cases hrv
  refine floop_ind (fun j m H' => Ex4 fun (ds : List Int) (es : List (Int × V)) (z4 z5 : V) => An6 (m = [.ref a, .int l, .ref ba, .ref fa, z4, z5, .un]) (SF H lay s H' lay s) (H' ba = some (.lst (zs (l :: ds)))) (H' fa = some (.dct es)) (H' rv = some (.lst (zs s.ro).reverse)) (BlI N M s l ds es (s.ro.length - j))) _ (fun j v m H2 K hv hI hK => ?_) (fun m H2 hI => ?_) ⟨[], _, .un, .un, rfl, h3, by rw [set_ne fun e => hrb e.symm]; exact hba1, by rw [set_ne fun e => hrf e.symm]; exact hfa1, set_eq, BlI.start C hl⟩
  · refine nn fun hC => ?_
    obtain ⟨ds, es, z4, z5, rfl, h, hb, hf, hr, B⟩ := hI
    refine hC ?_
    have hv' := (List.getElem?_eq_some_iff.mp hv).1
    rw [List.length_reverse, zs_len] at hv'
    rw [List.getElem?_reverse (by rw [zs_len]; exact hv'), zs_len] at hv
    obtain ⟨x, hx, rfl⟩ := zs_at hv
    obtain ⟨t, ht⟩ : ∃ t, s.ro.length - j = t + 1 := ⟨s.ro.length - j - 1, by lia⟩
    rw [show s.ro.length - 1 - j = t by lia] at hx
    rw [ht] at B
    have hx0 := C.td.nz _ (List.mem_of_getElem? hx)
    refine ⟨see_lst hr, s_seq (s_asg (pv_ok _ (.int x.natAbs) _ rfl ?_))⟩
    have hhe := C.he t x hx
    have hlen : s.ro.length - (j + 1) = t := by lia
    have hcond : (X.and (.cmp .mem (.loc 5) (.loc 3)) (.and (.cmp .gt (.sub (.attr (.loc 0) 1) (.loc 5)) (.c (.int 0))) (.c (.bool true)))).pv [.ref a, .int l, .ref ba, .ref fa, .int x, .int x.natAbs, .un] H2 = some (.bool (decide ((x.natAbs : Int) ∈ ky es) && (decide (0 < lvl s.be t) && true))) := by
      refine pv_and (pv_mem rfl rfl hf) fun _ => pv_and (pvb (pvb (h.1.a_ ha rfl rfl) (pvb rfl (sb_d (h.1.at_ .he trivial) hhe))) (pvb rfl (pcm ?_))) fun _ => rfl
      show some (decide ((0 : Int) < (lvl s.be t : Int))) = _
      congr 1
      exact decide_eq_decide.mpr (by lia)
    refine s_seq (s_ite hcond (fun hd => ?_) fun hd => ?_)
    · rw [Bool.and_true, Bool.and_eq_true] at hd
      have hl0 := of_decide_eq_true hd.2
      have hdl : ds.length ≤ N := lits_len B.d2 fun d hd => by
        obtain ⟨i, _, h7, _⟩ := B.d1 d hd
        exact C.td.nz _ (List.mem_of_getElem? h7)
      rcases C.ca t x hx with ⟨hca, _⟩ | ⟨k, c, hca, hk, hxc, hoth⟩
      · refine s_seq (s_ite (b := true) (pvb (pvb (h.1.a_ ha rfl rfl) (pvb rfl (sb_d (h.1.at_ .ca trivial) hca))) (pvb rfl (pcm rfl))) (fun _ => ?_) fun h => by cases h)
        refine s_seq (s_ex (bm_l (b := ba) rfl hb rfl (e_cons (pv_ok (.loc 4) (.int x) _ rfl (e_nil (app_ok hb (by rw [zs_len, List.length_cons]; lia) ?_))))))
        refine s_skip (s_skip (s_skip (hK _ _ ⟨ds ++ [x], es, _, _, rfl, h.side fba nba, ?_, by rw [set_ne hfb]; exact hf, by rw [set_ne hrb]; exact hr, by rw [hlen]; exact B.dec C hx hl0 hca⟩)))
        rw [set_eq, show l :: (ds ++ [x]) = (l :: ds) ++ [x] from rfl, zs_app]; rfl
      · have hklt := (List.getElem?_eq_some_iff.mp hk).1
        have hnz := (C.rk c (List.mem_of_getElem? hk)).2.2
        have hcl := row_len C.rk hk
        refine s_seq (s_ite (b := false) (pvb (pvb (h.1.a_ ha rfl rfl) (pvb rfl (sb_d (h.1.at_ .ca trivial) hca))) (pvb rfl (pcm rfl))) (fun h => by cases h) fun _ => ?_)
        refine s_seq (s_ex (bm_d (o := .loc 3) (b := fa) rfl hf rfl (e_cons (e_dc (pv_ok _ (.ref (lay (.cl k))) _ (ref_row h.1 ha hklt (pvb (h.1.a_ ha rfl rfl) (pvb rfl (sb_d (h.1.at_ .ca trivial) hca)))) (it_l (h.1.row hk) ?_))))))
        refine cloop_ind (fun i acc H' => H' = H2 ∧ (∀ v, v ∈ ky acc ↔ ∃ y ∈ c.take i, (y.natAbs : Int) = v) ∧ acc.length ≤ i) _ (fun i w acc H' K' hw hI hK' => ?_) (fun acc H' hI => ?_) ⟨rfl, fun v => ⟨fun h => (by cases h), fun ⟨y, hy, _⟩ => (by cases hy)⟩, Nat.le_refl _⟩
        · obtain ⟨rfl, hky, hle⟩ := hI
          obtain ⟨y, hy, rfl⟩ := zs_at hw
          have hic := (List.getElem?_eq_some_iff.mp hy).1
          refine ⟨see_lst (h.1.row hk), pv_ok (.bi .abs [.loc 7]) (.int y.natAbs) _ rfl (pv_ok (.c (.bool true)) (.bool true) _ rfl ⟨by lia, hK' _ _ ⟨rfl, fun v => ?_, ?_⟩⟩)⟩
          · rw [ky_put_mem, hky]
            constructor
            · rintro (⟨z, hz, e⟩ | rfl)
              · exact ⟨z, (mem_take_succ hy).mpr (.inl hz), e⟩
              · exact ⟨y, (mem_take_succ hy).mpr (.inr rfl), rfl⟩
            · rintro ⟨z, hz, e⟩
              rcases (mem_take_succ hy).mp hz with hz | rfl
              · exact .inl ⟨z, hz, e⟩
              · exact .inr e.symm
          · exact Nat.le_trans (put_length ..) (Nat.succ_le_succ hle)
        · obtain ⟨rfl, hky, hle⟩ := hI
          rw [zs_len, List.take_length] at hky
          rw [zs_len] at hle
          refine ⟨see_lst (h.1.row hk), fun y hy => ?_⟩
          have hyf : fa ≠ y := by rintro rfl; rw [show H' fa = none from hy] at hf; cases hf
          have hyb : ba ≠ y := by rintro rfl; rw [show H' ba = none from hy] at hb; cases hb
          have hyr : rv ≠ y := by rintro rfl; rw [show H' rv = none from hy] at hr; cases hr
          have hu := h.trans (SF.junk h.1 (o := .dct acc) hy)
          refine e_nil (upd_ok (es := es) (fs := acc) (by exact (set_ne hyf).trans hf) set_eq hyf (by have := B.kf.len; lia) ?_)
          exact s_skip (s_skip (s_skip (hK _ _ ⟨ds, putAll es acc, _, _, rfl, hu.side ffa nfa, by rw [set_ne fun e => hfb e.symm]; exact (set_ne hyb).trans hb, set_eq, by rw [set_ne hrf]; exact (set_ne hyr).trans hr, by rw [hlen]; exact B.cause C hx hk hxc hoth hky⟩)))
    · rw [Bool.and_true, Bool.and_eq_false_iff] at hd
      refine s_skip (s_skip (hK _ _ ⟨ds, es, _, _, rfl, h, hb, hf, hr, by rw [hlen]; exact B.skip hx (hd.imp of_decide_eq_false fun h => by have := of_decide_eq_false h; lia)⟩))
  · refine nn fun hC => ?_
    obtain ⟨ds, es, z4, z5, rfl, h, hb, hf, hr, B⟩ := hI
    refine hC ?_
    rw [List.length_reverse, zs_len, Nat.sub_self] at B
    have hdl : ds.length ≤ N := lits_len B.d2 fun d hd => by
      obtain ⟨i, _, h7, _⟩ := B.d1 d hd
      exact C.td.nz _ (List.mem_of_getElem? h7)
    have hds0 : ∀ x ∈ l :: ds, x ≠ 0 := fun x hx => by
      rcases List.mem_cons.mp hx with rfl | hx
      · lia
      · obtain ⟨i, _, h7, _⟩ := B.d1 x hx
        exact (C.td.nz _ (List.mem_of_getElem? h7)).1
    have hB : Blm N M s l ds := ⟨fun d hd => by
      obtain ⟨i, _, h7⟩ := B.d1 d hd
      exact ⟨i, h7⟩, B.d2, fun α hα hall => B.sem α hα hall fun i hi => absurd hi (Nat.not_lt_zero _)⟩
    refine ⟨see_lst hr, s_seq (s_setE (e_bi (e_cons (pv_ok (.loc 2) (.ref ba) _ rfl (e_nil (tt_l hb fun y hy => attS_ok (h.1.junk (o := .tup (zs (l :: ds))) hy) ha ?_))))))⟩
    have h4 := n_bl h.1 y hy (l :: ds)
    have hout := h.1.out h4.2 hb nba
    have h04 := h.trans h4
    have ha4 := h04.ins ha
    generalize ((H2.set y (.tup (zs (l :: ds)))).set (lay .att) (.att (put (attL lay s) 13 (.ref y)))) = H4 at h4 hout h04
    generalize up lay .bl y = lay4 at h4 hout h04 ha4
    refine s_seq (s_asg (e_callG (e_cons (e_lc (pv_ok (.loc 2) (.ref ba) _ rfl (it_l hout.1 ?_))))))
    refine cloop_ind (fun i acc H' => H' = H4 ∧ acc = zs (((l :: ds).take i).map fun x => -x)) _ (fun i w acc H' K' hw hI hK' => ?_) (fun acc H' hI => ?_) ⟨rfl, rfl⟩
    · obtain ⟨rfl, rfl⟩ := hI
      obtain ⟨x, hx, rfl⟩ := zs_at hw
      have hic := (List.getElem?_eq_some_iff.mp hx).1
      rw [List.length_cons] at hic
      refine ⟨see_lst hout.1, pvT (pv_ok (.neg (.loc 7)) (.int (-x)) _ rfl ⟨?_, hK' _ _ ⟨rfl, ?_⟩⟩)⟩
      · rw [zs_len, List.length_map, List.length_take]; lia
      · rw [List.take_add_one, hx, List.map_append, zs_app]; rfl
    · obtain ⟨rfl, rfl⟩ := hI
      rw [zs_len, List.take_length]
      refine ⟨see_lst hout.1, fun z hz => e_nil ?_⟩
      have h5 := SF.junk h4.1 (o := .lst (zs ((l :: ds).map fun x => -x))) hz
      refine c_ordered set_eq (.inl rfl) (fun x hx => ?_) (by rw [List.length_map, List.length_cons]; lia) (fun H6 E6 hbad => ?_) fun H6 y6 c E6 hy6 hy6' hO => ?_
      · obtain ⟨x', hx', rfl⟩ := List.mem_map.mp hx
        have := hds0 x' hx'
        lia
      · have h6 := E6.sf h5.1
        refine s_seq (s_ite (b := false) (pvb rfl (pvb rfl (pcm rfl))) (fun h => by cases h) fun _ => s_skip (s_skip (q _ _ _ ds (h04.trans (h5.trans h6)) hB (.inl ⟨rfl, ?_⟩))))
        refine nn fun hC => ?_
        obtain ⟨x, h7, h8⟩ := hbad
        obtain ⟨x', hx', rfl⟩ := List.mem_map.mp h7
        obtain ⟨x2, hx2, e⟩ := List.mem_map.mp h8
        refine hC ?_
        exact ⟨x', hx', by rw [show -x' = x2 by lia]; exact hx2⟩
      · obtain ⟨H0, E0, hy0, rfl⟩ := ext_split E6 hy6 hy6'
        have h6 := E0.sf h5.1
        have h7 := n_lg h6.1 y6 hy0 c
        refine s_seq (s_ite (b := true) (pvb rfl (pvb rfl (pcm rfl))) (fun _ => ?_) fun h => by cases h)
        have h8 := h6.1.junk (o := .tup (zs c)) hy0
        have hz8 : (refs (s.wBl (l :: ds)).lg.length fun i => lay4 (.le i)).length < sz := by rw [refs_len]; exact hlz
        refine s_seq (s_ex (bm_l (h8.a_ ha4 rfl rfl) (h8.at_ .lg trivial) rfl (e_cons (pv_ok (.loc 6) (.ref y6) _ rfl (e_nil (app_ok (h8.at_ .lg trivial) hz8 (s_skip (s_skip (q _ _ _ ds (h04.trans (h5.trans (h6.trans h7))) hB (.inr ⟨c, rfl, hO⟩))))))))))
end
end Mine
end
section
open PySem PySem.W
set_option tactic.hygienic false
namespace Mine
noncomputable def orW (r : AH → Prop) (Q : V → AH → Prop) : V → AH → Prop := fun v H => ifB v (Q (.bool true) H) (r H)
noncomputable def boolW (Q : V → AH → Prop) : V → AH → Prop := fun v H => ifS v.b? fun b => Q (.bool b) H
noncomputable def cmpW (op : Cm) (v w : V) (H : AH) (Q : V → AH → Prop) : Prop := ifS (cmpV H op v w) fun b => Q (.bool b) H
section
variable {sp : Sp} {m : List V} {H : AH} {Q : V → AH → Prop}
theorem e_or {l r : X} (h : l.ev sp m H (orW (fun H => r.ev sp m H (boolW Q)) Q)) : (X.or l r).ev sp m H Q := h
theorem e_cmp {op : Cm} {l r : X} (h : l.ev sp m H fun v H => r.ev sp m H fun w H => cmpW op v w H Q) : (X.cmp op l r).ev sp m H Q := h
theorem e_tup {xs : List X} (h : X.evs sp xs m H fun vs H => ∀ a, H a = none → Q (.ref a) (H.set a (.tup vs))) : (X.tup xs).ev sp m H Q := h
theorem cmpW_i {op : Cm} {v w : V} {b : Bool} (h : cmpV H op v w = some b) (q : Q (.bool b) H) : cmpW op v w H Q := ifS_mk h q
theorem hset_comm {a b : Addr} {x y : O} (h : a ≠ b) : (H.set a x).set b y = (H.set b y).set a x := by
  funext c
  unfold AH.set
  by_cases h1 : c = b
  · subst h1
    rw [if_pos rfl, if_neg fun e => h e.symm, if_pos rfl]
  · rw [if_neg h1]
    by_cases h2 : c = a
    · rw [if_pos h2, if_pos h2]
    · rw [if_neg h2, if_neg h2, if_neg h1]
end
section
variable {n : Nat} {H : AH} {lay : Ro → Addr} {s : St} {a : Addr} {Q : V → AH → Prop} {N : Nat} {M : (Nat → Bool) → Prop}
theorem c_hottest (So : Sol H lay s) (ha : lay .ins = a) (ht : HtOK N s.ht)
    (q : ∀ H' (v : Int), SF H lay s H' lay s → (v = 0 ∧ ∀ k : Int, 1 ≤ k → k ≤ N → k ∈ ky s.kn) ∨ (1 ≤ v ∧ v ≤ N ∧ v ∉ ky s.kn) → Q (.int v) H') : spN tab02 (n + 1) 16 [.ref a] H Q := by
  refine sp_go rfl rfl (s_seq (s_asg (pv_ok (.c (.int 0)) (.int 0) _ rfl ?_)))
  refine s_seq (s_for (pv_ok _ _ _ (So.a_ ha rfl rfl) (it_d (So.at_ .ht trivial) fun o => ?_)))
  have hne : ∀ r, r ≠ .ht → use s r → lay r ≠ lay .ht := fun r h u e => h (So.inj r .ht u trivial e)
  refine floop_ind (fun i m H' => Ex3 fun (b : Int) (z : V) (H1 : AH) => An4 (m = [.ref a, .int b, z]) (Ext H H1) (H' = H1.set (lay .ht) (.froz (.dct s.ht) o)) (((b = 0 ∧ ∀ k ∈ (oneTo N).take i, k ∈ ky s.kn) ∨ (1 ≤ b ∧ b ≤ N ∧ b ∉ ky s.kn)))) _ (fun i v m H' K hv hI hK => ?_) (fun m H' hI => ?_) ⟨0, .un, H, rfl, .refl, rfl, .inl ⟨rfl, fun k h => (by cases h)⟩⟩
  · obtain ⟨b, z, H1, rfl, E, rfl, hb⟩ := hI
    obtain ⟨k, hk, rfl⟩ := keys_get hv
    have hk : (oneTo N)[i]? = some k := by rw [← ht.1]; exact hk
    have hk1 := mem_oneTo.mp (List.mem_of_getElem? hk)
    obtain ⟨hx, hhx⟩ := ht.get hk1.1 hk1.2
    have hat : ∀ {H2 : AH}, Ext H H2 → ∀ {f : Nat} {v : V}, get (attL lay s) f = some v → nun v = some v → attrV (H2.set (lay .ht) (.froz (.dct s.ht) o)) (.ref a) f = some v := fun {H2} E2 {f v} h3 h4 =>
      attr_of (d := lay .att) (es := attL lay s) (by rw [← ha, set_ne (hne .ins (by simp) trivial)]; exact E2 _ _ (So.at_ .ins trivial)) (by rw [set_ne (hne .att (by simp) trivial)]; exact E2 _ _ (So.at_ .att trivial)) h3 h4
    have hkn : (H1.set (lay .ht) (.froz (.dct s.ht) o)) (lay .kn) = some (.dct s.kn) := by
      rw [set_ne (hne .kn (by simp) trivial)]; exact E _ _ (So.at_ .kn trivial)
    refine ⟨set_eq, s_seq (s_ite (b := !decide (k ∈ ky s.kn)) (pvb rfl (pvb (hat E rfl rfl) (pcm (nm hkn)))) (fun hd => ?_) fun hd => ?_)⟩
    · have hnk : k ∉ ky s.kn := of_decide_eq_false (by rwa [Bool.not_eq_true'] at hd)
      have hset : ∀ {z : V} {H2 : AH}, Ext H H2 → K [.ref a, .int k, z] (H2.set (lay .ht) (.froz (.dct s.ht) o)) := fun {z H2} E2 => hK _ _ ⟨k, z, H2, rfl, E2, rfl, .inr ⟨hk1.1, hk1.2, hnk⟩⟩
      by_cases hb0 : b = 0
      · subst hb0
        refine s_seq (s_iteE (e_or (pv_ok _ (.bool true) _ (pvb rfl (pvb rfl (pcm (eq_ii (j := 0))))) ?_)))
        exact hset E
      · have hb' := hb.resolve_left fun h => hb0 h.1
        obtain ⟨hy, hhy⟩ := ht.get hb'.1 hb'.2.1
        refine s_seq (s_iteE (e_or (pv_ok _ (.bool false) _ (pvb rfl (pvb rfl (pcm ((eq_ii (j := 0)).trans (by rw [decide_eq_false hb0]))))) ?_)))
        refine e_or (e_cmp (e_tup (e_cons (pv_ok _ (.int hx) _ (pvb (hat E rfl rfl) (pvb rfl (sb_f set_eq hhx))) (e_cons (pv_ok (.neg (.loc 2)) (.int (-k)) _ rfl (e_nil fun x hx0 => ?_)))))))
        have hxh : x ≠ lay .ht := by rintro rfl; rw [set_eq] at hx0; cases hx0
        have hx1 : H1 x = none := by rw [set_ne hxh] at hx0; exact hx0
        have E2 : Ext H (H1.set x (.tup [.int hx, .int (-k)])) := E.new (E.none hx1)
        rw [hset_comm fun e => hxh e.symm]
        refine e_tup (e_cons (pv_ok _ (.int hy) _ (pvb (hat E2 rfl rfl) (pvb rfl (sb_f set_eq hhy))) (e_cons (pv_ok (.neg (.loc 1)) (.int (-b)) _ rfl (e_nil fun y hy0 => ?_)))))
        have hyh : y ≠ lay .ht := by rintro rfl; rw [set_eq] at hy0; cases hy0
        have hy1 : (H1.set x (.tup [.int hx, .int (-k)])) y = none := by rw [set_ne hyh] at hy0; exact hy0
        have hxy : x ≠ y := by rintro rfl; rw [set_eq] at hy1; cases hy1
        have E3 : Ext H ((H1.set x (.tup [.int hx, .int (-k)])).set y (.tup [.int hy, .int (-b)])) := E2.new (E2.none hy1)
        rw [hset_comm fun e => hyh e.symm]
        have hg : gtV ((((H1.set x (.tup [.int hx, .int (-k)])).set y (.tup [.int hy, .int (-b)]))).set (lay .ht) (.froz (.dct s.ht) o)) (.ref x) (.ref y) = some (decide (hy < hx ∨ (hx = hy ∧ -b < -k))) := by
          show (AH.see _ x).bind _ = _
          rw [see_tup (l := [.int hx, .int (-k)]) (by rw [set_ne hxh, set_ne hxy]; exact set_eq)]
          show (AH.see _ y).bind _ = _
          rw [see_tup (l := [.int hy, .int (-b)]) (by rw [set_ne hyh]; exact set_eq)]
          rfl
        refine cmpW_i hg ?_
        cases decide (hy < hx ∨ (hx = hy ∧ -b < -k))
        · exact hK _ _ ⟨b, _, _, rfl, E3, rfl, .inr hb'⟩
        · exact hset E3
    · have hkk : k ∈ ky s.kn := of_decide_eq_true (by rwa [Bool.not_eq_false'] at hd)
      refine s_skip (s_skip (hK _ _ ⟨b, _, H1, rfl, E, rfl, hb.imp (fun h => ⟨h.1, fun x hx => ?_⟩) id⟩))
      rcases (mem_take_succ hk).mp hx with hx | rfl
      · exact h.2 x hx
      · exact hkk
  · obtain ⟨b, z, H1, rfl, E, rfl, hb⟩ := hI
    refine ⟨set_eq, ?_⟩
    have e : (H1.set (lay .ht) (.froz (.dct s.ht) o)).set (lay .ht) (.dct s.ht) = H1 := by
      rw [set_set]; exact set_same (E _ _ (So.at_ .ht trivial))
    refine s_seq (s_ret (pv_ok (.loc 1) (.int b) _ rfl ?_))
    refine (?_ : Q (.int b) ((H1.set (lay .ht) (.froz (.dct s.ht) o)).set (lay .ht) (.dct s.ht)))
    rw [e]
    refine q _ _ (E.sf So) (hb.imp (fun h => ⟨h.1, fun k h1 h2 => h.2 k ?_⟩) id)
    rw [keys_len, ht.len, List.take_of_length_le (by rw [oneTo_len]; exact Nat.le_refl _)]
    exact mem_oneTo.mpr ⟨h1, h2⟩
theorem Core.dec (C : Core N M s) (h : s.seen = s.ro.length) : Core N M (s.wBe (s.be ++ [s.ro.length])) := by
  have hlv : ∀ {i : Nat} {l : Int}, s.ro[i]? = some l → lvl (s.be ++ [s.ro.length]) i = lvl s.be i := fun {i l} hl => by
    have := (List.getElem?_eq_some_iff.mp hl).1
    rw [lvl_app, lvl_none (be := [s.ro.length]) fun b hb => by rw [List.mem_singleton.mp hb]; exact this]; rfl
  refine ⟨⟨C.td.nz, C.td.nd, C.td.kn, C.td.kK, C.td.hK, C.td.cK, C.td.lK, C.td.lB⟩, fun i l hl => ?_, fun i l hl => ?_, ?_, fun b hb => ?_, C.sl, C.rk, C.rM, fun i l hl h0 => ?_, C.ht, C.wn, C.wr, C.lim⟩
  · show _ = some (V.int (lvl (s.be ++ [s.ro.length]) i : Nat))
    rw [hlv hl]; exact C.he i l hl
  · rcases C.ca i l hl with ⟨h1, h2⟩ | h1
    · exact .inl ⟨h1, h2.imp (fun h2 => by show lvl (s.be ++ [s.ro.length]) i = 0; rw [hlv hl]; exact h2) fun h2 => List.mem_append_left _ h2⟩
    · exact .inr h1
  · show (s.be ++ [s.ro.length]).Pairwise _
    rw [List.pairwise_append]
    exact ⟨C.srt, List.pairwise_singleton .., fun a ha b hb => by rw [List.mem_singleton.mp hb]; exact C.kb a ha⟩
  · show b ≤ s.seen
    rcases List.mem_append.mp hb with hb | hb
    · exact C.bs b hb
    · rw [List.mem_singleton.mp hb, h]; exact Nat.le_refl _
  · have h0 : lvl (s.be ++ [s.ro.length]) i = 0 := h0
    rw [hlv hl] at h0
    exact C.zM i l hl h0
theorem Good4.dec (G : Good4 N M s) (h : s.seen = s.ro.length) : Good4 N M (s.wBe (s.be ++ [s.ro.length])) := by
  have hlv : ∀ {i : Nat} {l : Int}, s.ro[i]? = some l → lvl (s.be ++ [s.ro.length]) i = lvl s.be i := fun {i l} hl => by
    have := (List.getElem?_eq_some_iff.mp hl).1
    rw [lvl_app, lvl_none (be := [s.ro.length]) fun b hb => by rw [List.mem_singleton.mp hb]; exact this]; rfl
  refine ⟨G.c.dec h, fun α h1 h2 => G.cv α h1 fun i l hl h0 => h2 i l hl (by show lvl (s.be ++ [s.ro.length]) i = 0; rw [hlv hl]; exact h0), ⟨G.w.iff, G.w.nd⟩, fun k c w w' hc hw i hi hx => ?_⟩
  obtain ⟨j, h1, h2⟩ := G.p k c w w' hc hw i hi hx
  exact ⟨j, h1, by show lvl (s.be ++ [s.ro.length]) j ≤ lvl (s.be ++ [s.ro.length]) i; rw [hlv hx, hlv h1]; exact h2⟩
end
end Mine
end
section
open PySem PySem.W
set_option tactic.hygienic false
namespace Mine
section
variable {n : Nat} {H : AH} {lay : Ro → Addr} {s : St} {a : Addr} {Q : V → AH → Prop} {N : Nat} {M : (Nat → Bool) → Prop}
theorem lt_nn {H : AH} {i j : Nat} : cmpV H .lt (.int i) (.int j) = some (decide (i < j)) := by
  show some (decide ((i : Int) < (j : Int))) = _
  congr 1
  exact decide_eq_decide.mpr (by lia)
inductive Dcd (asked : List Int) (s : St) : St → Prop
  | true_ (l : Int) : asked[s.be.length]? = some l → l ∈ s.ro → Dcd asked s (s.wBe (s.be ++ [s.ro.length]))
  | new (l : Int) : (∀ x ∈ s.ro, x.natAbs ≠ l.natAbs) → (s.be.length < asked.length → asked[s.be.length]? = some l) → Dcd asked s (letS (s.wBe (s.be ++ [s.ro.length])) l .none)
set_option maxHeartbeats 1000000 in
theorem c_decide (So : Sol H lay s) (ha : lay .ins = a) (G : Good4 N M s) (hN : N < 60) (hs : s.seen = s.ro.length) {ask : Addr} {asked : List Int} (hask : H ask = some (.lst (zs asked))) (nask : ¬ fp lay s ask) (hnz : ∀ l ∈ asked, l ≠ 0 ∧ l.natAbs ≤ N) (hlz : s.lg.length < sz) (hbz : s.be.length < sz)
    (q1 : ∀ H' lay' s' ds l, asked[s.be.length]? = some l → -l ∈ s.ro → SF H lay s H' lay' s' → Blm N M s l ds → (s' = s.wBl (l :: ds) ∧ (∃ x ∈ l :: ds, -x ∈ l :: ds)) ∨ (∃ c, s' = (s.wBl (l :: ds)).addLog c ∧ Ord ((l :: ds).map fun x => -x) c) → Q (.bool false) H')
    (q2 : ∀ H', SF H lay s H' lay s → asked.length ≤ s.be.length → (∀ k : Int, 1 ≤ k → k ≤ N → k ∈ ky s.kn) → Q (.bool true) H')
    (q3 : ∀ H' s', SF H lay s H' lay s' → Dcd asked s s' → Good4 N M s' → Q .none H') : spN tab02 (n + 3) 17 [.ref a, .ref ask] H Q := by
  have C := G.c
  suffices hF : ∀ H1 l z3, SF H lay s H1 lay s → l ≠ 0 → l.natAbs ≤ N → (l ∈ s.ro ∨ ∀ x ∈ s.ro, x.natAbs ≠ l.natAbs) → (s.be.length < asked.length → asked[s.be.length]? = some l) → (asked.length ≤ s.be.length → ∀ x ∈ s.ro, x.natAbs ≠ l.natAbs) →
      (S.seq (.ex (.bm .append (.attr (.loc 0) 4) [(.bi .len [(.attr (.loc 0) 3)])])) (.seq (.ite (.cmp .is (.callM 2 (.loc 0) [(.loc 2)]) (.c .none)) (.seq (.ex (.callM 3 (.loc 0) [(.loc 2), (.c .none)])) .skip) .skip) (.seq (.ret (.c .none)) .skip))).wp (spN tab02 (n + 2)) [.ref a, .ref ask, .int l, z3] H1 (fun _ H => Q .none H) Q by
    refine sp_go rfl rfl (s_seq (s_ite (b := decide (s.be.length < asked.length)) (pvb (len_pv (So.a_ ha rfl rfl) (ln_nz (So.at_ .be trivial))) (pvb (len_pv rfl (ln_zs hask)) (pcm lt_nn))) (fun hd => ?_) fun hd => ?_))
    · have hd := of_decide_eq_true hd
      have hl : asked[s.be.length]? = some asked[s.be.length] := List.getElem?_eq_getElem hd
      generalize asked[s.be.length] = l at hl
      have hl0 := hnz l (List.mem_of_getElem? hl)
      refine s_seq (s_asg (pv_ok _ (.int l) _ (pvb rfl (pvb (len_pv (So.a_ ha rfl rfl) (ln_nz (So.at_ .be trivial))) (sb_l hask (idx_nat (zs_get hl))))) ?_))
      rcases C.td.say hl0.1 with ⟨hin, hsay⟩ | ⟨hin, hsay⟩ | ⟨hin, hsay⟩
      · exact s_seq (s_says (l := l) (b := false) So ha C.td.knOK rfl rfl (by rw [hsay]; rfl) (fun h => by cases h) fun _ => s_skip (s_skip (hF H l _ (.refl So) hl0.1 hl0.2 (.inl hin) (fun _ => hl) fun h => absurd hd (by lia))))
      · refine s_seq (s_says (l := l) (b := true) So ha C.td.knOK rfl rfl (by rw [hsay]; rfl) (fun _ => ?_) fun h => by cases h)
        refine s_seq (s_ex (cm_ok (xs := [.loc 2]) (P := fun _ H => _) So ha rfl (e_cons (pv_ok (.loc 2) (.int l) _ rfl (e_nil (c_blame So ha C hN hin hlz fun H' lay' s' ds h hB hor => ?_))))))
        exact s_seq (s_ret (pv_ok (.c (.bool false)) (.bool false) _ rfl (q1 H' lay' s' ds l hl hin h hB hor)))
      · exact s_seq (s_says (l := l) (b := false) So ha C.td.knOK rfl rfl (by rw [hsay]; rfl) (fun h => by cases h) fun _ => s_skip (s_skip (hF H l _ (.refl So) hl0.1 hl0.2 (.inr hin) (fun _ => hl) fun h => absurd hd (by lia))))
    · have hd := of_decide_eq_false hd
      refine s_seq (s_asg (cm_ok (xs := []) (P := fun v H => _) So ha rfl (e_nil (c_hottest So ha C.ht fun H1 v h1 hv => ?_))))
      rcases hv with ⟨rfl, hall⟩ | ⟨hv1, hv2, hv3⟩
      · refine s_seq (s_ite (b := true) (pvb rfl (pvb rfl (pcm (eq_ii (j := 0))))) (fun _ => ?_) fun h => by cases h)
        exact s_seq (s_ret (pv_ok (.c (.bool true)) (.bool true) _ rfl (q2 _ h1 (by lia) hall)))
      · refine s_seq (s_ite (b := false) (pvb rfl (pvb rfl (pcm ((eq_ii (j := 0)).trans (by rw [decide_eq_false (by lia)]))))) (fun h => by cases h) fun _ => s_skip ?_)
        obtain ⟨b, hb⟩ : ∃ b, (get s.li v).getD (.bool false) = .bool b := by
          cases hg : get s.li v with
          | none => exact ⟨false, rfl⟩
          | some w => exact C.td.lB _ _ hg
        have hfree : ∀ l : Int, (l.natAbs : Int) = v → ∀ x ∈ s.ro, x.natAbs ≠ l.natAbs := fun l e x hx e2 => by
          have := (C.td.kn v (.bool (decide (0 < x)))).mpr ⟨x, hx, by lia, rfl⟩
          exact hv3 (get_ky this)
        refine s_seq (s_asg (e_ite (b := b) (pvb (h1.1.a_ ha rfl rfl) (pvb rfl ((dg (h1.1.at_ .li trivial)).trans (by rw [hb])))) (fun _ => pv_ok (.loc 3) (.int v) _ rfl ?_) fun _ => pv_ok (.neg (.loc 3)) (.int (-v)) _ rfl ?_))
        · exact s_skip (hF H1 v _ h1 (by lia) (by lia) (.inr (hfree v (by lia))) (fun h => absurd h hd) fun _ => hfree v (by lia))
        · exact s_skip (hF H1 (-v) _ h1 (by lia) (by lia) (.inr (hfree (-v) (by lia))) (fun h => absurd h hd) fun _ => hfree (-v) (by lia))
  intro H1 l z3 h1 hl0 hlN hor hlt hge
  have G1 := G.dec hs
  have u1 := u_be h1.1 (s.be ++ [s.ro.length])
  refine s_seq (s_ex (bm_l (h1.1.a_ ha rfl rfl) (h1.1.at_ .be trivial) rfl (e_cons (pv_ok _ (.int s.ro.length) _ (len_pv (h1.1.a_ ha rfl rfl) (ln_zs (h1.1.at_ .ro trivial))) (e_nil (app_ok (h1.1.at_ .be trivial) (by rw [nz_len]; exact hbz) ?_))))))
  rw [show nz s.be ++ [V.int (s.ro.length : Nat)] = nz (s.be ++ [s.ro.length]) from (nz_app (r := [s.ro.length])).symm]
  generalize H1.set (lay .be) (.lst (nz (s.be ++ [s.ro.length]))) = H2 at u1
  have hret : ∀ {H' m} {P : List V → AH → Prop}, Q .none H' → (S.seq (.ret (.c .none)) .skip).wp (spN tab02 (n + 2)) m H' P Q := fun h => s_seq (s_ret (pv_ok (.c .none) .none _ rfl h))
  by_cases hin : l ∈ s.ro
  · have hsay : sayV (s.wBe (s.be ++ [s.ro.length])) l = .bool true := (C.td.say_t hl0).mpr hin
    refine s_seq (s_says (l := l) (b := false) u1.1 ha G1.c.td.knOK rfl rfl (by rw [hsay]; rfl) (fun h => by cases h) fun _ => s_skip (hret (q3 _ _ (h1.trans u1) (.true_ l ?_ hin) G1)))
    refine hlt ?_
    rcases Nat.lt_or_ge s.be.length asked.length with h | h
    · exact h
    · exact absurd rfl (hge h l hin)
  · have hfree := hor.resolve_left hin
    have hsay : sayV (s.wBe (s.be ++ [s.ro.length])) l = .none := (C.td.say_n hl0).mpr hfree
    refine s_seq (s_says (l := l) (b := true) u1.1 ha G1.c.td.knOK rfl rfl (by rw [hsay]; rfl) (fun _ => ?_) fun h => by cases h)
    refine s_seq (s_ex (cm_ok (xs := [.loc 2, .c .none]) (P := fun _ H => _) u1.1 ha rfl (e_cons (pv_ok (.loc 2) (.int l) _ rfl (e_cons (pv_ok (.c .none) .none _ rfl (e_nil (c_let u1.1 ha (G1.c.sz (Nat.lt_trans hN (by decide))) rfl fun H3 h3 => ?_))))))))
    have hbe : s.ro.length ∈ (s.wBe (s.be ++ [s.ro.length])).be := List.mem_append_right _ (List.mem_singleton.mpr rfl)
    refine s_skip (hret (q3 _ _ (h1.trans (u1.trans h3)) (.new l hfree hlt) ⟨G1.c.let_ hl0 hlN hfree (.inl ⟨rfl, .inr hbe⟩) fun hz => ?_, G1.cv.let_, ⟨G1.w.iff, G1.w.nd⟩, G1.p.let_ G1.c.sl⟩))
    have : (s.be ++ [s.ro.length]).length = 0 := hz
    rw [List.length_append, List.length_singleton] at this
    lia
end
end Mine
end
section
open PySem PySem.W
set_option tactic.hygienic false
namespace Mine
noncomputable def sc (d : Nat → Nat) : Nat → Nat
  | 0 => 0
  | n + 1 => 3 * sc d n + d n
theorem sc_bd {d : Nat → Nat} (h : ∀ i, d i ≤ 2) : ∀ n, sc d n + 1 ≤ 3 ^ n
  | 0 => Nat.le_refl _
  | n + 1 => by
    have := sc_bd h n
    have := h n
    rw [Nat.pow_succ]
    show 3 * sc d n + d n + 1 ≤ _
    lia
theorem sc_mono {d d' : Nat → Nat} : ∀ n, (∀ i < n, d i ≤ d' i) → sc d n ≤ sc d' n
  | 0, _ => Nat.le_refl _
  | n + 1, h => by
    have h1 := sc_mono n fun i hi => h i (Nat.lt_succ_of_lt hi)
    have h2 := h n (Nat.lt_succ_self n)
    show 3 * sc d n + d n ≤ 3 * sc d' n + d' n
    lia
theorem sc_lt {d d' : Nat → Nat} (h2 : ∀ i, d i ≤ 2) {p : Nat} (he : ∀ i < p, d i = d' i) (hp : d p < d' p) : ∀ n, p < n → sc d n < sc d' n
  | 0, h => absurd h (Nat.not_lt_zero _)
  | n + 1, h => by
    show 3 * sc d n + d n < 3 * sc d' n + d' n
    rcases Nat.lt_succ_iff_lt_or_eq.mp h with h | rfl
    · have h3 := sc_lt h2 he hp n h
      have h4 := h2 n
      lia
    · have h3 : sc d p ≤ sc d' p := sc_mono p fun i hi => Nat.le_of_eq (he i hi)
      lia
noncomputable def dig (s : St) (i : Nat) : Nat := if i < s.ro.length then (if i ∈ s.be then 1 else 2) else 0
noncomputable def score (N : Nat) (s : St) : Nat := sc (dig s) N
theorem dig_le {s : St} (i : Nat) : dig s i ≤ 2 := by
  unfold dig
  split
  · split <;> decide
  · decide
theorem score_bd {N : Nat} {s : St} (hN : N ≤ 5) : score N s ≤ 242 := by
  have h1 := sc_bd (dig_le (s := s)) N
  have h2 : 3 ^ N ≤ 3 ^ 5 := Nat.pow_le_pow_right (by decide) hN
  unfold score
  lia
section
variable {N : Nat} {M : (Nat → Bool) → Prop} {s s' : St} {asked : List Int}
theorem Kp.score (K : Kp s s') : score N s ≤ score N s' := sc_mono N fun i _ => by
  obtain ⟨t, ht⟩ := K.ro
  unfold dig
  rw [K.be]
  by_cases h : i < s.ro.length
  · rw [if_pos h, if_pos (show i < s'.ro.length by rw [ht, List.length_append]; lia)]
    exact Nat.le_refl _
  · rw [if_neg h]; exact Nat.zero_le _
theorem Lrn.score {h q : Nat} {l : Int} {lc : List Int} (L : Lrn s s' h q l lc) (C : Core N M s) (C' : Core N M s') : score N s < score N s' := by
  have hql := C.kb q (List.mem_of_getElem? L.hq)
  have hlen : s'.ro.length = q + 1 := by
    rw [L.ro, List.length_append, List.length_take, List.length_singleton]; lia
  refine sc_lt dig_le (p := q) (fun i hi => ?_) ?_ N (by have := C'.td.len; lia)
  · unfold dig
    rw [if_pos (show i < s.ro.length by lia), if_pos (show i < s'.ro.length by lia), L.be]
    have : i ∈ s.be ↔ i ∈ s.be.take h := by
      constructor
      · intro hm
        rw [← List.take_append_drop h s.be] at hm
        rcases List.mem_append.mp hm with hm | hm
        · exact hm
        · have := srt_drop C.srt L.hq i hm
          lia
      · exact fun hm => List.mem_of_mem_take hm
    by_cases hm : i ∈ s.be
    · rw [if_pos hm, if_pos (this.mp hm)]
    · rw [if_neg hm, if_neg fun h => hm (this.mpr h)]
  · have h1 : dig s' q = 2 := by
      unfold dig
      rw [if_pos (show q < s'.ro.length by lia), L.be, if_neg L.nq]
    have h2 : dig s q ≤ 1 := by
      unfold dig
      rw [if_pos (List.mem_of_getElem? L.hq)]
      split <;> decide
    lia
theorem Dcd.score (D : Dcd asked s s') (C : Core N M s) (C' : Core N M s') : (score N s ≤ score N s' ∧ s'.be.length = s.be.length + 1 ∧ s.be.length < asked.length) ∨ score N s < score N s' := by
  cases D with
  | true_ l hl hin =>
    refine .inl ⟨sc_mono N fun i _ => ?_, by show (s.be ++ [_]).length = _; rw [List.length_append]; rfl, (List.getElem?_eq_some_iff.mp hl).1⟩
    unfold dig
    show _ ≤ (if i < s.ro.length then (if i ∈ s.be ++ [s.ro.length] then 1 else 2) else 0)
    by_cases h : i < s.ro.length
    · rw [if_pos h, if_pos h]
      by_cases hm : i ∈ s.be
      · rw [if_pos hm, if_pos (List.mem_append_left _ hm)]; exact Nat.le_refl _
      · rw [if_neg hm, if_neg fun hh => by
          rcases List.mem_append.mp hh with hh | hh
          · exact hm hh
          · rw [List.mem_singleton.mp hh] at h; lia]
        exact Nat.le_refl _
    · rw [if_neg h]; exact Nat.zero_le _
  | new l hfree hl =>
    have hlen : (letS (s.wBe (s.be ++ [s.ro.length])) l .none).ro.length = s.ro.length + 1 := by
      show (s.ro ++ [l]).length = _
      rw [List.length_append]; rfl
    refine .inr (sc_lt dig_le (p := s.ro.length) (fun i hi => ?_) ?_ N (by have := C'.td.len; lia))
    · unfold dig
      rw [if_pos hi, if_pos (show i < (letS (s.wBe (s.be ++ [s.ro.length])) l .none).ro.length by lia)]
      show _ = if i ∈ s.be ++ [s.ro.length] then 1 else 2
      by_cases hm : i ∈ s.be
      · rw [if_pos hm, if_pos (List.mem_append_left _ hm)]
      · rw [if_neg hm, if_neg fun hh => by
          rcases List.mem_append.mp hh with hh | hh
          · exact hm hh
          · rw [List.mem_singleton.mp hh] at hi; lia]
    · have h1 : dig s s.ro.length = 0 := by unfold dig; rw [if_neg (Nat.lt_irrefl _)]
      have h2 : 0 < dig (letS (s.wBe (s.be ++ [s.ro.length])) l .none) s.ro.length := by
        unfold dig
        rw [if_pos (show s.ro.length < (letS (s.wBe (s.be ++ [s.ro.length])) l .none).ro.length by lia)]
        split <;> decide
      lia
structure AI (asked : List Int) (s : St) : Prop where
  as : ∀ i < s.be.length, ∀ a, asked[i]? = some a → ∃ j, s.ro[j]? = some a ∧ lvl s.be j ≤ i + 1
  ad : ∀ (i : Nat) (l : Int), s.ro[i]? = some l → i ∈ s.be → lvl s.be i ≤ asked.length → asked[lvl s.be i - 1]? = some l
theorem AI.nil (h : s.be = []) : AI asked s := ⟨fun i hi => (by rw [h] at hi; cases hi), fun i l _ hi => (by rw [h] at hi; cases hi)⟩
theorem AI.kp (A : AI asked s) (K : Kp s s') : AI asked s' := by
  obtain ⟨t, ht⟩ := K.ro
  have hat : ∀ {i : Nat} {l : Int}, i < s.ro.length → (s'.ro[i]? = some l ↔ s.ro[i]? = some l) := fun {i l} hi => by
    rw [ht, List.getElem?_append_left hi]
  refine ⟨fun i hi a ha => ?_, fun i l hl hi hlv => ?_⟩
  · rw [K.be] at hi ⊢
    obtain ⟨j, h1, h2⟩ := A.as i hi a ha
    exact ⟨j, (hat (List.getElem?_eq_some_iff.mp h1).1).mpr h1, h2⟩
  · rw [K.be] at hi hlv ⊢
    have := K.nb i hi (List.getElem?_eq_some_iff.mp hl).1
    exact A.ad i l ((hat this).mp hl) hi hlv
theorem AI.lrn (A : AI asked s) (C : Core N M s) {h q : Nat} {l : Int} {lc : List Int} (L : Lrn s s' h q l lc) : AI asked s' := by
  have hlt := (List.getElem?_eq_some_iff.mp L.hq).1
  have hql := C.kb q (List.mem_of_getElem? L.hq)
  have hqt : (s.ro.take q).length = q := by rw [List.length_take]; lia
  refine ⟨fun i hi a ha => ?_, fun i x hx hi hlv => ?_⟩
  · rw [L.be, List.length_take] at hi
    obtain ⟨j, h1, h2⟩ := A.as i (by lia) a ha
    have hj : j < q := (lvl_lt C.srt L.hq).mp (by lia)
    refine ⟨j, ?_, by rw [L.be, lvl_take C.srt L.hq hj]; exact h2⟩
    rw [L.ro, List.getElem?_append_left (by lia)]
    exact at_take h1 hj
  · rw [L.be] at hi hlv ⊢
    have hiq := srt_take C.srt L.hq i hi
    have hne : i ≠ q := fun e => L.nq (e ▸ hi)
    have hlq : i < q := by lia
    rw [L.ro, List.getElem?_append_left (by lia)] at hx
    obtain ⟨_, hx⟩ := take_at hx
    rw [lvl_take C.srt L.hq hlq] at hlv ⊢
    exact A.ad i x hx (List.mem_of_mem_take hi) hlv
theorem AI.dcd (A : AI asked s) (C : Core N M s) (D : Dcd asked s s') : AI asked s' := by
  have hlv : ∀ {i : Nat}, i < s.ro.length → lvl (s.be ++ [s.ro.length]) i = lvl s.be i := fun {i} hi => by
    rw [lvl_app, lvl_none (be := [s.ro.length]) fun b hb => by rw [List.mem_singleton.mp hb]; exact hi]; rfl
  have hlen : (s.be ++ [s.ro.length]).length = s.be.length + 1 := by rw [List.length_append]; rfl
  cases D with
  | true_ l hl hin =>
    refine ⟨fun i hi a ha => ?_, fun i x hx hi hv => ?_⟩
    · have hi : i < (s.be ++ [s.ro.length]).length := hi
      show ∃ j, s.ro[j]? = some a ∧ lvl (s.be ++ [s.ro.length]) j ≤ i + 1
      by_cases h : i < s.be.length
      · obtain ⟨j, h1, h2⟩ := A.as i h a ha
        exact ⟨j, h1, by rw [hlv (List.getElem?_eq_some_iff.mp h1).1]; exact h2⟩
      · obtain rfl : i = s.be.length := by lia
        rw [hl] at ha; cases ha
        obtain ⟨j, hj⟩ := List.mem_iff_getElem?.mp hin
        refine ⟨j, hj, ?_⟩
        rw [hlv (List.getElem?_eq_some_iff.mp hj).1]
        exact Nat.le_succ_of_le lvl_le
    · have hx : s.ro[i]? = some x := hx
      have hil := (List.getElem?_eq_some_iff.mp hx).1
      have hi : i ∈ s.be ++ [s.ro.length] := hi
      have hi : i ∈ s.be := by
        rcases List.mem_append.mp hi with hi | hi
        · exact hi
        · rw [List.mem_singleton.mp hi] at hil; lia
      have hv : lvl (s.be ++ [s.ro.length]) i ≤ asked.length := hv
      show asked[lvl (s.be ++ [s.ro.length]) i - 1]? = some x
      rw [hlv hil] at hv ⊢
      exact A.ad i x hx hi hv
  | new l hfree hl =>
    have hlast : lvl (s.be ++ [s.ro.length]) s.ro.length = s.be.length + 1 := by
      rw [lvl_all (be := s.be ++ [s.ro.length]) fun b hb => ?_, hlen]
      rcases List.mem_append.mp hb with hb | hb
      · exact C.kb b hb
      · rw [List.mem_singleton.mp hb]; exact Nat.le_refl _
    refine ⟨fun i hi a ha => ?_, fun i x hx hi hv => ?_⟩
    · have hi : i < (s.be ++ [s.ro.length]).length := hi
      show ∃ j, (s.ro ++ [l])[j]? = some a ∧ lvl (s.be ++ [s.ro.length]) j ≤ i + 1
      by_cases h : i < s.be.length
      · obtain ⟨j, h1, h2⟩ := A.as i h a ha
        exact ⟨j, app_at h1, by rw [hlv (List.getElem?_eq_some_iff.mp h1).1]; exact h2⟩
      · obtain rfl : i = s.be.length := by lia
        have := hl (List.getElem?_eq_some_iff.mp ha).1
        rw [this] at ha; cases ha
        exact ⟨s.ro.length, List.getElem?_concat_length, by rw [hlast]; exact Nat.le_refl _⟩
    · have hi : i ∈ s.be ++ [s.ro.length] := hi
      have hv : lvl (s.be ++ [s.ro.length]) i ≤ asked.length := hv
      show asked[lvl (s.be ++ [s.ro.length]) i - 1]? = some x
      rcases at_app hx with hx | ⟨rfl, rfl⟩
      · have hx : s.ro[i]? = some x := hx
        have hil := (List.getElem?_eq_some_iff.mp hx).1
        have hi : i ∈ s.be := by
          rcases List.mem_append.mp hi with hi | hi
          · exact hi
          · rw [List.mem_singleton.mp hi] at hil; lia
        rw [hlv hil] at hv ⊢
        exact A.ad i x hx hi hv
      · show asked[lvl (s.be ++ [s.ro.length]) s.ro.length - 1]? = _
        have hv : lvl (s.be ++ [s.ro.length]) s.ro.length ≤ asked.length := hv
        rw [hlast] at hv ⊢
        exact hl (by lia)
end
end Mine
end
section
open PySem PySem.W
set_option tactic.hygienic false
namespace Mine
section
variable {sp : Sp} {m : List V} {H : AH} {Q : V → AH → Prop}
theorem setd_ok {o : Addr} {es : List (Int × V)} {k : Int} {v d : V} (h : H o = some (.dct es)) (e : get es k = some v) (q : Q v H) : biW .setdef [.ref o, .int k, d] H Q := by
  show ifS (H o) _
  exact ifD_mk h (by rw [e]; exact q)
theorem pv_not {x : X} {b : Bool} (h : x.pv m H = some (.bool b)) : (X.not x).pv m H = some (.bool (!b)) := pvb h rfl
theorem e_cmp2f {o1 o2 : Cm} {x y z : X} {u v : V} (hx : x.pv m H = some u) (hy : y.pv m H = some v) (h : cmpV H o1 u v = some false) (q : Q (.bool false) H) : (X.cmp2 o1 o2 x y z).ev sp m H Q := by
  exact pv_ok x _ _ hx (pv_ok y _ _ hy (ifS_mk h q))
end
section
variable {n : Nat} {H : AH} {lay : Ro → Addr} {s : St} {a : Addr} {Q : V → AH → Prop} {N : Nat} {M : (Nat → Bool) → Prop}
structure Zer (M : (Nat → Bool) → Prop) (s s' : St) : Prop where
  be : s'.be = []
  ref : s'.ref = s.ref
  lg : s'.lg = s.lg
  cl : s'.cl = s.cl
  bl : s'.bl = s.bl
  rows : s'.rows = s.rows
  g : Cv M s ∧ WI s ∧ PR s s.seen → Cv M s' ∧ WI s' ∧ PR s' s'.seen
theorem c_zero (So : Sol H lay s) (ha : lay .ins = a) (C : Core N M s) (hN : N < 1000) (q : ∀ H' lay' s', SF H lay s H' lay' s' → Zer M s s' → Core N M s' → Q .none H') : spN tab02 (n + 1) 4 [.ref a, .int 0] H Q := by
  by_cases h : s.be = []
  · exact c_back0 (h := 0) So ha (by rw [h]; exact Nat.le_refl _) (q H lay s (.refl So) ⟨h, rfl, rfl, rfl, rfl, rfl, id⟩ C)
  · obtain ⟨p, hp⟩ : ∃ p, s.be[0]? = some p := ⟨_, List.getElem?_eq_getElem (List.length_pos_iff.mpr h)⟩
    have hpm := List.mem_of_getElem? hp
    exact c_back (h := 0) So ha C.td hN hp (C.kb p hpm) fun H' lay' kn li h T => q _ _ _ h ⟨rfl, rfl, rfl, rfl, rfl, rfl, fun g => ⟨g.1.back C hp, ⟨g.2.1.iff, g.2.1.nd⟩, g.2.2.back C hp (C.bs p hpm)⟩⟩ (C.back hp T)
structure Stb (N : Nat) (M : (Nat → Bool) → Prop) (s : St) : Prop where
  c : Core N M s
  g : s.ref = false → Cv M s ∧ WI s ∧ PR s s.seen
  r : s.ref = true → (∀ α, ¬ M α) ∧ s.lg.getLast? = some []
structure Fal (M : (Nat → Bool) → Prop) (asked : List Int) (s : St) : Prop where
  sub : ∀ x ∈ s.bl, x ∈ asked
  nd : s.bl.Nodup
  sem : ∀ α, M α → ¬ ∀ x ∈ s.bl, ltr α x
  lg : (∃ x ∈ s.bl, -x ∈ s.bl) ∨ ∃ c, s.lg.getLast? = some c ∧ Ord (s.bl.map fun x => -x) c
structure Win (N : Nat) (asked : List Int) (s : St) : Prop where
  ref : s.ref = false
  kn : ∀ k : Int, 1 ≤ k → k ≤ N → k ∈ ky s.kn
  all : ∀ l ∈ asked, l ∈ s.ro
  seen : s.seen = s.ro.length
structure Gr (M : (Nat → Bool) → Prop) (n : Nat) (s s' : St) : Prop where
  rows : s'.rows.length + n ≤ s.rows.length + 300000
  lg : ∃ t, An3 (s'.lg = s.lg ++ t) (t.length + n ≤ 300000) (∀ c ∈ t, ∀ α, M α → Sat α c)
noncomputable def mu (N : Nat) (asked : List Int) (s : St) (span : Nat) : Nat := (300 - span) * 1000 + (243 - score N s) * 4 + (asked.length - s.be.length)
theorem ord_nil : Ord [] [] := ⟨List.nodup_nil, fun _ => Iff.rfl, List.Pairwise.nil⟩
theorem Stb.of (G : Good4 N M s) (h : s.ref = false) : Stb N M s := ⟨G.c, fun _ => ⟨G.cv, G.w, G.p⟩, fun h' => by rw [h] at h'; cases h'⟩
theorem blame_fal {s' : St} {asked : List Int} {l : Int} {ds : List Int} (G : Good4 N M s) (hr : s.ref = false) (A : AI asked s) (hl : asked[s.be.length]? = some l) (hin : -l ∈ s.ro) (hB : Blm N M s l ds) (hor : (s' = s.wBl (l :: ds) ∧ (∃ x ∈ l :: ds, -x ∈ l :: ds)) ∨ (∃ c, s' = (s.wBl (l :: ds)).addLog c ∧ Ord ((l :: ds).map fun x => -x) c)) : Stb N M s' ∧ Fal M asked s' := by
  have hlt := (List.getElem?_eq_some_iff.mp hl).1
  have hsub : ∀ x ∈ l :: ds, x ∈ asked := fun x hx => by
    rcases List.mem_cons.mp hx with rfl | hx
    · exact List.mem_of_getElem? hl
    · obtain ⟨i, h1, h2, h3⟩ := hB.d1 x hx
      exact List.mem_of_getElem? (A.ad i x h1 h3 (Nat.le_trans lvl_le (Nat.le_of_lt hlt)))
  have hnd : (l :: ds).Nodup := by
    refine List.nodup_cons.mpr ⟨fun hm => ?_, List.Pairwise.imp (fun h e => h (congrArg Int.natAbs e)) (List.pairwise_map.mp hB.d2)⟩
    obtain ⟨i, h1, _⟩ := hB.d1 l hm
    exact G.c.td.no2 (List.mem_of_getElem? h1) hin
  rcases hor with ⟨rfl, hx⟩ | ⟨c, rfl, hO⟩
  · exact ⟨⟨G.c.bl_, fun _ => ⟨G.cv, ⟨G.w.iff, G.w.nd⟩, G.p⟩, fun h' => by rw [show s.ref = true from h'] at hr; cases hr⟩, hsub, hnd, hB.sem, .inl hx⟩
  · refine ⟨⟨G.c.bl_.lg_, fun _ => ⟨G.cv, ⟨G.w.iff, G.w.nd⟩, G.p⟩, fun h' => by rw [show s.ref = true from h'] at hr; cases hr⟩, hsub, hnd, hB.sem, .inr ⟨c, ?_, hO⟩⟩
    show (s.lg ++ [c]).getLast? = _
    exact List.getLast?_concat
theorem mu_lt {A a b c d k : Nat} (h : A + (243 - a) * 4 + c ≤ k) (ha : a ≤ 242) (hb : b ≤ 242) (hab : a < b) (hd : d ≤ 3) : A + (243 - b) * 4 + d ≤ k - 1 := by
  obtain ⟨x, hx⟩ := Nat.exists_eq_add_of_le (Nat.le_succ_of_le ha)
  obtain ⟨y, hy⟩ := Nat.exists_eq_add_of_le (Nat.le_succ_of_le hb)
  rw [show 243 = _ from hx, Nat.add_sub_cancel_left] at h
  rw [show 243 = _ from hy, Nat.add_sub_cancel_left]
  lia
theorem mu_eq {A a b c d k : Nat} (h : A + (243 - a) * 4 + c ≤ k) (hab : a ≤ b) (hd : d < c) : A + (243 - b) * 4 + d ≤ k - 1 := by
  have : 243 - b ≤ 243 - a := Nat.sub_le_sub_left hab _
  generalize 243 - b = y at this ⊢
  generalize 243 - a = x at this h
  lia
theorem mu_aux {span A B C D k : Nat} (h1 : 16 ≤ span) (h2 : span ≤ 242) (h : (300 - span) * 1000 + A * 4 + B ≤ k) (hC : C ≤ 243) (hD : D ≤ 3) : (300 - (span + span / 2)) * 1000 + C * 4 + D ≤ k - 1 := by
  have h4 : 300 - (span + span / 2) + 1 ≤ 300 - span := by lia
  have h5 : (300 - (span + span / 2)) * 1000 + 1 * 1000 ≤ (300 - span) * 1000 := by
    rw [← Nat.add_mul]; exact Nat.mul_le_mul_right _ h4
  have h6 : C * 4 + D + 1 ≤ 1 * 1000 := by lia
  have h7 : (300 - (span + span / 2)) * 1000 + (C * 4 + D + 1) ≤ k := Nat.le_trans (Nat.add_le_add_left h6 _) (Nat.le_trans h5 (Nat.le_trans (Nat.le_trans (Nat.le_add_right _ _) (Nat.le_add_right _ _)) h))
  have h8 : (300 - (span + span / 2)) * 1000 + C * 4 + D + 1 ≤ k := by
    rw [Nat.add_assoc, Nat.add_assoc, ← Nat.add_assoc (C * 4)]; exact h7
  exact Nat.le_sub_one_of_lt h8
noncomputable def SolI (N : Nat) (M : (Nat → Bool) → Prop) (asked : List Int) (n : Nat) (s : St) (rested span : Nat) (met : V) : Prop :=
  (met = .none ∧ s.ref = false ∧ Good4 N M s ∧ AI asked s ∧ s.bl = [] ∧ 16 ≤ span ∧ s.cl ≤ rested + score N s ∧ rested ≤ s.cl ∧ mu N asked s span ≤ n ∧ s.be.length + n ≤ 300000)
  ∨ (met = .none ∧ s.ref = true ∧ Stb N M s ∧ Fal M asked s)
  ∨ (met = .bool true ∧ Stb N M s ∧ Win N asked s)
  ∨ (met = .bool false ∧ Stb N M s ∧ Fal M asked s)
set_option maxHeartbeats 2000000 in
theorem c_solve (So : Sol H lay s) (ha : lay .ins = a) (Sb : Stb N M s) (hN : N ≤ 5) {ask : Addr} {asked : List Int} (hask : H ask = some (.lst (zs asked))) (nask : ¬ fp lay s ask) (hal : asked.length ≤ 3) (hnz : ∀ l ∈ asked, l ≠ 0 ∧ l.natAbs ≤ N) (hrz : s.rows.length + 400000 < sz) (hlz : s.lg.length + 400000 < sz)
    (q1 : ∀ H' lay' s', SF H lay s H' lay' s' → Stb N M s' → Win N asked s' → Gr M 0 s s' → Q (.bool true) H')
    (q2 : ∀ H' lay' s', SF H lay s H' lay' s' → Stb N M s' → Fal M asked s' → Gr M 0 s s' → Q (.bool false) H') : spN tab02 (n + 4) 18 [.ref a, .ref ask] H Q := by
  have hN60 : N < 60 := by lia
  have hN1000 : N < 1000 := by lia
  refine sp_go rfl rfl (s_seq (s_ex (cm_ok (xs := [.c (.int 0)]) (P := fun _ H => _) So ha rfl (e_cons (pv_ok (.c (.int 0)) (.int 0) _ rfl (e_nil (c_zero So ha Sb.c hN1000 fun H1 lay1 s1 h1 Z C1 => ?_)))))))
  have ha1 := h1.ins ha
  have hask1 := So.out h1.2 hask nask
  refine s_seq (s_setE (e_tup (e_nil fun x hx => attS_ok (h1.1.junk (o := .tup []) hx) ha1 ?_)))
  have h2 : SF H1 lay1 s1 ((H1.set x (.tup [])).set (lay1 .att) (.att (put (attL lay1 s1) 13 (.ref x)))) (up lay1 .bl x) (s1.wBl []) := n_bl h1.1 x hx []
  have hask2 := h1.1.out h2.2 hask1.1 hask1.2
  have h02 := h1.trans h2
  have ha2 := h02.ins ha
  generalize ((H1.set x (.tup [])).set (lay1 .att) (.att (put (attL lay1 s1) 13 (.ref x)))) = H2 at h2 hask2 h02
  generalize up lay1 .bl x = lay2 at h2 hask2 h02 ha2
  refine s_seq (s_for (pv_ok (.loc 1) (.ref ask) _ rfl (it_l hask2.1 ?_)))
  refine floop_ind (fun j m H' => H' = H2 ∧ ∃ z, m = [.ref a, .ref ask, z, .un, .un, .un, .un, .un]) _ (fun j v m H' K hv hI hK => ?_) (fun m H' hI => ?_) ⟨rfl, .un, rfl⟩
  · obtain ⟨rfl, z, rfl⟩ := hI
    obtain ⟨l, hl, rfl⟩ := zs_at hv
    have hl0 := hnz l (List.mem_of_getElem? hl)
    obtain ⟨i, hi⟩ := C1.ht.get (v := l.natAbs) (by lia) (by lia)
    refine ⟨see_lst hask2.1, s_seq (s_ex (bm_d (h2.1.a_ ha2 rfl rfl) (h2.1.at_ .ht trivial) rfl (e_cons (pv_ok _ (.int l.natAbs) _ (abs_pv rfl) (e_cons (pv_ok (.c (.int 0)) (.int 0) _ rfl (e_nil (setd_ok (h2.1.at_ .ht trivial) hi (s_skip (hK _ _ ⟨rfl, _, rfl⟩))))))))))⟩
  obtain ⟨rfl, z, rfl⟩ := hI
  refine ⟨see_lst hask2.1, ?_⟩
  refine s_seq (s_asgN (e_cons (pv_ok _ (.int s1.cl) _ (h2.1.a_ ha2 rfl rfl) (e_cons (pv_ok _ (.int s1.cl) _ (h2.1.a_ ha2 rfl rfl) (e_cons (pv_ok (.c (.int 16)) (.int 16) _ rfl (e_cons (pv_ok (.c .none) .none _ rfl (e_nil ⟨rfl, ?_⟩))))))))))
  have hal3 : ∀ k, asked.length - k ≤ 3 := fun k => by lia
  have hstart : SolI N M asked 300000 (s1.wBl []) s1.cl 16 .none := by
    cases hr : s.ref with
    | false =>
      obtain ⟨g1, g2, g3⟩ := Z.g (Sb.g hr)
      refine .inl ⟨rfl, Z.ref.trans hr, ⟨C1.bl_, g1, ⟨g2.iff, g2.nd⟩, g3⟩, .nil Z.be, rfl, Nat.le_refl _, Nat.le_add_right _ _, Nat.le_refl _, ?_, ?_⟩
      · have := hal3 (s1.wBl []).be.length
        unfold mu; lia
      · show s1.be.length + 300000 ≤ _
        rw [Z.be]; exact Nat.le_refl _
    | true =>
      obtain ⟨r1, r2⟩ := Sb.r hr
      refine .inr (.inl ⟨rfl, Z.ref.trans hr, ⟨C1.bl_, fun h => ?_, fun _ => ⟨r1, by show s1.lg.getLast? = _; rw [Z.lg]; exact r2⟩⟩, fun x hx => (by cases hx), List.nodup_nil, fun α hα => absurd hα (r1 α), .inr ⟨[], by show s1.lg.getLast? = _; rw [Z.lg]; exact r2, ord_nil⟩⟩)
      rw [show (s1.wBl []).ref = true from Z.ref.trans hr] at h; cases h
  have hgr : Gr M 300000 s (s1.wBl []) := ⟨by show s1.rows.length + _ ≤ _; rw [Z.rows]; exact Nat.le_refl _, [], by show s1.lg = _; rw [Z.lg, List.append_nil], Nat.le_refl _, fun c hc => by cases hc⟩
  refine s_seq (s_whK (fun n m H' => Ex6 fun lay' s' rested span met z7 => An4 (m = [.ref a, .ref ask, z, .int s1.cl, .int (rested : Nat), .int (span : Nat), met, z7]) (SF H lay s H' lay' s') (Gr M n s s') (SolI N M asked n s' rested span met)) 300000 ⟨lay2, _, s1.cl, 16, .none, .un, rfl, h02, hgr, hstart⟩ fun k m H3 KW hI hKW => ?_)
  clear hstart hgr hask2 h2 h02 ha2 hask1 ha1 h1
  obtain ⟨lay3, s3, rested, span, met, z7, rfl, h3, g3, hI⟩ := hI
  have ha3 := h3.ins ha
  have hask3 := So.out h3.2 hask nask
  have hGr0 : Gr M 0 s s3 := ⟨by have := g3.rows; lia, by
    refine nn fun hC => ?_
    obtain ⟨t, h1, h2, h4⟩ := g3.lg
    refine hC ?_
    exact ⟨t, h1, by lia, h4⟩⟩
  have hcond : ∀ {b : Bool}, isV met .none = some b → (X.and (.cmp .is (.loc 6) (.c .none)) (.and (.not (.attr (.loc 0) 12)) (.c (.bool true)))).pv [.ref a, .ref ask, z, .int s1.cl, .int (rested : Nat), .int (span : Nat), met, z7] H3 = some (.bool (b && (!s3.ref && true))) := fun {b} h => by
    refine pv_and (pvb (x := met) ?_ (pvb rfl (pcm h))) fun _ => pv_and (pv_not (h3.1.a_ ha3 rfl rfl)) fun _ => rfl
    cases met <;> first | rfl | cases h
  rcases hI with ⟨rfl, hr, G, A, hbl, hsp, hc1, hc2, hmu, hbn⟩ | ⟨rfl, hr, S3, F⟩ | ⟨rfl, S3, W⟩ | ⟨rfl, S3, F⟩
  rotate_left
  · exact ⟨false, by rw [hcond rfl, hr]; rfl, (fun h => by cases h), fun _ => s_seq (s_ret (pv_ok _ (.bool false) _ (pvb rfl (pvb rfl (pcm rfl))) (q2 _ _ _ h3 S3 F hGr0)))⟩
  · exact ⟨false, hcond rfl, (fun h => by cases h), fun _ => s_seq (s_ret (pv_ok _ (.bool true) _ (pvb rfl (pvb rfl (pcm rfl))) (q1 _ _ _ h3 S3 W hGr0)))⟩
  · exact ⟨false, hcond rfl, (fun h => by cases h), fun _ => s_seq (s_ret (pv_ok _ (.bool false) _ (pvb rfl (pvb rfl (pcm rfl))) (q2 _ _ _ h3 S3 F hGr0)))⟩
  refine ⟨true, by rw [hcond rfl, hr]; rfl, fun _ => ?_, fun h => by cases h⟩
  have hsc := score_bd (s := s3) hN
  have hb3 := hal3 s3.be.length
  have hr3 : s3.rows.length + 100000 < sz := by have := g3.rows; lia
  have hl3 : s3.lg.length + 100000 < sz := by
    refine nn fun hC => ?_
    obtain ⟨t, h1, h2, _⟩ := g3.lg
    refine hC ?_
    rw [h1, List.length_append]; lia
  have hk4 : 4 ≤ k := by unfold mu at hmu; lia
  have hb3z : s3.be.length + 100000 < sz := by
    have : (600000 : Nat) < sz := by decide
    lia
  refine s_seq (s_asg (cm_ok (xs := []) (P := fun v H => _) h3.1 ha3 rfl (e_nil (c_spread h3.1 ha3 G.c hN1000 G.cv G.w G.p (by lia) (fun H4 lay4 s4 h4 K4 C4 cv4 W4 P4 hs4 => ?_) fun H4 lay4 s4 kk p c h4 K4 C4 cv4 W4 P4 hp hkk hall hx4 => ?_))))
  · -- no clash
    have h04 := h3.trans h4
    have ha4 := h04.ins ha
    have hask4 := So.out h04.2 hask nask
    have A4 := A.kp K4
    have hs34 := K4.score (N := N)
    have hsc4 := score_bd (s := s4) hN
    have hr4 := K4.ref.trans hr
    have hG4 : Good4 N M s4 := ⟨C4, cv4, W4, P4⟩
    have g4 : Gr M k s s4 := ⟨by rw [K4.rl]; exact g3.rows, by rw [K4.lg]; exact g3.lg⟩
    have hmu4 : mu N asked s4 span ≤ k := by unfold mu at hmu ⊢; rw [K4.be]; lia
    have hlim := C4.lim
    refine s_seq (s_ite (b := false) (pvb rfl (pvb rfl (pcm rfl))) (fun h => by cases h) fun _ => ?_)
    refine s_seq (s_iteE (e_cmp2f (u := .int 0) (v := .int s4.lim) rfl (h04.1.a_ ha4 rfl rfl) (by rw [hlim]; rfl) ?_))
    refine (?_ : (S.seq (.ite (.cmp .ge (.bin .sub (.attr (.loc 0) 14) (.loc 4)) (.loc 5)) (.seq (.asgN [4, 5] [(.attr (.loc 0) 14), (.bin .add (.loc 5) (.bin .fdiv (.loc 5) (.c (.int 2))))]) (.seq (.ex (.callM 4 (.loc 0) [(.c (.int 0))])) .skip)) (.seq (.asg 6 (.callM 17 (.loc 0) [(.loc 1)])) .skip)) .skip).wp (spN tab02 (n + 3)) [.ref a, .ref ask, z, .int s1.cl, .int (rested : Nat), .int (span : Nat), .none, .int (-1)] H4 _ Q)
    refine s_seq (s_ite (b := !decide (((s4.cl : Int) - (rested : Int)) < (span : Int))) (pvb (pvb (h04.1.a_ ha4 rfl rfl) (pvb rfl rfl)) (pvb rfl (pcm rfl))) (fun hd => ?_) fun hd => ?_)
    · -- begun anew
      have hd : ¬ ((s4.cl : Int) - (rested : Int)) < (span : Int) := of_decide_eq_false (by rwa [Bool.not_eq_true'] at hd)
      refine s_seq (s_asgN (e_cons (pv_ok _ (.int s4.cl) _ (h04.1.a_ ha4 rfl rfl) (e_cons (pv_ok _ (.int (span + span / 2 : Nat)) _ (pvb rfl (pvb (pvb rfl (pvb rfl rfl)) rfl)) (e_nil ⟨rfl, ?_⟩))))))
      refine s_seq (s_ex (cm_ok (xs := [.c (.int 0)]) (P := fun _ H => _) h04.1 ha4 rfl (e_cons (pv_ok (.c (.int 0)) (.int 0) _ rfl (e_nil (c_zero h04.1 ha4 C4 hN1000 fun H5 lay5 s5 h5 Z5 C5 => ?_))))))
      obtain ⟨g5a, g5b, g5c⟩ := Z5.g ⟨cv4, W4, P4⟩
      have hsc5 := score_bd (s := s5) hN
      have hcl : s4.cl = s3.cl := K4.cl
      have hspan : span ≤ 242 := by lia
      have hb5 := hal3 s5.be.length
      have hk1 : (k - 1) + 1 = k := by lia
      refine s_skip (s_skip (s_skip (s_skip (hKW (k - 1) _ _ (by lia) ⟨lay5, s5, s4.cl, span + span / 2, .none, _, rfl, h04.trans h5, ⟨by rw [Z5.rows]; have := g4.rows; lia, by
        refine nn fun hC => ?_
        obtain ⟨t, h1, h2, h6⟩ := g4.lg
        refine hC ?_
        exact ⟨t, by rw [Z5.lg]; exact h1, by lia, h6⟩⟩, .inl ⟨rfl, Z5.ref.trans hr4, ⟨C5, g5a, g5b, g5c⟩, .nil Z5.be, Z5.bl.trans (K4.bl.trans hbl), by lia, by rw [Z5.cl]; exact Nat.le_add_right _ _, by rw [Z5.cl]; exact Nat.le_refl _, ?_, by rw [Z5.be]; show 0 + _ ≤ _; lia⟩⟩))))
      exact mu_aux hsp hspan hmu4 (Nat.sub_le ..) hb5
    · -- on
      refine s_seq (s_asg (cm_ok (xs := [.loc 1]) (P := fun v H => _) h04.1 ha4 rfl (e_cons (pv_ok (.loc 1) (.ref ask) _ rfl (e_nil (c_decide h04.1 ha4 hG4 hN60 hs4 hask4.1 hask4.2 hnz (by rw [K4.lg]; lia) (by rw [K4.be]; lia) (fun H5 lay5 s5 ds l hl hin h5 hB hor => ?_) (fun H5 h5 hge hkn => ?_) fun H5 s5 h5 D G5 => ?_))))))
      · obtain ⟨S5, F5⟩ := blame_fal hG4 hr4 A4 hl hin hB hor
        have hg5 : Gr M 0 s s5 := by
          obtain ⟨t, h1, h2, h6⟩ := g4.lg
          rcases hor with ⟨rfl, _⟩ | ⟨c, rfl, hO⟩
          · exact ⟨by have := g4.rows; show s4.rows.length + 0 ≤ _; lia, t, h1, by lia, h6⟩
          · refine ⟨by have := g4.rows; show s4.rows.length + 0 ≤ _; lia, t ++ [c], by show s4.lg ++ [c] = _; rw [h1, List.append_assoc], by rw [List.length_append, List.length_singleton]; lia, fun d hd α hα => ?_⟩
            rcases List.mem_append.mp hd with hd | hd
            · exact h6 d hd α hα
            · rw [List.mem_singleton.mp hd]
              apply Classical.byContradiction
              intro hns
              refine hB.sem α hα fun x hx => Classical.byContradiction fun hx2 => hns ⟨-x, (hO.mem _).mpr (List.mem_map_of_mem hx), (ltr_neg ?_).mpr hx2⟩
              rcases List.mem_cons.mp hx with rfl | hx
              · exact (hnz _ (List.mem_of_getElem? hl)).1
              · obtain ⟨i, h7, _⟩ := hB.d1 x hx
                exact (C4.td.nz _ (List.mem_of_getElem? h7)).1
        exact s_skip (s_skip (s_skip (s_skip (hKW 0 _ _ (by lia) ⟨lay5, s5, rested, span, .bool false, _, rfl, h04.trans h5, hg5, .inr (.inr (.inr ⟨rfl, S5, F5⟩))⟩))))
      · have hW : Win N asked s4 := ⟨hr4, hkn, fun l hl => ?_, hs4⟩
        · exact s_skip (s_skip (s_skip (s_skip (hKW 0 _ _ (by lia) ⟨lay4, s4, rested, span, .bool true, _, rfl, h04.trans h5, ⟨by have := g4.rows; lia, by
            refine nn fun hC => ?_
            obtain ⟨t, h1, h2, h6⟩ := g4.lg
            refine hC ?_
            exact ⟨t, h1, by lia, h6⟩⟩, .inr (.inr (.inl ⟨rfl, Stb.of hG4 hr4, hW⟩))⟩))))
        · obtain ⟨i, hi⟩ := List.mem_iff_getElem?.mp hl
          have := (List.getElem?_eq_some_iff.mp hi).1
          obtain ⟨j, hj, _⟩ := A4.as i (by lia) l hi
          exact List.mem_of_getElem? hj
      · have hds := D.score C4 G5.c
        have hsc5 := score_bd (s := s5) hN
        have hb5 := hal3 s5.be.length
        have e5 : s5.ref = s4.ref ∧ s5.bl = s4.bl ∧ s5.cl = s4.cl ∧ s5.rows = s4.rows ∧ s5.lg = s4.lg ∧ s5.be.length = s4.be.length + 1 := by
          cases D
          · exact ⟨rfl, rfl, rfl, rfl, rfl, by show (s4.be ++ [_]).length = _; rw [List.length_append]; rfl⟩
          · exact ⟨rfl, rfl, rfl, rfl, rfl, by show (s4.be ++ [_]).length = _; rw [List.length_append]; rfl⟩
        refine nn fun hC => ?_
        obtain ⟨e1, e2, e3, e4, e6, e7⟩ := e5
        refine hC ?_
        have hcl : s4.cl = s3.cl := K4.cl
        have hbe : s4.be = s3.be := K4.be
        refine s_skip (s_skip (s_skip (s_skip (hKW (k - 1) _ _ (by lia) ⟨lay4, s5, rested, span, .none, _, rfl, h04.trans h5, ⟨by rw [e4]; have := g4.rows; lia, by
          obtain ⟨t, h1, h2, h6⟩ := g4.lg
          exact ⟨t, by rw [e6]; exact h1, by lia, h6⟩⟩, .inl ⟨rfl, e1.trans hr4, G5, A4.dcd C4 D, e2.trans (K4.bl.trans hbl), hsp, ?_, by rw [e3]; lia, ?_, by rw [e7, hbe]; lia⟩⟩))))
        · rw [e3, hcl]
          rcases hds with ⟨h6, _⟩ | h6 <;> lia
        · unfold mu at hmu4 ⊢
          rw [e7]
          rcases hds with ⟨h6, h7, h8⟩ | h6
          · exact mu_eq hmu4 h6 (by lia)
          · exact mu_lt hmu4 hsc4 hsc5 h6 (by lia)
  · -- a clash
    have h04 := h3.trans h4
    have ha4 := h04.ins ha
    have A4 := A.kp K4
    have hs34 := K4.score (N := N)
    have hsc4 := score_bd (s := s4) hN
    have hr4 := K4.ref.trans hr
    have g4 : Gr M k s s4 := ⟨by rw [K4.rl]; exact g3.rows, by rw [K4.lg]; exact g3.lg⟩
    have hmu4 : mu N asked s4 span ≤ k := by unfold mu at hmu ⊢; rw [K4.be]; lia
    have hcl : s4.cl = s3.cl := K4.cl
    have hbe : s4.be = s3.be := K4.be
    have hge : (X.cmp .ge (.loc 7) (.c (.int 0))).pv [.ref a, .ref ask, z, .int s1.cl, .int (rested : Nat), .int (span : Nat), .none, .int kk] H4 = some (.bool true) := by
      refine pvb rfl (pvb rfl (pcm ?_))
      show some (!decide ((kk : Int) < 0)) = _
      rw [decide_eq_false (by lia)]; rfl
    refine s_seq (s_ite hge (fun _ => ?_) fun h => by cases h)
    refine s_seq (s_ex (cm_ok (xs := [.loc 7]) (P := fun _ H => _) h04.1 ha4 rfl (e_cons (pv_ok (.loc 7) (.int kk) _ rfl (e_nil (c_learn h04.1 ha4 C4 hN60 cv4 W4 P4 hp hkk hall hx4 (by rw [K4.rl]; lia) (by rw [K4.lg]; lia) (fun H5 lay5 h5 hb0 hno => ?_) fun H5 lay5 s5 h q u lc h5 L G5 hlc => ?_))))))
    · have hlast : (((s4.wCl (s4.cl + 1)).wRef true).addLog []).lg.getLast? = some [] := by
        show (s4.lg ++ [[]]).getLast? = _
        exact List.getLast?_concat
      have hbl4 : (((s4.wCl (s4.cl + 1)).wRef true).addLog []).bl = [] := K4.bl.trans hbl
      refine s_skip (s_skip (hKW 0 _ _ (by lia) ⟨lay5, _, rested, span, .none, _, rfl, h04.trans h5, ⟨by have := g4.rows; show s4.rows.length + 0 ≤ _; lia, by
        obtain ⟨t, h1, h2, h6⟩ := g4.lg
        refine ⟨t ++ [[]], by show s4.lg ++ [[]] = _; rw [h1, List.append_assoc], by rw [List.length_append, List.length_singleton]; lia, fun d hd α hα => absurd hα (hno α)⟩⟩, .inr (.inl ⟨rfl, rfl, ⟨C4.cl_.ref_.lg_, fun h => (by cases h), fun _ => ⟨hno, hlast⟩⟩, ?_, ?_, fun α hα => absurd hα (hno α), .inr ⟨[], hlast, ?_⟩⟩)⟩))
      · intro x hx; rw [hbl4] at hx; cases hx
      · rw [hbl4]; exact List.nodup_nil
      · rw [hbl4]; exact ord_nil
    · have hsl := L.score C4 G5.c
      have hsc5 := score_bd (s := s5) hN
      have hb5 := hal3 s5.be.length
      have hbl5 : s5.be.length ≤ s4.be.length := by rw [L.be, List.length_take]; exact Nat.min_le_right ..
      refine s_skip (s_skip (hKW (k - 1) _ _ (by lia) ⟨lay5, s5, rested, span, .none, _, rfl, h04.trans h5, ⟨by have := g4.rows; have := L.rl; lia, by
        refine nn fun hC => ?_
        obtain ⟨t, h1, h2, h6⟩ := g4.lg
        refine hC ?_
        refine ⟨t ++ [lc], by rw [L.lg, h1, List.append_assoc], by rw [List.length_append, List.length_singleton]; lia, fun d hd => ?_⟩
        rcases List.mem_append.mp hd with hd | hd
        · exact h6 d hd
        · rw [List.mem_singleton.mp hd]; exact hlc⟩, .inl ⟨rfl, L.ref.trans hr4, G5, A4.lrn C4 L, L.bl.trans (K4.bl.trans hbl), hsp, by rw [L.cl, hcl]; lia, by rw [L.cl, hcl]; lia, ?_, by rw [hbe] at hbl5; lia⟩⟩))
      unfold mu at hmu4 ⊢
      exact mu_lt hmu4 hsc4 hsc5 hsl (by lia)
end
end Mine
end
section
open PySem PySem.W
set_option tactic.hygienic false
namespace Mine
section
variable {N : Nat} {M M' : (Nat → Bool) → Prop} {s : St}
theorem Core.mono (C : Core N M s) (h : ∀ α, M' α → M α) : Core N M' s := ⟨C.td, C.he, C.ca, C.srt, C.bs, C.sl, C.rk, fun c hc α hα => C.rM c hc α (h α hα), fun i l hl h0 α hα => C.zM i l hl h0 α (h α hα), C.ht, C.wn, C.wr, C.lim⟩
theorem mem_says {H : AH} {c : List Int} : memL H (c.map (sayV s)) (.bool true) = some (decide (∃ x ∈ c, sayV s x = .bool true)) := by
  have hrd : ∀ x, ∃ d, rd H 2 (sayV s x) = some d ∧ (PyData.eqv d (.bool true) = decide (sayV s x = .bool true)) := fun x => by
    rcases say_kinds s x with e | e | e <;> rw [e]
    · exact ⟨.bool true, rfl, rfl⟩
    · exact ⟨.bool false, rfl, rfl⟩
    · exact ⟨.none, rfl, rfl⟩
  have h1 : ∃ ds, allSome ((c.map (sayV s)).map (rd H 2)) = some ds ∧ (ds.any fun y => PyData.eqv y (.bool true)) = decide (∃ x ∈ c, sayV s x = .bool true) := by
    induction c with
    | nil => exact ⟨[], rfl, by simp⟩
    | cons x c ih =>
      refine nn fun hC => ?_
      obtain ⟨ds, h2, h3⟩ := ih
      obtain ⟨d, h4, h5⟩ := hrd x
      refine hC ?_
      refine ⟨d :: ds, ?_, ?_⟩
      · rw [List.map_cons, List.map_cons, h4]
        show (allSome ((c.map (sayV s)).map (rd H 2))).map (d :: ·) = _
        rw [h2]; rfl
      · rw [List.any_cons, h3, h5, ← Bool.decide_or]
        apply decide_eq_decide.mpr
        simp
  obtain ⟨ds, h2, h3⟩ := h1
  unfold memL
  rw [h2]
  show some (ds.any fun y => PyData.eqv y (.bool true)) = _
  rw [h3]
end
section
variable {n : Nat} {H : AH} {lay : Ro → Addr} {s : St} {a : Addr} {Q : V → AH → Prop} {N : Nat} {M : (Nat → Bool) → Prop}
structure Gr1 (M : (Nat → Bool) → Prop) (s s' : St) : Prop where
  rows : s'.rows.length ≤ s.rows.length + 1
  lg : ∃ t, An3 (s'.lg = s.lg ++ t) (t.length ≤ 1) (∀ c ∈ t, ∀ α, M α → Sat α c)
set_option maxHeartbeats 2000000 in
theorem c_addc (So : Sol H lay s) (ha : lay .ins = a) (Sb : Stb N M s) (hN : N ≤ 5) {b : Addr} {o : O} {l : List Int} (hb : H b = some o) (ho : o = .lst (zs l) ∨ o = .tup (zs l)) (nb : ¬ fp lay s b) (hnz : ∀ x ∈ l, x ≠ 0 ∧ x.natAbs ≤ N) (hlen : l.length < 64) (hrz : s.rows.length + 2 < sz) (hlz : s.lg.length + 2 < sz)
    (q : ∀ H' lay' s', SF H lay s H' lay' s' → Stb N (fun α => M α ∧ Sat α l) s' → Gr1 (fun α => M α ∧ Sat α l) s s' → Q (.bool (!s'.ref)) H') : spN tab02 (n + 2) 6 [.ref a, .ref b] H Q := by
  have hN1000 : N < 1000 := by lia
  refine sp_go rfl rfl (s_seq (s_ex (cm_ok (xs := [.c (.int 0)]) (P := fun _ H => _) So ha rfl (e_cons (pv_ok (.c (.int 0)) (.int 0) _ rfl (e_nil (c_zero So ha Sb.c hN1000 fun H1 lay1 s1 h1 Z C1 => ?_)))))))
  have ha1 := h1.ins ha
  have hb1 := So.out h1.2 hb nb
  have hz0 : ∀ {i : Nat}, lvl s1.be i = 0 := fun {i} => by rw [Z.be]; rfl
  have hmem : ∀ {x : Int}, x ∈ s1.ro → ∀ α, M α → ltr α x := fun {x} hx α hα => by
    obtain ⟨i, hi⟩ := List.mem_iff_getElem?.mp hx
    exact C1.zM i x hi hz0 α hα
  have C1' : Core N (fun α => M α ∧ Sat α l) s1 := C1.mono fun α h => h.1
  have hnone : ∀ H2 r, Ext H1 H2 → (s.ref = true ∨ (∀ α, (∀ x ∈ s1.ro, ltr α x) → Sat α l)) → r = !s1.ref → Q (.bool r) H2 := fun H2 r E hor hr => by
    subst hr
    refine q _ _ _ (h1.trans (E.sf h1.1)) ⟨C1', fun h => ?_, fun h => ?_⟩ ⟨by rw [Z.rows]; exact Nat.le_succ _, [], by rw [Z.lg, List.append_nil], Nat.zero_le _, fun c hc => by cases hc⟩
    · obtain ⟨g1, g2, g3⟩ := Z.g (Sb.g (Z.ref ▸ h))
      refine ⟨fun α h1 h2 => ⟨g1 α h1 h2, ?_⟩, g2, g3⟩
      rcases hor with h' | h'
      · rw [← Z.ref, h] at h'; cases h'
      · exact h' α fun x hx => by
          obtain ⟨i, hi⟩ := List.mem_iff_getElem?.mp hx
          exact h2 i x hi hz0
    · obtain ⟨r1, r2⟩ := Sb.r (Z.ref ▸ h)
      exact ⟨fun α h => r1 α h.1, by rw [Z.lg]; exact r2⟩
  have hheats : ∀ {H2 : AH} {v2 v3 : V} {P : List V → AH → Prop} {R : V → AH → Prop}, Ext H1 H2 → (∀ z, P [.ref a, .ref b, v2, z, .un] H2) → (S.for_ 3 (.src (.loc 1)) (.seq (.ex (.bm .setdef (.attr (.loc 0) 9) [(.bi .abs [(.loc 3)]), (.c (.int 0))])) .skip)).wp (spN tab02 (n + 1)) [.ref a, .ref b, v2, .un, .un] H2 P R := fun {H2 v2 v3 P R} E hP => by
    have hb2 : H2 b = some o := E _ _ hb1.1
    have So2 := (E.sf h1.1).1
    refine s_for (pv_ok (.loc 1) (.ref b) _ rfl (it_lt hb2 ho ?_))
    refine floop_ind (fun j m H' => H' = H2 ∧ ∃ z, m = [.ref a, .ref b, v2, z, .un]) _ (fun j v m H' K hv hI hK => ?_) (fun m H' hI => ?_) ⟨rfl, .un, rfl⟩
    · obtain ⟨rfl, z, rfl⟩ := hI
      obtain ⟨x, hx, rfl⟩ := zs_at hv
      have hx0 := hnz x (List.mem_of_getElem? hx)
      obtain ⟨i, hi⟩ := C1.ht.get (v := x.natAbs) (by lia) (by lia)
      exact ⟨see_lt hb2 ho, s_seq (s_ex (bm_d (So2.a_ ha1 rfl rfl) (So2.at_ .ht trivial) rfl (e_cons (pv_ok _ (.int x.natAbs) _ (abs_pv rfl) (e_cons (pv_ok (.c (.int 0)) (.int 0) _ rfl (e_nil (setd_ok (So2.at_ .ht trivial) hi (s_skip (hK _ _ ⟨rfl, _, rfl⟩))))))))))⟩
    · obtain ⟨rfl, z, rfl⟩ := hI
      exact ⟨see_lt hb2 ho, hP z⟩
  refine s_seq (s_asg (e_callG (e_cons (pv_ok (.loc 1) (.ref b) _ rfl (e_nil (c_ordered hb1.1 ho (fun x hx => (hnz x hx).1) hlen (fun H2 E2 hbad => ?_) fun H2 y c E2 hy hy' hO => ?_))))))
  · refine s_seq (hheats (v3 := .un) E2 fun z => ?_)
    have So2 := (E2.sf h1.1).1
    refine s_seq (s_ite (b := true) ?_ (fun _ => ?_) fun h => by cases h)
    · exact pvb (pvb (pvb rfl (pvb rfl (pcm rfl))) rfl) rfl
    · refine s_seq (s_ret (pv_ok _ (.bool (!s1.ref)) _ (pv_not (So2.a_ ha1 rfl rfl)) (hnone H2 _ E2 (.inr fun α _ => ?_) rfl)))
      obtain ⟨x, h7, h8⟩ := hbad
      by_cases ht : ltr α x
      · exact ⟨x, h7, ht⟩
      · exact ⟨-x, h8, (ltr_neg (hnz x h7).1).mpr ht⟩
  · refine s_seq (hheats (v3 := .un) E2 fun z => ?_)
    have h2 := E2.sf h1.1
    have So2 := h2.1
    refine s_seq (s_iteE (e_or (pv_ok _ (.bool false) _ (pvb rfl (pvb rfl (pcm rfl))) (e_or (pv_ok _ (.bool s1.ref) _ (So2.a_ ha1 rfl rfl) ?_)))))
    have hcz : ∀ x ∈ c, x ≠ 0 ∧ x.natAbs ≤ N := fun x hx => hnz x ((hO.mem x).mp hx)
    have hcl : c.length ≤ N := lits_len hO.nd hcz
    have hsz : (1000 : Nat) < sz := by decide
    cases hr : s1.ref with
    | true =>
      refine (?_ : (S.seq (.ret (.not (.attr (.loc 0) 12))) .skip).wp (spN tab02 (n + 1)) [.ref a, .ref b, .ref y, z, .un] H2 (fun _ _ => True) Q)
      exact s_seq (s_ret (pv_ok _ (.bool (!s1.ref)) _ (pv_not (So2.a_ ha1 rfl rfl)) (hnone H2 _ E2 (.inl (Z.ref ▸ hr)) rfl)))
    | false =>
      have hr0 : s.ref = false := Z.ref ▸ hr
      obtain ⟨cv, W, P⟩ := Z.g (Sb.g hr0)
      refine e_or (e_cmp (pv_ok (.c (.bool true)) (.bool true) _ rfl (e_lc (pv_ok (.loc 2) (.ref y) _ rfl (it_lt (l := zs c) hy' (.inr rfl) ?_)))))
      refine cloop_ind (fun i acc H' => H' = H2 ∧ acc = (c.take i).map (sayV s1)) _ (fun i w acc H' K' hw hI hK' => ?_) (fun acc H' hI => ?_) ⟨rfl, rfl⟩
      · obtain ⟨rfl, rfl⟩ := hI
        obtain ⟨x, hx, rfl⟩ := zs_at hw
        have hic := (List.getElem?_eq_some_iff.mp hx).1
        refine ⟨see_tup hy', pvT (cm_ok (xs := [.loc 5]) (P := fun v H => _ ∧ _) So2 ha1 rfl (e_cons (pv_ok (.loc 5) (.int x) _ rfl (e_nil (c_says So2 ha1 C1.td.knOK ⟨?_, hK' _ _ ⟨rfl, ?_⟩⟩)))))⟩
        · rw [List.length_map, List.length_take]; lia
        · rw [List.take_add_one, hx, List.map_append]; rfl
      · obtain ⟨rfl, rfl⟩ := hI
        rw [zs_len, List.take_length]
        refine ⟨see_tup hy', fun w hw => ?_⟩
        refine cmpW_i (b := decide (∃ x ∈ c, sayV s1 x = .bool true)) ?_ ?_
        · show (AH.see _ w).bind _ = _
          rw [see_lst (l := c.map (sayV s1)) set_eq]
          exact mem_says
        have h3 := E2.new (o := .lst (c.map (sayV s1))) (E2.none hw)
        have hy3 : (H'.set w (.lst (c.map (sayV s1)))) y = some (.tup (zs c)) := by rw [set_ne fun e => by rw [e] at hy'; rw [show H' w = none from hw] at hy'; cases hy']; exact hy'
        have So3 := (h3.sf h1.1).1
        by_cases hin : ∃ x ∈ c, sayV s1 x = .bool true
        · rw [decide_eq_true hin]
          refine (?_ : (S.seq (.ret (.not (.attr (.loc 0) 12))) .skip).wp (spN tab02 (n + 1)) [.ref a, .ref b, .ref y, z, .un] _ (fun _ _ => True) Q)
          refine s_seq (s_ret (pv_ok _ (.bool (!s1.ref)) _ (pv_not (So3.a_ ha1 rfl rfl)) (hnone _ _ h3 (.inr fun α hα => ?_) rfl)))
          obtain ⟨x, h7, h8⟩ := hin
          exact ⟨x, (hO.mem x).mp h7, hα x ((C1.td.say_t (hcz x h7).1).mp h8)⟩
        rw [decide_eq_false hin]
        refine (?_ : (S.seq (.asg 4 (.lcomp [true, false, false, false, false] (.src (.loc 2)) (.cmp .is (.callM 2 (.loc 0) [(.loc 5)]) (.c .none)) (.emit (.loc 5)))) _).wp (spN tab02 (n + 1)) [.ref a, .ref b, .ref y, z, .un] _ _ Q)
        refine s_seq (s_asg (e_lc (pv_ok (.loc 2) (.ref y) _ rfl (it_lt (l := zs c) hy3 (.inr rfl) ?_))))
        refine cloop_ind (fun i acc H' => H' = _ ∧ acc = zs ((c.take i).filter fun x => decide (sayV s1 x = .none))) _ (fun i v acc H4 K' hw hI hK' => ?_) (fun acc H4 hI => ?_) ⟨rfl, rfl⟩
        · obtain ⟨rfl, rfl⟩ := hI
          obtain ⟨x, hx, rfl⟩ := zs_at hw
          have hic := (List.getElem?_eq_some_iff.mp hx).1
          have hle : (zs ((c.take i).filter fun x => decide (sayV s1 x = .none))).length < sz := by
            rw [zs_len]
            have h7 := List.length_filter_le (fun x => decide (sayV s1 x = .none)) (c.take i)
            rw [List.length_take] at h7
            lia
          refine ⟨see_tup hy3, e_cmp (cm_ok (xs := [.loc 5]) So3 ha1 rfl (e_cons (pv_ok (.loc 5) (.int x) _ rfl (e_nil (c_says So3 ha1 C1.td.knOK ?_)))))⟩
          refine pv_ok (.c .none) .none _ rfl (cmpW_i (b := decide (sayV s1 x = .none)) ?_ ?_)
          · show isV (sayV s1 x) .none = _
            rcases say_kinds s1 x with e | e | e <;> rw [e] <;> rfl
          · by_cases hn : sayV s1 x = .none
            · rw [decide_eq_true hn]
              refine (?_ : _ ∧ _)
              refine ⟨hle, hK' _ _ ⟨rfl, ?_⟩⟩
              rw [List.take_add_one, hx, List.filter_append, zs_app]
              show _ = _ ++ zs ([x].filter _)
              rw [List.filter_cons, if_pos (decide_eq_true hn)]; rfl
            · rw [decide_eq_false hn]
              refine hK' _ _ ⟨rfl, ?_⟩
              rw [List.take_add_one, hx, List.filter_append, zs_app]
              show _ = _ ++ zs ([x].filter _)
              rw [List.filter_cons, if_neg (by rw [decide_eq_false hn]; decide)]; simp [zs]
        · obtain ⟨rfl, rfl⟩ := hI
          rw [zs_len, List.take_length]
          refine ⟨see_tup hy3, fun u hu => ?_⟩
          have h4 := (h3.sf h1.1).trans (SF.junk So3 (o := .lst (zs (c.filter fun x => decide (sayV s1 x = .none)))) hu)
          have nu := So3.nfp hu
          have hu1 : (((H'.set w (.lst (c.map (sayV s1)))).set u (.lst (zs (c.filter fun x => decide (sayV s1 x = .none)))))) u = some (.lst (zs (c.filter fun x => decide (sayV s1 x = .none)))) := set_eq
          have hall : ∀ α, M α ∧ Sat α l → Sat α (c.filter fun x => decide (sayV s1 x = .none)) := fun α hα => by
            obtain ⟨x, hx, ht⟩ := hα.2
            have hxc := (hO.mem x).mpr hx
            refine ⟨x, List.mem_filter.mpr ⟨hxc, decide_eq_true ?_⟩, ht⟩
            rcases C1.td.say (hcz x hxc).1 with ⟨_, e⟩ | ⟨h7, _⟩ | ⟨_, e⟩
            · exact absurd ⟨x, hxc, e⟩ hin
            · exact absurd ht ((ltr_neg (hcz x hxc).1).mp (hmem h7 α hα.1))
            · exact e
          have hfr : ∀ x ∈ (c.filter fun x => decide (sayV s1 x = .none)), (∀ y ∈ s1.ro, y.natAbs ≠ x.natAbs) ∧ x ∈ l ∧ x ≠ 0 ∧ x.natAbs ≤ N := fun x hx => by
            obtain ⟨h7, h8⟩ := List.mem_filter.mp hx
            have h9 := hcz x h7
            exact ⟨(C1.td.say_n h9.1).mp (of_decide_eq_true h8), (hO.mem x).mp h7, h9⟩
          have hfn : ((c.filter fun x => decide (sayV s1 x = .none)).map Int.natAbs).Nodup := List.Pairwise.sublist (List.Sublist.map _ (List.filter_sublist ..)) hO.nd
          generalize (c.filter fun x => decide (sayV s1 x = .none)) = us at h4 hu1 hall hfr hfn hu nu
          generalize (((H'.set w (.lst (c.map (sayV s1)))).set u (.lst (zs us)))) = H5 at h4 hu1
          have hend : ∀ {H6 lay6 s6} {m : List V} {P : List V → AH → Prop}, SF H lay s H6 lay6 s6 → Stb N (fun α => M α ∧ Sat α l) s6 → Gr1 (fun α => M α ∧ Sat α l) s s6 → (S.seq (.ret (.not (.attr (.loc 0) 12))) .skip).wp (spN tab02 (n + 1)) (.ref a :: m) H6 P Q := fun {H6 lay6 s6 m P} h6 S6 g6 => s_seq (s_ret (pv_ok _ (.bool (!s6.ref)) _ (pv_not (h6.1.a_ (h6.ins ha) rfl rfl)) (q _ _ _ h6 S6 g6)))
          have h15 := h1.trans h4
          have ha5 := h15.ins ha
          have hln : ∀ {z2 : V} {k : Nat}, (X.cmp .eq (.bi .len [(.loc 4)]) (.c (.int k))).pv [.ref a, .ref b, .ref y, z2, .ref u] H5 = some (.bool (decide (us.length = k))) := fun {z2 k} => pvb (len_pv rfl (ln_zs hu1)) (pvb rfl (pcm eq_nn))
          have hgr : s1.rows.length ≤ s.rows.length + 1 := by rw [Z.rows]; exact Nat.le_succ _
          have hlg0 : ∃ t, An3 (s1.lg = s.lg ++ t) (t.length ≤ 1) (∀ c ∈ t, ∀ α, (M α ∧ Sat α l) → Sat α c) := ⟨[], by rw [Z.lg, List.append_nil], Nat.zero_le _, fun c hc => by cases hc⟩
          have hnr : ¬ s1.ref = true := by rw [hr]; decide
          rcases us with _ | ⟨x, _ | ⟨w1, r⟩⟩
          · skip
            refine s_seq (s_ite (hln (k := 0)) (fun _ => ?_) fun h => by cases h)
            refine s_seq (s_ex (cm_ok (xs := []) (P := fun _ H => _) h15.1 ha5 rfl (e_nil (c_refute h15.1 ha5 (by rw [Z.lg]; lia) fun H6 lay6 h6 => ?_))))
            have hno : ∀ α, ¬ (M α ∧ Sat α l) := fun α hα => by
              obtain ⟨x, hx, _⟩ := hall α hα
              cases hx
            refine s_skip (hend (h15.trans h6) ⟨C1'.ref_.lg_, fun h => (by cases h), fun _ => ⟨hno, List.getLast?_concat⟩⟩ ⟨hgr, [[]], by show s1.lg ++ [[]] = _; rw [Z.lg], Nat.le_refl _, fun d _ α hα => absurd hα (hno α)⟩)
          · skip
            refine nn fun hC => ?_
            obtain ⟨hx1, hx2, hx3, hx4⟩ := hfr x (List.mem_cons_self ..)
            refine hC ?_
            refine s_seq (s_ite (hln (k := 0)) (fun h => by cases h) fun _ => s_seq (s_ite (hln (k := 1)) (fun _ => ?_) fun h => by cases h))
            refine s_seq (s_ex (cm_ok (xs := [.sub (.loc 4) (.c (.int 0)), .c .none]) (P := fun _ H => _) h15.1 ha5 rfl (e_cons (pv_ok _ (.int x) _ (pvb rfl (pvb rfl (sb_l (n := 0) hu1 rfl))) (e_cons (pv_ok (.c .none) .none _ rfl (e_nil (c_let h15.1 ha5 (C1.sz hN1000) rfl fun H6 h6 => ?_))))))))
            refine s_skip (s_skip (hend (h15.trans h6) ⟨C1'.let_ hx3 hx4 hx1 (.inl ⟨rfl, .inl (by rw [Z.be]; rfl)⟩) fun _ α hα => ?_, fun _ => ⟨fun α h7 h8 => ⟨cv.let_ α h7 h8, x, hx2, h8 s1.ro.length x List.getElem?_concat_length (by show lvl s1.be _ = 0; exact hz0)⟩, ⟨W.iff, W.nd⟩, P.let_ C1.sl⟩, fun h => absurd h hnr⟩ ⟨hgr, hlg0⟩))
            obtain ⟨x', hx', ht⟩ := hall α hα
            rw [List.mem_singleton.mp hx'] at ht; exact ht
          · obtain ⟨w0, rfl⟩ : ∃ w0, w0 = x := ⟨x, rfl⟩
            have hrow : RowOK N (w0 :: w1 :: r) := ⟨by simp, hfn, fun x hx => (hfr x hx).2.2⟩
            have hw01 : w0 ≠ w1 := fun e => (List.nodup_cons.mp hfn).1 (by rw [e]; exact List.mem_cons_self ..)
            refine s_seq (s_ite (hln (k := 0)) (fun h => by cases h) fun _ => s_seq (s_ite (hln (k := 1)) (fun h => by cases h) fun _ => ?_))
            refine s_seq (s_ex (cm_ok (xs := [.loc 4]) (P := fun _ H => _) h15.1 ha5 rfl (e_cons (pv_ok (.loc 4) (.ref u) _ rfl (e_nil (c_keep h15.1 ha5 hu1 (fun h => nu (by
              obtain ⟨rr, hrr, e⟩ := h
              exact ⟨rr, hrr, e⟩)) (by rw [Z.rows]; lia) (by have := C1.wlen; lia) (fun k => by have := W.len (l := k); rw [Z.rows] at this; lia) fun H6 lay6 h6 => ?_))))))
            refine s_skip (s_skip (hend (h15.trans h6) ⟨C1'.keep hrow hall, fun _ => ⟨fun α h7 h8 => ⟨cv.keep α h7 h8, ?_⟩, W.keep hw01, P.keep fun x y hxy i hi hxi => ?_⟩, fun h => absurd h hnr⟩ ⟨?_, hlg0⟩))
            · obtain ⟨x, hx, ht⟩ := h7 (w0 :: w1 :: r) (List.mem_append_right _ (List.mem_singleton.mpr rfl))
              exact ⟨x, (hfr x hx).2.1, ht⟩
            · exfalso
              have hx : x ∈ w0 :: w1 :: r := by
                rcases hxy with ⟨rfl, _⟩ | ⟨rfl, _⟩
                · exact List.mem_cons_self ..
                · exact List.mem_cons_of_mem _ (List.mem_cons_self ..)
              exact (hfr x hx).1 (-x) (List.mem_of_getElem? hxi) (Int.natAbs_neg _)
            · show (s1.rows ++ [_]).length ≤ _
              rw [List.length_append, Z.rows]; exact Nat.le_refl _
end
end Mine
end
section
open PySem PySem.W
set_option tactic.hygienic false
namespace Mine
structure Hs (H0 H : AH) (d : Addr) (es : List (Nat × V)) (L : List (Addr × O)) : Prop where
  od : ∃ o, H0 d = some o
  ext : ∀ y o, H0 y = some o → y ≠ d → H y = some o
  att : H d = some (.att es)
  nd : (L.map (·.1)).Nodup
  at_ : ∀ p ∈ L, H p.1 = some p.2
  new : ∀ p ∈ L, H0 p.1 = none
theorem Hs.ne {H0 H : AH} {d : Addr} {es : List (Nat × V)} {L : List (Addr × O)} (h : Hs H0 H d es L) {p : Addr × O} (hp : p ∈ L) : p.1 ≠ d := fun e => by
  obtain ⟨o, ho⟩ := h.od
  have := h.new p hp
  rw [e, ho] at this; cases this
theorem Hs.alloc {H0 H : AH} {d : Addr} {es : List (Nat × V)} {L : List (Addr × O)} (h : Hs H0 H d es L) {x : Addr} {o : O} (hx : H x = none) : Hs H0 (H.set x o) d es ((x, o) :: L) := by
  have hxd : d ≠ x := fun e => by rw [← e, h.att] at hx; cases hx
  have hxL : ∀ p ∈ L, p.1 ≠ x := fun p hp e => by have := h.at_ p hp; rw [e, hx] at this; cases this
  refine ⟨h.od, fun y p hy hyd => ?_, by rw [set_ne hxd]; exact h.att, ?_, fun p hp => ?_, fun p hp => ?_⟩
  · have := h.ext y p hy hyd
    rw [set_ne fun e => by rw [e, hx] at this; cases this]; exact this
  · rw [List.map_cons, List.nodup_cons]
    refine ⟨fun hm => ?_, h.nd⟩
    obtain ⟨p, hp, e⟩ := List.mem_map.mp hm
    exact hxL p hp e
  · rcases List.mem_cons.mp hp with rfl | hp
    · exact set_eq
    · rw [set_ne (hxL p hp)]; exact h.at_ p hp
  · rcases List.mem_cons.mp hp with rfl | hp
    · cases hh : H0 x with
      | none => rfl
      | some o' => rw [h.ext x o' hh fun e => hxd e.symm] at hx; cases hx
    · exact h.new p hp
theorem Hs.put {H0 H : AH} {d : Addr} {es es' : List (Nat × V)} {L : List (Addr × O)} (h : Hs H0 H d es L) : Hs H0 (H.set d (.att es')) d es' L :=
  ⟨h.od, fun y o hy hyd => by rw [set_ne hyd]; exact h.ext y o hy hyd, set_eq, h.nd, fun p hp => by rw [set_ne (h.ne hp)]; exact h.at_ p hp, h.new⟩
section
variable {sp : Sp} {m : List V} {H H0 : AH} {Q : V → AH → Prop}
theorem attS_raw {a d : Addr} {es : List (Nat × V)} {k : Nat} {v : V} {P : AH → Prop} (h1 : H a = some (.inst d)) (h2 : H d = some (.att es)) (hl : es.length < 900) (q : P (H.set d (.att (put es k v)))) : attS a k v H P := ifS_mk (insV_mk h1 h2) ⟨hl, q⟩
variable {a d : Addr} {es : List (Nat × V)} {L : List (Addr × O)} {r : List V} {P : List V → AH → Prop} {R : V → AH → Prop}
theorem i_new {k : Nat} {x : X} {o : O} (h : Hs H0 H d es L) (hA : H0 a = some (.inst d)) (had : a ≠ d) (hl : es.length < 900) (hx : ∀ {Q : V → AH → Prop}, (∀ y, H y = none → Q (.ref y) (H.set y o)) → x.ev sp (.ref a :: r) H Q) (q : ∀ y H', Hs H0 H' d (put es k (.ref y)) ((y, o) :: L) → P (.ref a :: r) H') : (S.setA (.loc 0) k x).wp sp (.ref a :: r) H P R := by
  refine s_setE (hx fun y hy => ?_)
  have h1 := h.alloc (o := o) hy
  exact attS_raw (h1.ext a _ hA had) h1.att hl (q y _ h1.put)
theorem i_val {k : Nat} {x : X} {v : V} (h : Hs H0 H d es L) (hA : H0 a = some (.inst d)) (had : a ≠ d) (hl : es.length < 900) (hx : x.pv (.ref a :: r) H = some v) (q : ∀ H', Hs H0 H' d (put es k v) L → P (.ref a :: r) H') : (S.setA (.loc 0) k x).wp sp (.ref a :: r) H P R :=
  s_setE (pv_ok x _ _ hx (attS_raw (h.ext a _ hA had) h.att hl (q _ h.put)))
theorem e_sup {f : Nat} {es : List (Nat × V)} (h1 : H a = some (.inst d)) (h2 : H d = some (.att es)) (q : sp f [.ref a] H Q) : (X.sup f).ev sp (.ref a :: r) H Q := by
  exact ifS_mk (x := .ref a) rfl (ifS_mk (insV_mk h1 h2) q)
theorem e_emptyL {Q : V → AH → Prop} (h : ∀ y, H y = none → Q (.ref y) (H.set y (.lst []))) : (X.list []).ev sp m H Q := h
theorem e_emptyT {Q : V → AH → Prop} (h : ∀ y, H y = none → Q (.ref y) (H.set y (.tup []))) : (X.tup []).ev sp m H Q := h
theorem e_dcr {mask : List Bool} {x y k v : X} {lo hi : Int} (hx : x.pv m H = some (.int lo)) (hy : y.pv m H = some (.int hi)) (b1 : -big ≤ lo ∧ lo < big) (b2 : -big ≤ hi ∧ hi < big)
    (h : cloop (fun _ => True) (fun x H acc K => k.ev sp (mskd m mask ++ [x]) H fun kv H => v.ev sp (mskd m mask ++ [x]) H fun vv H => ifS kv.i? fun i => acc.length < sz ∧ K (put acc i vv) H) (rngL lo hi) H [] fun acc H => ∀ a, H a = none → Q (.ref a) (H.set a (.dct acc))) : (X.dcomp mask (.rng x y) k v).ev sp m H Q := by
  exact pv_ok x _ (fun v H => y.ev sp m H fun w H => ifS v.i? fun i => ifS w.i? fun j => _) hx (pv_ok y _ _ hy (ifS_mk (x := lo) rfl (ifS_mk (x := hi) rfl ⟨b1.1, b1.2, b2.1, b2.2, h⟩)))
end
noncomputable def ht0 (N : Nat) : List (Int × V) := (oneTo N).map fun k => (k, .int 0)
theorem ht0_ok {N : Nat} : HtOK N (ht0 N) := by
  refine ⟨?_, fun e he => ?_⟩
  · unfold ky ht0
    rw [List.map_map]
    exact List.map_id _
  · obtain ⟨k, _, rfl⟩ := List.mem_map.mp he
    exact ⟨0, rfl⟩
noncomputable def s0 (N : Nat) : St := ⟨[], [], [], [], [], 0, [], [], [], fun _ => [], ht0 N, 1, [], false, [], 0, 0⟩
theorem stb0 {N : Nat} : Stb N (fun _ => True) (s0 N) := by
  refine ⟨⟨⟨fun l h => (by cases h), List.nodup_nil, fun k v => ⟨fun h => (by cases h), fun ⟨l, h, _⟩ => (by cases h)⟩, .nil, .nil, .nil, .nil, fun k v h => (by cases h)⟩, fun i l h => (by cases h), fun i l h => (by cases h), List.Pairwise.nil, fun b h => (by cases h), Nat.le_refl _, fun c h => (by cases h), fun c h => (by cases h), fun i l h => (by cases h), ht0_ok, List.nodup_nil, fun l h => (by cases h), rfl⟩, fun _ => ⟨fun α _ _ => trivial, ⟨fun k l => ⟨fun h => (by cases h), fun ⟨c, h, _⟩ => (by cases h)⟩, fun l => List.nodup_nil⟩, fun k c w w' h => (by cases h)⟩, fun h => (by cases h)⟩
section
variable {n : Nat} {H : AH} {a d : Addr} {Q : V → AH → Prop} {N : Nat}
theorem c_values {H0 : AH} (h : Hs H0 H d [] []) (hA : H0 a = some (.inst d)) (had : a ≠ d) (q : ∀ H' x0 x1 x2 x3 x4 x6, Hs H0 H' d [(0, .ref x0), (1, .ref x1), (2, .ref x2), (3, .ref x3), (4, .ref x4), (5, .int 0), (6, .ref x6)] [(x6, .dct []), (x4, .lst []), (x3, .lst []), (x2, .dct []), (x1, .dct []), (x0, .dct [])] → Q .none H') : spN tab02 (n + 1) 1 [.ref a] H Q := by
  refine sp_go rfl rfl (s_seq (i_new h hA had (show 0 < 900 by decide) (fun h => e_dict0 h) fun x0 H1 h => s_seq (i_new h hA had (show 1 < 900 by decide) (fun h => e_dict0 h) fun x1 H2 h => s_seq (i_new h hA had (show 2 < 900 by decide) (fun h => e_dict0 h) fun x2 H3 h => s_seq (i_new h hA had (show 3 < 900 by decide) (fun h => e_emptyL h) fun x3 H4 h => s_seq (i_new h hA had (show 4 < 900 by decide) (fun h => e_emptyL h) fun x4 H5 h => s_seq (i_val h hA had (show 5 < 900 by decide) rfl fun H6 h => s_seq (i_new h hA had (show 6 < 900 by decide) (fun h => e_dict0 h) fun x6 H7 h => s_skip (q _ _ _ _ _ _ _ h)))))))))
end
end Mine
end
section
open PySem PySem.W
set_option tactic.hygienic false
namespace Mine
noncomputable def All (cls : List (List Int)) (α : Nat → Bool) : Prop := ∀ c ∈ cls, Sat α c
theorem Stb.iff {N : Nat} {M M' : (Nat → Bool) → Prop} {s : St} (S : Stb N M s) (h : ∀ α, M α ↔ M' α) : Stb N M' s := by
  obtain rfl : M = M' := funext fun α => propext (h α)
  exact S
noncomputable def lay0 (a d x0 x1 x2 x3 x4 x6 x7 x8 x9 x11 x13 : Addr) : Ro → Addr
  | .ins => a
  | .att => d
  | .kn => x0
  | .he => x1
  | .ca => x2
  | .ro => x3
  | .be => x4
  | .li => x6
  | .rs => x7
  | .wa => x8
  | .ht => x9
  | .lg => x11
  | .bl => x13
  | _ => a
section
variable {n : Nat} {H : AH} {a d : Addr} {Q : V → AH → Prop} {N : Nat}
structure Cls (H : AH) (cb : Addr) (cls : List (List Int)) : Prop where
  at_ : ∃ f : Nat → Addr, H cb = some (.lst (refs cls.length f)) ∧ ∀ j c, cls[j]? = some c → H (f j) = some (.tup (zs c))
theorem Cls.keep {H H' : AH} {cb : Addr} {cls : List (List Int)} (h : Cls H cb cls) (E : ∀ y o, H y = some o → H' y = some o) : Cls H' cb cls := by
  obtain ⟨f, h1, h2⟩ := h.at_
  exact ⟨f, E _ _ h1, fun j c hc => E _ _ (h2 j c hc)⟩
noncomputable def iL (N : Nat) (x0 x1 x2 x3 x4 x6 x7 x8 x9 x11 x13 : Addr) : List (Addr × O) := [(x13, .tup []), (x11, .lst []), (x9, .dct (ht0 N)), (x8, .dct []), (x7, .lst []), (x6, .dct []), (x4, .lst []), (x3, .lst []), (x2, .dct []), (x1, .dct []), (x0, .dct [])]
noncomputable def roL : List Ro := [Ro.bl, .lg, .ht, .wa, .rs, .li, .be, .ro, .ca, .he, .kn, .att, .ins]
noncomputable def roN : Ro → Nat
  | .bl => 0 | .lg => 1 | .ht => 2 | .wa => 3 | .rs => 4 | .li => 5 | .be => 6 | .ro => 7 | .ca => 8 | .he => 9 | .kn => 10 | .att => 11 | .ins => 12
  | _ => 13
noncomputable def InL (r : Ro) : Prop := roL[roN r]? = some r
theorem use0 {N : Nat} : ∀ r, use (s0 N) r → r ∈ roL := fun r u => List.mem_of_getElem? (show InL r by
  cases r <;> first | exact rfl | exact absurd u (Nat.not_lt_zero _) | cases u)
theorem init_sol {H0 H' : AH} {x0 x1 x2 x3 x4 x6 x7 x8 x9 x11 x13 : Addr} (h : Hs H0 H' d (attL (lay0 a d x0 x1 x2 x3 x4 x6 x7 x8 x9 x11 x13) (s0 N)) (iL N x0 x1 x2 x3 x4 x6 x7 x8 x9 x11 x13)) (hA : H0 a = some (.inst d)) (had : a ≠ d) : Sol H' (lay0 a d x0 x1 x2 x3 x4 x6 x7 x8 x9 x11 x13) (s0 N) ∧ ∀ y o, H0 y = some o → y ≠ d → y ≠ a → ¬ fp (lay0 a d x0 x1 x2 x3 x4 x6 x7 x8 x9 x11 x13) (s0 N) y := by
  have hins : H' a = some (.inst d) := h.ext a _ hA had
  have hmap : roL.map (lay0 a d x0 x1 x2 x3 x4 x6 x7 x8 x9 x11 x13) = (iL N x0 x1 x2 x3 x4 x6 x7 x8 x9 x11 x13).map (·.1) ++ [d, a] := rfl
  have hL : ∀ x ∈ (iL N x0 x1 x2 x3 x4 x6 x7 x8 x9 x11 x13).map (·.1), H0 x = none := fun x hx => by
    obtain ⟨p, hp, rfl⟩ := List.mem_map.mp hx
    exact h.new p hp
  have hnn : (roL.map (lay0 a d x0 x1 x2 x3 x4 x6 x7 x8 x9 x11 x13)).Nodup := by
    rw [hmap, List.nodup_append]
    refine ⟨h.nd, List.nodup_cons.mpr ⟨fun h => had (List.mem_singleton.mp h).symm, by simp⟩, fun x hx y hy e => ?_⟩
    have hxn := hL x hx
    subst e
    rcases List.mem_cons.mp hy with rfl | hy
    · obtain ⟨o, ho⟩ := h.od
      rw [ho] at hxn; cases hxn
    · rw [List.mem_singleton.mp hy, hA] at hxn; cases hxn
  have hat : ∀ r ∈ roL, H' (lay0 a d x0 x1 x2 x3 x4 x6 x7 x8 x9 x11 x13 r) = some (cont (lay0 a d x0 x1 x2 x3 x4 x6 x7 x8 x9 x11 x13) (s0 N) r) := by
    have e : ∀ (i : Nat) (p : Addr × O), (iL N x0 x1 x2 x3 x4 x6 x7 x8 x9 x11 x13)[i]? = some p → H' p.1 = some p.2 := fun i p hp => h.at_ p (List.mem_of_getElem? hp)
    unfold roL
    exact allC (e 0 (x13, _) rfl) (allC (e 1 (x11, _) rfl) (allC (e 2 (x9, _) rfl) (allC (e 3 (x8, _) rfl) (allC (e 4 (x7, _) rfl) (allC (e 5 (x6, _) rfl) (allC (e 6 (x4, _) rfl) (allC (e 7 (x3, _) rfl) (allC (e 8 (x2, _) rfl) (allC (e 9 (x1, _) rfl) (allC (e 10 (x0, _) rfl) (allC h.att (allC hins allN))))))))))))
  refine ⟨⟨fun r u => hat r (use0 r u), fun r r' u u' e => ?_⟩, fun y o hy hyd hya ⟨r, u, e⟩ => ?_⟩
  · obtain ⟨i, hi, rfl⟩ := List.getElem_of_mem (use0 r u)
    obtain ⟨j, hj, rfl⟩ := List.getElem_of_mem (use0 r' u')
    have h1 : i < (roL.map (lay0 a d x0 x1 x2 x3 x4 x6 x7 x8 x9 x11 x13)).length := by rw [List.length_map]; exact hi
    have h2 : j < (roL.map (lay0 a d x0 x1 x2 x3 x4 x6 x7 x8 x9 x11 x13)).length := by rw [List.length_map]; exact hj
    have : i = j := (List.getElem_inj (h₀ := h1) (h₁ := h2) hnn).mp (by rw [List.getElem_map, List.getElem_map]; exact e)
    subst this; rfl
  · have hm : y ∈ roL.map (lay0 a d x0 x1 x2 x3 x4 x6 x7 x8 x9 x11 x13) := by
      rw [← e]; exact List.mem_map_of_mem (use0 r u)
    rw [hmap] at hm
    rcases List.mem_append.mp hm with hm | hm
    · have := hL y hm
      rw [hy] at this; cases this
    · rcases List.mem_cons.mp hm with rfl | hm
      · exact hyd rfl
      · exact hya (List.mem_singleton.mp hm)
set_option maxHeartbeats 1000000 in
theorem c_init {cb : Addr} {cls : List (List Int)} (hcl : Cls H cb cls) (hN : N ≤ 5) (hok : ∀ c ∈ cls, (∀ x ∈ c, x ≠ 0 ∧ x.natAbs ≤ N) ∧ c.length < 64) (hlen : cls.length ≤ 1000) (ha : H a = none) (hd : H d = none) (had : a ≠ d)
    (q : ∀ H' lay s, (∀ y o, H y = some o → H' y = some o ∧ ¬ fp lay s y) → lay .ins = a → Sol H' lay s → Stb N (All cls) s → s.rows.length ≤ cls.length → s.lg.length ≤ cls.length → Q .none H') : spN tab02 (n + 3) 5 [.ref a, .ref cb, .int N] ((H.set a (.inst d)).set d (.att [])) Q := by
  have hA : ((H.set a (.inst d)).set d (.att [])) a = some (.inst d) := by rw [set_ne had]; exact set_eq
  have h : Hs ((H.set a (.inst d)).set d (.att [])) ((H.set a (.inst d)).set d (.att [])) d [] [] := ⟨⟨_, set_eq⟩, fun y o h _ => h, set_eq, List.nodup_nil, fun p h => (by cases h), fun p h => (by cases h)⟩
  have hold : ∀ y o, H y = some o → ((H.set a (.inst d)).set d (.att [])) y = some o := fun y o hy => by
    rw [set_ne fun e : y = d => (by rw [e, hd] at hy; cases hy), set_ne fun e : y = a => (by rw [e, ha] at hy; cases hy)]; exact hy
  generalize ((H.set a (.inst d)).set d (.att [])) = H0 at hA h hold
  refine sp_go rfl rfl (s_seq (s_ex (e_sup hA h.att (c_values h hA had fun H1 x0 x1 x2 x3 x4 x6 h => ?_))))
  refine s_seq (i_new h hA had (show 7 < 900 by decide) (fun h => e_emptyL h) fun x7 H2 h => s_seq (i_new h hA had (show 8 < 900 by decide) (fun h => e_dict0 h) fun x8 H3 h => ?_))
  have hb : -big ≤ (N : Int) + 1 ∧ (N : Int) + 1 < big := ⟨by unfold big; lia, by unfold big; lia⟩
  refine s_seq (i_new (o := .dct (ht0 N)) h hA had (show 9 < 900 by decide) (fun {Q} hq => ?_) fun x9 H4 h => ?_)
  · refine e_dcr (lo := 1) (hi := (N : Int) + 1) rfl rfl (by decide) hb ?_
    refine cloop_ind (fun i acc H' => H' = H3 ∧ acc = ((oneTo N).take i).map fun k => (k, V.int 0)) _ (fun i w acc H' K hw hI hK => ?_) (fun acc H' hI => ?_) ⟨rfl, rfl⟩
    · obtain ⟨rfl, rfl⟩ := hI
      obtain ⟨rfl, hi⟩ := rng_at hw
      have hiN : i < N := by lia
      have hat : (oneTo N)[i]? = some (1 + (i : Int)) := by
        unfold oneTo
        rw [List.getElem?_map, List.getElem?_range hiN]
        show some (((i + 1 : Nat) : Int)) = _
        congr 1; lia
      refine ⟨trivial, pv_ok (.loc 4) (.int (1 + (i : Int))) _ rfl (pv_ok (.c (.int 0)) (.int 0) _ rfl ⟨?_, hK _ _ ⟨rfl, ?_⟩⟩)⟩
      · rw [List.length_map, List.length_take]
        have : (1000 : Nat) < sz := by decide
        lia
      · rw [put_new]
        · rw [List.take_add_one, hat, List.map_append]; rfl
        · unfold ky
          rw [List.map_map]
          intro hm
          obtain ⟨k, hk, e⟩ := List.mem_map.mp hm
          have e : k = 1 + (i : Int) := e
          obtain ⟨j, hj, hjk⟩ := mem_take_at hk
          have h3 := List.getElem?_eq_some_iff.mp hat
          have h4 := List.getElem?_eq_some_iff.mp hjk
          have := (List.getElem_inj (h₀ := h4.1) (h₁ := h3.1) oneTo_nd).mp (by rw [h4.2, h3.2, e])
          omega
    · obtain ⟨rfl, rfl⟩ := hI
      refine ⟨trivial, fun y hy => ?_⟩
      rw [rng_len, show ((N : Int) + 1 - 1).toNat = N by lia, List.take_of_length_le (by rw [oneTo_len]; exact Nat.le_refl _)]
      exact hq y hy
  have h : Hs H0 H4 d [(0, .ref x0), (1, .ref x1), (2, .ref x2), (3, .ref x3), (4, .ref x4), (5, .int 0), (6, .ref x6), (7, .ref x7), (8, .ref x8), (9, .ref x9)] [(x9, .dct (ht0 N)), (x8, .dct []), (x7, .lst []), (x6, .dct []), (x4, .lst []), (x3, .lst []), (x2, .dct []), (x1, .dct []), (x0, .dct [])] := h
  refine s_seq (i_val h hA had (show 10 < 900 by decide) rfl fun H5 h => ?_)
  have h : Hs H0 H5 d [(0, .ref x0), (1, .ref x1), (2, .ref x2), (3, .ref x3), (4, .ref x4), (5, .int 0), (6, .ref x6), (7, .ref x7), (8, .ref x8), (9, .ref x9), (10, .int 1)] [(x9, .dct (ht0 N)), (x8, .dct []), (x7, .lst []), (x6, .dct []), (x4, .lst []), (x3, .lst []), (x2, .dct []), (x1, .dct []), (x0, .dct [])] := h
  refine s_seq (i_new h hA had (show 11 < 900 by decide) (fun h => e_emptyL h) fun x11 H6 h => ?_)
  have h : Hs H0 H6 d [(0, .ref x0), (1, .ref x1), (2, .ref x2), (3, .ref x3), (4, .ref x4), (5, .int 0), (6, .ref x6), (7, .ref x7), (8, .ref x8), (9, .ref x9), (10, .int 1), (11, .ref x11)] [(x11, .lst []), (x9, .dct (ht0 N)), (x8, .dct []), (x7, .lst []), (x6, .dct []), (x4, .lst []), (x3, .lst []), (x2, .dct []), (x1, .dct []), (x0, .dct [])] := h
  refine s_seq (i_val h hA had (show 12 < 900 by decide) rfl fun H7 h => ?_)
  have h : Hs H0 H7 d [(0, .ref x0), (1, .ref x1), (2, .ref x2), (3, .ref x3), (4, .ref x4), (5, .int 0), (6, .ref x6), (7, .ref x7), (8, .ref x8), (9, .ref x9), (10, .int 1), (11, .ref x11), (12, .bool false)] [(x11, .lst []), (x9, .dct (ht0 N)), (x8, .dct []), (x7, .lst []), (x6, .dct []), (x4, .lst []), (x3, .lst []), (x2, .dct []), (x1, .dct []), (x0, .dct [])] := h
  refine s_seq (i_new h hA had (show 13 < 900 by decide) (fun h => e_emptyT h) fun x13 H8 h => ?_)
  have h : Hs H0 H8 d [(0, .ref x0), (1, .ref x1), (2, .ref x2), (3, .ref x3), (4, .ref x4), (5, .int 0), (6, .ref x6), (7, .ref x7), (8, .ref x8), (9, .ref x9), (10, .int 1), (11, .ref x11), (12, .bool false), (13, .ref x13)] [(x13, .tup []), (x11, .lst []), (x9, .dct (ht0 N)), (x8, .dct []), (x7, .lst []), (x6, .dct []), (x4, .lst []), (x3, .lst []), (x2, .dct []), (x1, .dct []), (x0, .dct [])] := h
  refine s_seq (i_val h hA had (show 14 < 900 by decide) rfl fun H9 h => ?_)
  have h : Hs H0 H9 d [(0, .ref x0), (1, .ref x1), (2, .ref x2), (3, .ref x3), (4, .ref x4), (5, .int 0), (6, .ref x6), (7, .ref x7), (8, .ref x8), (9, .ref x9), (10, .int 1), (11, .ref x11), (12, .bool false), (13, .ref x13), (14, .int 0)] [(x13, .tup []), (x11, .lst []), (x9, .dct (ht0 N)), (x8, .dct []), (x7, .lst []), (x6, .dct []), (x4, .lst []), (x3, .lst []), (x2, .dct []), (x1, .dct []), (x0, .dct [])] := h
  refine s_seq (i_val h hA had (show 15 < 900 by decide) rfl fun H10 h => ?_)
  have h : Hs H0 H10 d [(0, .ref x0), (1, .ref x1), (2, .ref x2), (3, .ref x3), (4, .ref x4), (5, .int 0), (6, .ref x6), (7, .ref x7), (8, .ref x8), (9, .ref x9), (10, .int 1), (11, .ref x11), (12, .bool false), (13, .ref x13), (14, .int 0), (15, .int 0)] [(x13, .tup []), (x11, .lst []), (x9, .dct (ht0 N)), (x8, .dct []), (x7, .lst []), (x6, .dct []), (x4, .lst []), (x3, .lst []), (x2, .dct []), (x1, .dct []), (x0, .dct [])] := h
  have hSol := init_sol (N := N) (a := a) (x0 := x0) (x1 := x1) (x2 := x2) (x3 := x3) (x4 := x4) (x6 := x6) (x7 := x7) (x8 := x8) (x9 := x9) (x11 := x11) (x13 := x13) h hA had
  have hout : ∀ y o, H y = some o → H10 y = some o ∧ ¬ fp (lay0 a d x0 x1 x2 x3 x4 x6 x7 x8 x9 x11 x13) (s0 N) y := fun y o hy => by
    have hyd : y ≠ d := fun e => by rw [e, hd] at hy; cases hy
    have hya : y ≠ a := fun e => by rw [e, ha] at hy; cases hy
    exact ⟨h.ext y o (hold y o hy) hyd, hSol.2 y o (hold y o hy) hyd hya⟩
  have So := hSol.1
  have hlay : lay0 a d x0 x1 x2 x3 x4 x6 x7 x8 x9 x11 x13 .ins = a := rfl
  clear hSol h
  generalize lay0 a d x0 x1 x2 x3 x4 x6 x7 x8 x9 x11 x13 = lay at So hout hlay
  obtain ⟨f, hcb, hf⟩ := hcl.at_
  have hrange : ∀ {j : Nat} {v : V}, (refs cls.length f)[j]? = some v → j < cls.length ∧ v = .ref (f j) := fun {j v} hv => by
    have hj := (List.getElem?_eq_some_iff.mp hv).1
    rw [refs_len] at hj
    rw [refs_get hj] at hv
    exact ⟨hj, (Option.some.inj hv).symm⟩
  refine s_seq (s_for (pv_ok (.loc 1) (.ref cb) _ rfl (it_l (hout _ _ hcb).1 ?_)))
  refine floop_ind (fun j m H' => Ex3 fun (lay' : Ro → Addr) (s' : St) (z : V) => An5 (m = [.ref a, .ref cb, .int N, z]) (SF H10 lay (s0 N) H' lay' s') (Stb N (All (cls.take j)) s') (s'.rows.length ≤ j) (s'.lg.length ≤ j)) _ (fun j v m H' K hv hI hK => ?_) (fun m H' hI => ?_) ⟨lay, s0 N, .un, rfl, .refl So, stb0.iff fun α => ⟨fun _ c hc => (by cases hc), fun _ => trivial⟩, Nat.le_refl _, Nat.le_refl _⟩
  · refine nn fun hC => ?_
    obtain ⟨lay', s', z, rfl, h, S, hr, hl⟩ := hI
    obtain ⟨hj, rfl⟩ := hrange hv
    refine hC ?_
    have hc : cls[j]? = some cls[j] := List.getElem?_eq_getElem hj
    generalize cls[j] = c at hc
    have hcm := hok c (List.mem_of_getElem? hc)
    have hfj := hout _ _ (hf j c hc)
    have hfj' := So.out h.2 hfj.1 hfj.2
    have ha' := h.ins hlay
    have hsz : (2000 : Nat) < sz := by decide
    refine ⟨see_lst (So.out h.2 (hout _ _ hcb).1 (hout _ _ hcb).2).1, s_seq (s_ex (cm_ok (xs := [.loc 3]) (P := fun _ H => _) h.1 ha' rfl (e_cons (pv_ok (.loc 3) (.ref (f j)) _ rfl (e_nil (c_addc h.1 ha' S hN hfj'.1 (.inr rfl) hfj'.2 hcm.1 hcm.2 (by lia) (by lia) fun H2 lay2 s2 h2 S2 g2 => ?_))))))⟩
    refine s_skip (hK _ _ ⟨lay2, s2, _, rfl, h.trans h2, S2.iff fun α => ?_, by have := g2.rows; lia, ?_⟩)
    · constructor
      · rintro ⟨h7, h8⟩ c' hc'
        rcases (mem_take_succ hc).mp hc' with hc' | rfl
        · exact h7 c' hc'
        · exact h8
      · exact fun h7 => ⟨fun c' hc' => h7 c' ((mem_take_succ hc).mpr (.inl hc')), h7 c ((mem_take_succ hc).mpr (.inr rfl))⟩
    · obtain ⟨t, h7, h8, _⟩ := g2.lg
      rw [h7, List.length_append]; lia
  · refine nn fun hC => ?_
    obtain ⟨lay', s', z, rfl, h, S, hr, hl⟩ := hI
    refine hC ?_
    rw [refs_len] at S hr hl
    rw [List.take_length] at S
    refine ⟨see_lst (So.out h.2 (hout _ _ hcb).1 (hout _ _ hcb).2).1, s_skip (q _ lay' s' (fun y o hy => ?_) (h.ins hlay) h.1 S hr hl)⟩
    exact So.out h.2 (hout y o hy).1 (hout y o hy).2
end
end Mine
end
section
open PySem PySem.W
set_option tactic.hygienic false
namespace Mine
noncomputable def fdO (cl : Addr) (spot : Nat) : O := .att [(16, .ref cl), (17, .int spot)]
structure Fd (H0 H : AH) (fd cl : Addr) (cells : List Int) (spot : Nat) : Prop where
  ext : ∀ y o, H0 y = some o → y ≠ fd → H y = some o
  fd : H fd = some (fdO cl spot)
  cl : H cl = some (.lst (zs cells))
  b : spot < 100000
section
variable {n : Nat} {H0 H : AH} {fd cl : Addr} {cells : List Int} {spot : Nat} {Q : V → AH → Prop}
theorem Fd.ne (h : Fd H0 H fd cl cells spot) : fd ≠ cl := fun e => by
  have h1 := h.fd
  rw [e, h.cl] at h1; cases h1
theorem Fd.new (h : Fd H0 H fd cl cells spot) {x : Addr} {o : O} (hx : H x = none) : Fd H0 (H.set x o) fd cl cells spot :=
  ⟨fun y p hy hne => by
    have := h.ext y p hy hne
    rw [set_ne fun e : y = x => (by rw [e, hx] at this; cases this)]; exact this, by rw [set_ne fun e : fd = x => (by have := h.fd; rw [e, hx] at this; cases this)]; exact h.fd, by rw [set_ne fun e : cl = x => (by have := h.cl; rw [e, hx] at this; cases this)]; exact h.cl, h.b⟩
theorem Fd.step (h : Fd H0 H fd cl cells spot) (hs : spot + 1 < 100000) : Fd H0 (H.set fd (fdO cl (spot + 1))) fd cl cells (spot + 1) :=
  ⟨fun y o hy hne => by rw [set_ne hne]; exact h.ext y o hy hne, set_eq, by rw [set_ne fun e => h.ne e.symm]; exact h.cl, hs⟩
theorem sb_s {b : Addr} {es : List (Nat × V)} {k : Nat} {v : V} (h : H b = some (.att es)) (e : get es k = some v) : subV H (.ref b) (.str k) = some v := bindM (x := b) rfl (bindM (see_att h) e)
theorem mod_ok {x y : X} {sp : Sp} {m : List V} {a b : Int} (hx : x.pv m H = some (.int a)) (hy : y.pv m H = some (.int b)) (hb : 0 < b) : (X.bin .mod x y).pv m H = some (.int (a % b)) := by
  refine pvb hx (pvb hy ?_)
  show (gdP (0 < b) (a % b)).map V.int = _
  rw [gdP_mk hb]; rfl
theorem mul_ok {x y : X} {m : List V} {a b : Int} (hx : x.pv m H = some (.int a)) (hy : y.pv m H = some (.int b)) (h : -big ≤ a ∧ a ≤ big ∧ -big ≤ b ∧ b ≤ big) : (X.bin .mul x y).pv m H = some (.int (a * b)) := by
  refine pvb hx (pvb hy ?_)
  show (gdP (-big ≤ a ∧ a ≤ big ∧ -big ≤ b ∧ b ≤ big) (a * b)).map V.int = _
  rw [gdP_mk h]; rfl
theorem add_ok {x y : X} {m : List V} {a b : Int} (hx : x.pv m H = some (.int a)) (hy : y.pv m H = some (.int b)) : (X.bin .add x y).pv m H = some (.int (a + b)) := pvb hx (pvb hy rfl)
theorem sub_ok {x y : X} {m : List V} {a b : Int} (hx : x.pv m H = some (.int a)) (hy : y.pv m H = some (.int b)) : (X.bin .sub x y).pv m H = some (.int (a - b)) := pvb hx (pvb hy rfl)
theorem c_draw (h : Fd H0 H fd cl cells spot) {b : Int} (hb : 0 < b) (q : ∀ r, 0 ≤ r → r < b → Q (.int r) (H.set fd (fdO cl (spot + 1)))) : spN tab02 (n + 1) 21 [.ref fd, .int b] H Q := by
  refine sp_go rfl rfl (s_seq (s_asgN (e_cons (pv_ok _ (.ref cl) _ (pvb rfl (pvb rfl (sb_s h.fd rfl))) (e_cons (pv_ok _ (.int spot) _ (pvb rfl (pvb rfl (sb_s h.fd rfl))) (e_nil ⟨rfl, ?_⟩)))))))
  have hset : ∀ {P : AH → Prop}, P (H.set fd (fdO cl (spot + 1))) → setIW H (.ref fd) (.str 17) (.int (spot + 1 : Nat)) P := fun {P} hP => by
    show ifS (H fd) _
    exact ifS_mk h.fd ⟨by show 2 < 900; decide, hP⟩
  refine s_seq (s_setI (w := .int (spot + 1 : Nat)) rfl rfl rfl (hset ?_))
  have hcl : (H.set fd (fdO cl (spot + 1))) cl = some (.lst (zs cells)) := by rw [set_ne fun e => h.ne e.symm]; exact h.cl
  have hbg : ∀ x : Int, 0 ≤ x → x ≤ 10000000000000 → -big ≤ x ∧ x ≤ big := fun x h1 h2 => by unfold big; lia
  have hsp := h.b
  refine s_seq (s_ite (b := decide (spot < cells.length)) (pvb rfl (pvb (len_pv rfl (ln_zs hcl)) (pcm lt_nn))) (fun hd => ?_) fun hd => s_skip ?_)
  · have hlt := of_decide_eq_true hd
    have hx : cells[spot]? = some cells[spot] := List.getElem?_eq_getElem hlt
    refine s_seq (s_ret (pv_ok _ (.int (cells[spot] % b)) _ (mod_ok (sp := spN tab02 n) (pvb (pvb (pvb rfl (pvb rfl (sb_l hcl (idx_nat (zs_get hx))))) rfl) rfl) rfl hb) (q _ (Int.emod_nonneg _ (by lia)) (Int.emod_lt_of_pos _ hb))))
  · have h7 := hbg 7 (by decide) (by decide)
    have h3 := hbg 3 (by decide) (by decide)
    have hs1 := hbg spot (by lia) (by lia)
    have hs7 := hbg (7 * spot) (by lia) (by lia)
    refine s_seq (s_ret (pv_ok _ _ _ (mod_ok (sp := spN tab02 n) (mod_ok (sp := spN tab02 n) (add_ok (add_ok (mul_ok (mul_ok (a := 7) (b := spot) rfl rfl ⟨h7.1, h7.2, hs1.1, hs1.2⟩) (b := spot) rfl ⟨hs7.1, hs7.2, hs1.1, hs1.2⟩) (mul_ok (a := 3) (b := spot) rfl rfl ⟨h3.1, h3.2, hs1.1, hs1.2⟩)) (len_pv rfl (ln_zs hcl))) (b := 97) rfl (by decide)) (b := b) rfl hb) (q _ (Int.emod_nonneg _ (by lia)) (Int.emod_lt_of_pos _ hb))))
theorem pow_ok {x y : X} {m : List V} {k : Nat} (hx : x.pv m H = some (.int 2)) (hy : y.pv m H = some (.int k)) (hk : k ≤ 60) : (X.bin .pow x y).pv m H = some (.int (2 ^ k : Nat)) := by
  refine pvb hx (pvb hy ?_)
  show (gdP ((2 : Int) = 2 ∧ 0 ≤ (k : Int) ∧ (k : Int) ≤ 60) ((2 : Int) ^ (k : Int).toNat)).map V.int = _
  rw [gdP_mk ⟨rfl, by lia, by lia⟩, Int.toNat_natCast]
  show some (V.int ((2 : Int) ^ k)) = _
  rw [Int.natCast_pow]; rfl
theorem fdiv_ok {x y : X} {m : List V} {a b : Int} (hx : x.pv m H = some (.int a)) (hy : y.pv m H = some (.int b)) (h : 0 < b ∧ b ≤ 1000000000) : (X.bin .fdiv x y).pv m H = some (.int (a / b)) := by
  refine pvb hx (pvb hy ?_)
  show (gdP (0 < b ∧ b ≤ 1000000000) (a / b)).map V.int = _
  rw [gdP_mk h]; rfl
theorem e_lcr {sp : Sp} {m : List V} {mask : List Bool} {x y cond b : X} {lo hi : Int} (hx : x.pv m H = some (.int lo)) (hy : y.pv m H = some (.int hi)) (b1 : -big ≤ lo ∧ lo < big) (b2 : -big ≤ hi ∧ hi < big)
    (h : cloop (fun _ => True) (fun x H acc K => cond.ev sp (mskd m mask ++ [x]) H fun v H => ifB v (X.cw sp b (mskd m mask ++ [x]) H acc K) (K acc H)) (rngL lo hi) H [] fun acc H => ∀ a, H a = none → Q (.ref a) (H.set a (.lst acc))) : (X.lcomp mask (.rng x y) cond b).ev sp m H Q := by
  exact pv_ok x _ (fun v H => y.ev sp m H fun w H => ifS v.i? fun i => ifS w.i? fun j => _) hx (pv_ok y _ _ hy (ifS_mk (x := lo) rfl (ifS_mk (x := hi) rfl ⟨b1.1, b1.2, b2.1, b2.2, h⟩)))
theorem cond_pv {sp : Sp} {m : List V} {c : X} {b : Bool} {T F : AH → Prop} (h : c.pv m H = some (.bool b)) (h1 : b = true → T H) (h2 : b = false → F H) : c.ev sp m H fun v H => ifB v (T H) (F H) := by
  refine pv_ok c _ _ h (ifS_mk (o := (V.bool b).b?) rfl ?_)
  cases b
  · exact h2 rfl
  · exact h1 rfl
theorem binW_i {a b : Int} (q : Q (.int (a + b)) H) : binW H .add (.int a) (.int b) Q := q
noncomputable def Lits (N : Nat) (c : List Int) : Prop := (∀ x ∈ c, x ≠ 0 ∧ x.natAbs ≤ N) ∧ c.length ≤ N
set_option maxHeartbeats 1000000 in
theorem c_clause {N : Nat} (h : Fd H0 H fd cl cells spot) (hs : spot + 2 < 100000) (hN0 : 1 ≤ N) (hN : N ≤ 5) (q : ∀ H' y c, Fd H0 H' fd cl cells (spot + 2) → H0 y = none → H' y = some (.tup (zs c)) → Lits N c → Q (.ref y) H') : spN tab02 (n + 2) 22 [.ref fd, .int N] H Q := by
  have hp : ∀ {m : List V} {H' : AH}, m[1]? = some (.int (N : Nat)) → (X.bin .pow (.c (.int 2)) (.loc 1)).pv m H' = some (.int (2 ^ N : Nat)) := fun h => pow_ok rfl (pvb h rfl) (by lia)
  have h2N : 2 ≤ 2 ^ N := by
    have := Nat.pow_le_pow_right (n := 2) (by decide) hN0
    lia
  refine sp_go rfl rfl (s_seq (s_asgN (e_cons (e_bin (pv_ok (.c (.int 1)) (.int 1) _ rfl (e_callG (e_cons (pv_ok (.loc 0) (.ref fd) _ rfl (e_cons (pv_ok _ (.int ((2 ^ N : Nat) - 1)) _ (sub_ok (hp rfl) rfl) (e_nil (c_draw h (by lia) fun r hr0 hr1 => binW_i ?_))))))))))))
  have h1 := h.step (by lia)
  refine e_cons (e_callG (e_cons (pv_ok (.loc 0) (.ref fd) _ rfl (e_cons (pv_ok _ (.int (2 ^ N : Nat)) _ (hp rfl) (e_nil (c_draw h1 (by lia) fun t ht0 ht1 => e_nil ⟨rfl, ?_⟩)))))))
  have h2 := h1.step (by lia)
  generalize ((H.set fd (fdO cl (spot + 1))).set fd (fdO cl (spot + 1 + 1))) = H1 at h2
  have hbN : -big ≤ (N : Int) ∧ (N : Int) < big := ⟨by unfold big; lia, by unfold big; lia⟩
  have h60 : (60 : Nat) < sz := by decide
  have hdm : ∀ {m : List V} {H' : AH} {z : Int} {i j : Nat}, m[j]? = some (.int z) → m[5]? = some (.int (i : Nat)) → i ≤ 29 → ∃ b, (X.cmp .eq (.bin .mod (.bin .fdiv (.loc j) (.bin .pow (.c (.int 2)) (.loc 5))) (.c (.int 2))) (.c (.int 1))).pv m H' = some (.bool b) := fun {m H' z i j} hj h5 hi => by
    have hpow : (2 ^ i : Nat) ≤ 2 ^ 29 := Nat.pow_le_pow_right (by decide) hi
    have hpos : 0 < 2 ^ i := Nat.pow_pos (by decide)
    exact ⟨_, pvb (mod_ok (sp := spN tab02 n) (fdiv_ok (pvb hj rfl) (pow_ok rfl (pvb h5 rfl) (by lia)) ⟨by lia, by lia⟩) rfl (by decide)) (pvb rfl (pcm eq_ii))⟩
  refine s_seq (s_asg (e_lcr (lo := 0) (hi := (N : Nat)) rfl rfl (by decide) hbN ?_))
  refine cloop_ind (fun i acc H' => H' = H1 ∧ ∃ (ks : List Nat), An3 (acc = nz ks) (ks.length ≤ i) (∀ k ∈ ks, k < N)) _ (fun i v acc H' K hv hI hK => ⟨trivial, ?_⟩) (fun acc H' hI => ⟨trivial, ?_⟩) ⟨rfl, [], rfl, Nat.le_refl _, fun k h => (by cases h)⟩
  · obtain ⟨rfl, ks, rfl, hl, hks⟩ := hI
    obtain ⟨rfl, hi⟩ := rng_at hv
    have hi : i < N := by lia
    have e0 : (0 : Int) + (i : Int) = (i : Int) := Int.zero_add _
    rw [e0]
    obtain ⟨b, hb⟩ := hdm (m := [.un, .un, .int (1 + r), .un, .un, .int (i : Nat)]) (H' := H') (j := 2) rfl rfl (by lia)
    refine cond_pv hb (fun _ => ?_) fun _ => hK _ _ ⟨rfl, ks, rfl, by lia, hks⟩
    · refine pv_ok (.loc 5) (.int (i : Nat)) _ rfl ⟨by rw [nz_len]; lia, hK _ _ ⟨rfl, ks ++ [i], (nz_app (r := [i])).symm, by rw [List.length_append, List.length_singleton]; lia, fun k hk => ?_⟩⟩
      rcases List.mem_append.mp hk with hk | hk
      · exact hks k hk
      · rw [List.mem_singleton.mp hk]; exact hi
  · obtain ⟨rfl, ks, rfl, hl, hks⟩ := hI
    rw [rng_len] at hl
    intro y hy
    have h3 := h2.new (o := .lst (nz ks)) hy
    have hyl : (H'.set y (.lst (nz ks))) y = some (.lst (nz ks)) := set_eq
    generalize (H'.set y (.lst (nz ks))) = H3 at h3 hyl
    refine s_seq (s_ret (e_bi (e_cons (e_lc (pv_ok (.loc 4) (.ref y) _ rfl (it_l hyl ?_))))))
    refine cloop_ind (fun i acc H' => H' = H3 ∧ ∃ (c : List Int), An3 (acc = zs c) (c.length ≤ i) (∀ x ∈ c, x ≠ 0 ∧ x.natAbs ≤ N)) _ (fun i v acc H' K hv hI hK => ⟨?_, ?_⟩) (fun acc H' hI => ⟨?_, ?_⟩) ⟨rfl, [], rfl, Nat.le_refl _, fun k h => (by cases h)⟩
    · obtain ⟨rfl, _⟩ := hI
      exact see_lst hyl
    · obtain ⟨rfl, c, rfl, hcl, hc⟩ := hI
      obtain ⟨k, hk, rfl⟩ : ∃ k : Nat, k ∈ ks ∧ v = .int k := by
        obtain ⟨k, hk, e⟩ := List.mem_map.mp (List.mem_of_getElem? hv)
        exact ⟨k, hk, e.symm⟩
      have hkN := hks k hk
      have hiN : i < N := by
        have := (List.getElem?_eq_some_iff.mp hv).1
        rw [nz_len] at this; lia
      obtain ⟨b, hb⟩ := hdm (m := [.un, .un, .un, .int t, .un, .int (k : Nat)]) (H' := H') (j := 3) rfl rfl (by lia)
      have hadd : ∀ x : Int, x ≠ 0 → x.natAbs ≤ N → (∀ y ∈ c ++ [x], y ≠ 0 ∧ y.natAbs ≤ N) := fun x h1 h2 y hy => by
        rcases List.mem_append.mp hy with hy | hy
        · exact hc y hy
        · rw [List.mem_singleton.mp hy]; exact ⟨h1, h2⟩
      refine pvT (e_ite hb (fun _ => ?_) fun _ => ?_)
      · exact pv_ok _ (.int (-((k : Int) + 1))) _ rfl ⟨by rw [zs_len]; lia, hK _ _ ⟨rfl, c ++ [-((k : Int) + 1)], (zs_app (r := [-((k : Int) + 1)])).symm, by rw [List.length_append, List.length_singleton]; lia, hadd _ (by lia) (by lia)⟩⟩
      · exact pv_ok _ (.int ((k : Int) + 1)) _ rfl ⟨by rw [zs_len]; lia, hK _ _ ⟨rfl, c ++ [(k : Int) + 1], (zs_app (r := [(k : Int) + 1])).symm, by rw [List.length_append, List.length_singleton]; lia, hadd _ (by lia) (by lia)⟩⟩
    · obtain ⟨rfl, _⟩ := hI
      exact see_lst hyl
    · obtain ⟨rfl, c, rfl, hcl, hc⟩ := hI
      rw [nz_len] at hcl
      intro z hz
      have h4 := h3.new (o := .lst (zs c)) hz
      refine e_nil (tt_l set_eq fun w hw => ?_)
      have h5 := h4.new (o := .tup (zs c)) hw
      refine q _ w c h5 ?_ set_eq ⟨hc, by lia⟩
      cases hh : H0 w with
      | none => rfl
      | some o =>
        exfalso
        by_cases e : w = fd
        · rw [e, h4.fd] at hw; cases hw
        · rw [h4.ext w o hh e] at hw; cases hw
theorem e_iteE {sp : Sp} {m : List V} {c x y : X} (h : c.ev sp m H (brW (fun H => x.ev sp m H Q) fun H => y.ev sp m H Q)) : (X.ite c x y).ev sp m H Q := h
theorem c_literal {N : Nat} (h : Fd H0 H fd cl cells spot) (hs : spot + 2 < 100000) (hN0 : 1 ≤ N) (q : ∀ H' l, Fd H0 H' fd cl cells (spot + 2) → l ≠ 0 → l.natAbs ≤ N → Q (.int l) H') : spN tab02 (n + 2) 23 [.ref fd, .int N] H Q := by
  refine sp_go rfl rfl (s_seq (s_asg (e_bin (pv_ok (.c (.int 1)) (.int 1) _ rfl (e_callG (e_cons (pv_ok (.loc 0) (.ref fd) _ rfl (e_cons (pv_ok (.loc 1) (.int N) _ rfl (e_nil (c_draw h (by lia) fun r hr0 hr1 => binW_i ?_)))))))))))
  have h1 := h.step (by lia)
  refine s_seq (s_ret ?_)
  refine e_iteE (e_cmp (e_callG (e_cons (pv_ok (.loc 0) (.ref fd) _ rfl (e_cons (pv_ok (.c (.int 2)) (.int 2) _ rfl (e_nil (c_draw h1 (by decide) fun t ht0 ht1 => ?_))))))))
  have h2 := h1.step (by lia)
  refine pv_ok (.c (.int 0)) (.int 0) _ rfl (cmpW_i eq_ii ?_)
  cases decide (t = 0)
  · refine (?_ : (X.neg (.loc 2)).ev (spN tab02 (n + 1)) [.ref fd, .int N, .int (1 + r)] _ Q)
    exact pv_ok _ (.int (-(1 + r))) _ rfl (q _ _ h2 (by lia) (by lia))
  · refine (?_ : (X.loc 2).ev (spN tab02 (n + 1)) [.ref fd, .int N, .int (1 + r)] _ Q)
    exact pv_ok _ (.int (1 + r)) _ rfl (q _ _ h2 (by lia) (by lia))
end
end Mine
end
section
open PySem PySem.W
set_option tactic.hygienic false
namespace Mine
noncomputable def bz (l : List Bool) : List V := l.map .bool
noncomputable def okL (r : List Bool) (l : Int) : Bool := decide (r[l.natAbs - 1]? = some (decide (0 < l)))
noncomputable def satR (r : List Bool) (c : List Int) : Bool := c.any (okL r)
structure Rw (H : AH) (v : Addr) (P : List (Addr × List Bool)) : Prop where
  at_ : H v = some (.lst (P.map fun p => .ref p.1))
  each : ∀ p ∈ P, H p.1 = some (.tup (bz p.2))
theorem Rw.ext {H H' : AH} {v : Addr} {P : List (Addr × List Bool)} (h : Rw H v P) (E : Ext H H') : Rw H' v P := ⟨E _ _ h.at_, fun p hp => E _ _ (h.each p hp)⟩
theorem mem_bz {H : AH} {l : List Bool} : memL H (bz l) (.bool true) = some (l.any id) := by
  have h1 : ∃ ds, allSome ((bz l).map (rd H 2)) = some ds ∧ (ds.any fun y => PyData.eqv y (.bool true)) = l.any id := by
    induction l with
    | nil => exact ⟨[], rfl, rfl⟩
    | cons b l ih =>
      obtain ⟨ds, h2, h3⟩ := ih
      refine ⟨.bool b :: ds, ?_, ?_⟩
      · show (allSome ((bz l).map (rd H 2))).map _ = _
        rw [h2]; rfl
      · rw [List.any_cons, List.any_cons, h3]
        congr 1
        cases b <;> rfl
  obtain ⟨ds, h2, h3⟩ := h1
  unfold memL
  rw [h2]
  show some (ds.any fun y => PyData.eqv y (.bool true)) = _
  rw [h3]
section
variable {n : Nat} {H : AH} {Q : V → AH → Prop} {N : Nat}
theorem c_kept {rv cb : Addr} {P : List (Addr × List Bool)} {o : O} {c : List Int} (hr : Rw H rv P) (hc : H cb = some o) (ho : o = .lst (zs c) ∨ o = .tup (zs c)) (hlen : ∀ p ∈ P, p.2.length = N) (hcz : ∀ x ∈ c, x ≠ 0 ∧ x.natAbs ≤ N) (hcl : c.length ≤ 1000) (hPl : P.length ≤ 1000)
    (q : ∀ H' y, Ext H H' → H y = none → Rw H' y (P.filter fun p => satR p.2 c) → Q (.ref y) H') : spN tab02 (n + 1) 24 [.ref rv, .ref cb] H Q := by
  have hsz : (2000 : Nat) < sz := by decide
  refine sp_go rfl rfl (s_seq (s_ret (e_lc (pv_ok (.loc 0) (.ref rv) _ rfl (it_l hr.at_ ?_)))))
  refine cloop_ind (fun i acc H' => Ext H H' ∧ acc = ((P.take i).filter fun p => satR p.2 c).map fun p => .ref p.1) _ (fun i v acc H' K hv hI hK => ?_) (fun acc H' hI => ?_) ⟨.refl, rfl⟩
  · obtain ⟨E, rfl⟩ := hI
    rw [List.getElem?_map] at hv
    obtain ⟨p, hp, rfl⟩ := Option.map_eq_some_iff.mp hv
    have hpm := List.mem_of_getElem? hp
    have hpt := E _ _ (hr.each p hpm)
    have hpl := hlen p hpm
    refine ⟨see_lst (E _ _ hr.at_), e_cmp (pv_ok (.c (.bool true)) (.bool true) _ rfl (e_lc (pv_ok (.loc 1) (.ref cb) _ rfl (it_lt (E _ _ hc) ho ?_))))⟩
    refine cloop_ind (fun j acc2 H2 => H2 = H' ∧ acc2 = bz ((c.take j).map (okL p.2))) _ (fun j v acc2 H2 K2 hv2 hI2 hK2 => ?_) (fun acc2 H2 hI2 => ?_) ⟨rfl, rfl⟩
    · obtain ⟨rfl, rfl⟩ := hI2
      obtain ⟨x, hx, rfl⟩ := zs_at hv2
      have hx0 := hcz x (List.mem_of_getElem? hx)
      have hlt : x.natAbs - 1 < p.2.length := by lia
      have hb : p.2[x.natAbs - 1]? = some p.2[x.natAbs - 1] := List.getElem?_eq_getElem hlt
      generalize p.2[x.natAbs - 1] = b at hb
      have hok : okL p.2 x = (b == decide (0 < x)) := by
        unfold okL
        rw [hb]
        cases b <;> cases decide (0 < x) <;> rfl
      have e1 : (X.bin .sub (.bi .abs [(.loc 3)]) (.c (.int 1))).pv [.un, .un, .ref p.1, .int x] H2 = some (.int (x.natAbs - 1 : Nat)) := by
        refine pvb (abs_pv (i := x) rfl) (pvb (x := .int 1) rfl ?_)
        show some (V.int ((x.natAbs : Int) - 1)) = _
        congr 2; lia
      have e2 : (bz p.2)[x.natAbs - 1]? = some (.bool b) := by
        unfold bz
        rw [List.getElem?_map, hb]; rfl
      have hgt : (X.cmp .gt (.loc 3) (.c (.int 0))).pv [.un, .un, .ref p.1, .int x] H2 = some (.bool (decide (0 < x))) := rfl
      have hpv : (X.cmp .eq (.sub (.loc 2) (.bin .sub (.bi .abs [(.loc 3)]) (.c (.int 1)))) (.cmp .gt (.loc 3) (.c (.int 0)))).pv [.un, .un, .ref p.1, .int x] H2 = some (.bool (okL p.2 x)) := by
        refine pvb (x := .bool b) (pvb (x := .ref p.1) rfl (pvb e1 (sb_t hpt (idx_nat e2)))) (pvb (x := .bool (decide (0 < x))) hgt (pcm ?_))
        rw [hok]; rfl
      refine ⟨see_lt (E _ _ hc) ho, pvT (pv_ok _ (.bool (okL p.2 x)) _ hpv ⟨?_, hK2 _ _ ⟨rfl, ?_⟩⟩)⟩
      · unfold bz
        rw [List.length_map, List.length_map, List.length_take]
        have := (List.getElem?_eq_some_iff.mp hx).1
        lia
      · rw [List.take_add_one, hx, List.map_append]
        unfold bz
        rw [List.map_append]; rfl
    · obtain ⟨rfl, rfl⟩ := hI2
      rw [zs_len, List.take_length]
      refine ⟨see_lt (E _ _ hc) ho, fun w hw => ?_⟩
      have E2 : Ext H (H2.set w (.lst (bz (c.map (okL p.2))))) := E.new (E.none hw)
      refine cmpW_i (b := satR p.2 c) ?_ ?_
      · show (AH.see _ w).bind _ = _
        rw [see_lst (l := bz (c.map (okL p.2))) set_eq]
        refine mem_bz.trans ?_
        unfold satR
        rw [List.any_map]; rfl
      · have hle : ((((P.take i).filter fun p => satR p.2 c).map fun p => V.ref p.1)).length < sz := by
          rw [List.length_map]
          have h7 := List.length_filter_le (fun p : Addr × List Bool => satR p.2 c) (P.take i)
          rw [List.length_take] at h7
          lia
        cases hs : satR p.2 c
        · refine hK _ _ ⟨E2, ?_⟩
          rw [List.take_add_one, hp, List.filter_append, List.map_append]
          show _ = _ ++ List.map _ ([p].filter _)
          rw [List.filter_cons, if_neg (by rw [hs]; decide)]; simp
        · refine (?_ : _ ∧ _)
          refine ⟨hle, hK _ _ ⟨E2, ?_⟩⟩
          rw [List.take_add_one, hp, List.filter_append, List.map_append]
          show _ = _ ++ List.map _ ([p].filter _)
          rw [List.filter_cons, if_pos hs]; rfl
  · obtain ⟨E, rfl⟩ := hI
    rw [List.length_map, List.take_length]
    refine ⟨see_lst (E _ _ hr.at_), fun y hy => ?_⟩
    have hyH : H y = none := E.none hy
    have E2 := E.new (o := .lst ((P.filter fun p => satR p.2 c).map fun p => .ref p.1)) hyH
    exact q _ y E2 hyH ⟨set_eq, fun p hp => E2 _ _ (hr.each p (List.mem_filter.mp hp).1)⟩
theorem c_all {rv ab : Addr} {P : List (Addr × List Bool)} {o : O} {asked : List Int} (hr : Rw H rv P) (hc : H ab = some o) (ho : o = .lst (zs asked) ∨ o = .tup (zs asked)) (hlen : ∀ p ∈ P, p.2.length = N) (hcz : ∀ x ∈ asked, x ≠ 0 ∧ x.natAbs ≤ N) (hPl : P.length ≤ 1000)
    (q : ∀ H' y, Ext H H' → Rw H' y (P.filter fun p => asked.all (okL p.2)) → Q (.ref y) H') : spN tab02 (n + 2) 25 [.ref rv, .ref ab] H Q := by
  refine sp_go rfl rfl (s_seq (s_asg (pv_ok (.loc 0) (.ref rv) _ rfl ?_)))
  refine s_seq (s_for (pv_ok (.loc 1) (.ref ab) _ rfl (it_lt hc ho ?_)))
  have h0 : (P.filter fun p => (asked.take 0).all (okL p.2)) = P := List.filter_eq_self.mpr fun p _ => rfl
  refine floop_ind (fun i m H' => Ex2 fun (y : Addr) (z : V) => An3 (m = [.ref rv, .ref ab, .ref y, z]) (Ext H H') (Rw H' y (P.filter fun p => (asked.take i).all (okL p.2)))) _ (fun i v m H' K hv hI hK => ?_) (fun m H' hI => ?_) ⟨rv, .un, rfl, .refl, by rw [h0]; exact hr⟩
  · refine nn fun hC => ?_
    obtain ⟨y, z, rfl, E, hy⟩ := hI
    obtain ⟨x, hx, rfl⟩ := zs_at hv
    refine hC ?_
    have hx0 := hcz x (List.mem_of_getElem? hx)
    refine ⟨see_lt (E _ _ hc) ho, s_seq (s_asg (e_callG (e_cons (pv_ok (.loc 2) (.ref y) _ rfl (e_cons (e_tup (e_cons (pv_ok (.loc 3) (.int x) _ rfl (e_nil fun w hw => e_nil ?_)))))))))⟩
    have E2 := E.new (o := .tup [.int x]) (E.none hw)
    have hE : Ext H' (H'.set w (.tup [.int x])) := Ext.refl.new hw
    refine c_kept (N := N) (c := [x]) (hy.ext hE) set_eq (.inr rfl) (fun p hp => hlen p (List.mem_filter.mp hp).1) (fun x' hx' => by rw [List.mem_singleton.mp hx']; exact hx0) (by simp) (Nat.le_trans (List.length_filter_le ..) hPl) fun H3 y3 E3 _ h3 => s_skip (hK _ _ ⟨y3, _, rfl, E2.trans E3, ?_⟩)
    rw [List.filter_filter] at h3
    have e : (fun p : Addr × List Bool => satR p.2 [x] && (asked.take i).all (okL p.2)) = fun p => (asked.take (i + 1)).all (okL p.2) := by
      funext p
      rw [List.take_add_one, hx, List.all_append]
      show ((okL p.2 x || false) && _) = (_ && (okL p.2 x && true))
      rw [Bool.or_false, Bool.and_true, Bool.and_comm]
    rw [e] at h3; exact h3
  · refine nn fun hC => ?_
    obtain ⟨y, z, rfl, E, hy⟩ := hI
    refine hC ?_
    rw [zs_len, List.take_length] at hy
    exact ⟨see_lt (E _ _ hc) ho, s_seq (s_ret (pv_ok (.loc 2) (.ref y) _ rfl (q _ y E hy)))⟩
end
end Mine
end
section
open PySem PySem.W
set_option tactic.hygienic false
namespace Mine
theorem allSome_mapS {α β : Type} {f : α → Option β} {g : α → β} : ∀ {l : List α}, (∀ v ∈ l, f v = some (g v)) → allSome (l.map f) = some (l.map g)
  | [], _ => rfl
  | v :: l, h => by
    rw [List.map_cons, h v (List.mem_cons_self ..)]
    show (allSome (l.map f)).map (g v :: ·) = _
    rw [allSome_mapS fun w hw => h w (List.mem_cons_of_mem _ hw)]; rfl
theorem rd_i {H : AH} {n : Nat} {i : Int} : rd H n (.int i) = some (.int i) := by cases n <;> rfl
theorem rd_b {H : AH} {n : Nat} {b : Bool} : rd H n (.bool b) = some (.bool b) := by cases n <;> rfl
theorem as_zs {H : AH} {n : Nat} {l : List Int} : allSome ((zs l).map (rd H n)) = some (l.map .int) := by
  unfold zs
  rw [List.map_map]
  exact allSome_mapS fun x _ => rd_i
theorem as_bz {H : AH} {n : Nat} {l : List Bool} : allSome ((bz l).map (rd H n)) = some (l.map .bool) := by
  unfold bz
  rw [List.map_map]
  exact allSome_mapS fun x _ => rd_b
theorem eqvAll_map {α : Type} {f : α → PyData} (h : ∀ x y, PyData.eqv (f x) (f y) = true ↔ x = y) : ∀ {l l' : List α}, PyData.eqvAll (l.map f) (l'.map f) = true ↔ l = l'
  | [], [] => by simp [PyData.eqvAll]
  | [], _ :: _ => by simp [PyData.eqvAll]
  | _ :: _, [] => by simp [PyData.eqvAll]
  | x :: l, y :: l' => by
    rw [List.map_cons, List.map_cons, PyData.eqvAll, Bool.and_eq_true, h, eqvAll_map h, List.cons.injEq]
theorem eqv_int (x y : Int) : PyData.eqv (.int x) (.int y) = true ↔ x = y := by
  rw [PyData.eqv]; exact beq_iff_eq
theorem eqv_bool (x y : Bool) : PyData.eqv (.bool x) (.bool y) = true ↔ x = y := by
  rw [PyData.eqv]; exact beq_iff_eq
section
variable {H : AH} {a b : Addr}
theorem rd_l {n : Nat} {l : List V} {ds : List PyData} (h : H a = some (.lst l)) (e : allSome (l.map (rd H n)) = some ds) : rd H (n + 1) (.ref a) = some (.list ds) := by
  show (H.see a).bind _ = _
  rw [see_lst h]
  show (allSome (l.map (rd H n))).map PyData.list = _
  rw [e]; rfl
theorem rd_t {n : Nat} {l : List V} {ds : List PyData} (h : H a = some (.tup l)) (e : allSome (l.map (rd H n)) = some ds) : rd H (n + 1) (.ref a) = some (.tuple ds) := by
  show (H.see a).bind _ = _
  rw [see_tup h]
  show (allSome (l.map (rd H n))).map PyData.tuple = _
  rw [e]; rfl
theorem eq_of {v w : V} {d e : PyData} (h : rd H 3 v = some d) (h' : rd H 3 w = some e) : cmpV H .eq v w = some (PyData.eqv d e) := by
  show (rd H 3 v).bind _ = _
  rw [h, h']; rfl
theorem ne_of {v w : V} {d e : PyData} (h : rd H 3 v = some d) (h' : rd H 3 w = some e) : cmpV H .ne v w = some (!PyData.eqv d e) := by
  show ((rd H 3 v).bind _).map (!·) = _
  rw [h, h']; rfl
theorem ne_nil {l : List V} {ds : List PyData} (h : H a = some (.lst l)) (e : allSome (l.map (rd H 2)) = some ds) (h' : H b = some (.lst [])) : cmpV H .ne (.ref a) (.ref b) = some (!ds.isEmpty) := by
  rw [ne_of (rd_l h e) (rd_l (ds := []) h' rfl)]
  cases ds <;> rfl
theorem tup_eq {l l' : List Int} (h : H a = some (.tup (zs l))) (h' : H b = some (.tup (zs l'))) : cmpV H .eq (.ref a) (.ref b) = some (decide (l = l')) := by
  rw [eq_of (rd_t h as_zs) (rd_t h' as_zs)]
  congr 1
  rw [PyData.eqv]
  have := eqvAll_map eqv_int (l := l) (l' := l')
  by_cases e : l = l'
  · rw [this.mpr e, decide_eq_true e]
  · rw [decide_eq_false e]
    cases hh : PyData.eqvAll (l.map .int) (l'.map .int)
    · rfl
    · exact absurd (this.mp hh) e
theorem mem_zs {l : List Int} {x : Int} : memL H (zs l) (.int x) = some (decide (x ∈ l)) := by
  unfold memL
  rw [as_zs, rd_i]
  show some ((l.map PyData.int).any fun y => PyData.eqv y (.int x)) = _
  rw [List.any_map]
  congr 1
  induction l with
  | nil => rfl
  | cons y l ih =>
    rw [List.any_cons, ih]
    show (PyData.eqv (.int y) (.int x) || _) = _
    rw [show PyData.eqv (.int y) (.int x) = decide (y = x) by
      by_cases e : y = x
      · rw [(eqv_int y x).mpr e, decide_eq_true e]
      · rw [decide_eq_false e]
        cases hh : PyData.eqv (.int y) (.int x)
        · rfl
        · exact absurd ((eqv_int y x).mp hh) e]
    rw [← Bool.decide_or]
    exact decide_eq_decide.mpr (by rw [List.mem_cons, eq_comm])
theorem mem_ll {l : List Int} {x : Int} (h : H a = some (.lst (zs l))) : memV H (.int x) (.ref a) = some (decide (x ∈ l)) := by
  show (H.see a).bind _ = _
  rw [see_lst h]; exact mem_zs
theorem mem_tt {l : List Int} {x : Int} (h : H a = some (.tup (zs l))) : memV H (.int x) (.ref a) = some (decide (x ∈ l)) := by
  show (H.see a).bind _ = _
  rw [see_tup h]; exact mem_zs
theorem as_rw {v : Addr} {P : List (Addr × List Bool)} (h : Rw H v P) : allSome ((P.map fun p => V.ref p.1).map (rd H 2)) = some (P.map fun p => .tuple (p.2.map .bool)) := by
  rw [List.map_map]
  exact allSome_mapS fun p hp => rd_t (h.each p hp) as_bz
theorem rw_mem {v : Addr} {P : List (Addr × List Bool)} {r : List Bool} (h : Rw H v P) (hb : H b = some (.tup (bz r))) (hr : ∃ p ∈ P, p.2 = r) : memV H (.ref b) (.ref v) = some true := by
  show (H.see v).bind _ = _
  rw [see_lst h.at_]
  show memL H _ _ = _
  unfold memL
  rw [as_rw h, rd_t hb as_bz]
  show some ((P.map fun p => PyData.tuple (p.2.map .bool)).any fun y => PyData.eqv y (.tuple (r.map .bool))) = _
  congr 1
  obtain ⟨p, hp, rfl⟩ := hr
  rw [List.any_eq_true]
  refine ⟨_, List.mem_map_of_mem hp, ?_⟩
  show PyData.eqv (.tuple (p.2.map .bool)) (.tuple (p.2.map .bool)) = true
  rw [PyData.eqv]
  exact (eqvAll_map eqv_bool).mpr rfl
end
noncomputable def al (r : List Bool) (v : Nat) : Bool := r.getD (v - 1) false
theorem okL_iff {r : List Bool} {l : Int} (h0 : l ≠ 0) (hl : l.natAbs ≤ r.length) : okL r l = true ↔ ltr (al r) l := by
  have hlt : l.natAbs - 1 < r.length := by lia
  unfold okL ltr al
  rw [List.getD_eq_getElem?_getD, List.getElem?_eq_getElem hlt]
  simp
structure RM (N : Nat) (P : List (Addr × List Bool)) (M : (Nat → Bool) → Prop) : Prop where
  len : ∀ p ∈ P, p.2.length = N
  mod : ∀ p ∈ P, M (al p.2)
  all : ∀ r : List Bool, r.length = N → M (al r) → ∃ p ∈ P, p.2 = r
theorem RM.none {N : Nat} {P : List (Addr × List Bool)} {M : (Nat → Bool) → Prop} (R : RM N P M) {l : List Int} (hz : ∀ x ∈ l, x ≠ 0 ∧ x.natAbs ≤ N) (h : ∀ α, M α → ¬ ∀ x ∈ l, ltr α x) : (P.filter fun p => l.all (okL p.2)) = [] := by
  rw [List.filter_eq_nil_iff]
  intro p hp hh
  rw [List.all_eq_true] at hh
  exact h _ (R.mod p hp) fun x hx => (okL_iff (hz x hx).1 (by rw [R.len p hp]; exact (hz x hx).2)).mp (hh x hx)
theorem ord_uniq {l : List Int} : ∀ {c c' : List Int}, (c.map Int.natAbs).Nodup → (c'.map Int.natAbs).Nodup → c.Pairwise (fun a b => a.natAbs ≤ b.natAbs) → c'.Pairwise (fun a b => a.natAbs ≤ b.natAbs) → (∀ x, x ∈ c ↔ x ∈ c') → c = c'
  | [], [], _, _, _, _, _ => rfl
  | [], y :: c', _, _, _, _, h => absurd ((h y).mpr (List.mem_cons_self ..)) (by simp)
  | x :: c, [], _, _, _, _, h => absurd ((h x).mp (List.mem_cons_self ..)) (by simp)
  | x :: c, y :: c', n, n', s, s', h => by
    have hxy : x = y := by
      have h1 := (h x).mp (List.mem_cons_self ..)
      have h2 := (h y).mpr (List.mem_cons_self ..)
      rcases List.mem_cons.mp h1 with e | h1
      · exact e
      · rcases List.mem_cons.mp h2 with e | h2
        · exact e.symm
        · have a1 := (List.pairwise_cons.mp s).1 y h2
          have a2 := (List.pairwise_cons.mp s').1 x h1
          have : x.natAbs = y.natAbs := Nat.le_antisymm a1 a2
          exact nd_inj n (List.mem_cons_self ..) (List.mem_cons_of_mem _ h2) this
    subst hxy
    rw [List.map_cons, List.nodup_cons] at n n'
    congr 1
    refine ord_uniq (l := l) n.2 n'.2 (List.pairwise_cons.mp s).2 (List.pairwise_cons.mp s').2 fun z => ?_
    constructor
    · intro hz
      rcases List.mem_cons.mp ((h z).mp (List.mem_cons_of_mem _ hz)) with rfl | hz'
      · exact absurd (List.mem_map_of_mem hz) n.1
      · exact hz'
    · intro hz
      rcases List.mem_cons.mp ((h z).mpr (List.mem_cons_of_mem _ hz)) with rfl | hz'
      · exact absurd (List.mem_map_of_mem hz) n'.1
      · exact hz'
end Mine
end
section
open PySem PySem.W
set_option tactic.hygienic false
namespace Mine
noncomputable def Oth (H0 H : AH) (lay : Ro → Addr) (s : St) : Prop := ∀ y o, H0 y = some o → H y = some o ∧ ¬ fp lay s y
theorem Oth.sf {H0 H H' : AH} {lay lay' : Ro → Addr} {s s' : St} (h : Oth H0 H lay s) (So : Sol H lay s) (h' : SF H lay s H' lay' s') : Oth H0 H' lay' s' := fun y o hy => So.out h'.2 (h y o hy).1 (h y o hy).2
theorem Oth.ext {H0 H H' : AH} {lay : Ro → Addr} {s : St} (h : Oth H0 H lay s) (E : Ext H H') : Oth H0 H' lay s := fun y o hy => ⟨E _ _ (h y o hy).1, (h y o hy).2⟩
theorem Oth.rw {H0 H : AH} {lay : Ro → Addr} {s : St} (h : Oth H0 H lay s) {v : Addr} {P : List (Addr × List Bool)} (r : Rw H0 v P) : Rw H v P := ⟨(h _ _ r.at_).1, fun p hp => (h _ _ (r.each p hp)).1⟩
noncomputable def kb (s : St) (v : Int) : Bool := match get s.kn v with
  | some (.bool b) => b
  | _ => false
noncomputable def row0 (s : St) (N : Nat) : List Bool := (List.range N).map fun (i : Nat) => kb s (1 + (i : Int))
section
variable {N : Nat} {M : (Nat → Bool) → Prop} {s : St} {asked : List Int}
theorem row0_len : (row0 s N).length = N := by unfold row0; rw [List.length_map, List.length_range]
theorem row0_al {v : Nat} (h1 : 1 ≤ v) (h2 : v ≤ N) : al (row0 s N) v = kb s v := by
  unfold al row0
  rw [List.getD_eq_getElem?_getD, List.getElem?_map, List.getElem?_range (by lia)]
  show kb s (1 + ((v - 1 : Nat) : Int)) = _
  congr 1; lia
theorem Win.model (W : Win N asked s) (S : Stb N M s) : M (al (row0 s N)) ∧ ∀ l ∈ asked, ltr (al (row0 s N)) l := by
  obtain ⟨cv, wi, pr⟩ := S.g W.ref
  have C := S.c
  have hin : ∀ l ∈ s.ro, ltr (al (row0 s N)) l := fun l hl => by
    have hz := C.td.nz l hl
    unfold ltr
    rw [row0_al (by lia) hz.2]
    unfold kb
    rw [(C.td.kn l.natAbs (.bool (decide (0 < l)))).mpr ⟨l, hl, rfl, rfl⟩]
  have hor : ∀ l : Int, l ≠ 0 → l.natAbs ≤ N → l ∈ s.ro ∨ -l ∈ s.ro := fun l h0 hl => by
    rcases C.td.say h0 with ⟨h, _⟩ | ⟨h, _⟩ | ⟨h, _⟩
    · exact .inl h
    · exact .inr h
    · refine nn fun hC => ?_
      obtain ⟨v, hv⟩ := get_mem (W.kn l.natAbs (by lia) (by lia))
      obtain ⟨x, hx, e, _⟩ := (C.td.kn _ _).mp hv
      refine hC ?_
      exact absurd (by lia) (h x hx)
  refine ⟨cv _ (fun c hc => ?_) fun i l hl _ => hin l (List.mem_of_getElem? hl), fun l hl => hin l (W.all l hl)⟩
  obtain ⟨k, hk⟩ := List.mem_iff_getElem?.mp hc
  obtain ⟨h1, h2, h3⟩ := C.rk c hc
  match c, hk, h1, h3 with
  | w :: w' :: r, hk, _, h3 =>
    have hw := h3 w (List.mem_cons_self ..)
    rcases hor w hw.1 hw.2 with h | h
    · exact ⟨w, List.mem_cons_self .., hin w h⟩
    · refine nn fun hC => ?_
      obtain ⟨i, hi⟩ := List.mem_iff_getElem?.mp h
      obtain ⟨j, hj, _⟩ := pr k _ w w' hk (.inl ⟨rfl, rfl⟩) i (by rw [W.seen]; exact (List.getElem?_eq_some_iff.mp hi).1) hi
      refine hC ?_
      exact ⟨w', List.mem_cons_of_mem _ (List.mem_cons_self ..), hin w' (List.mem_of_getElem? hj)⟩
end
section
variable {sp : Sp} {m : List V} {H : AH} {Q : V → AH → Prop}
theorem sl_t {x : X} {a : Addr} {l : List V} {j : X} {k : Nat} (hx : x.pv m H = some (.ref a)) (h : H a = some (.tup l)) (hj : j.pv m H = some (.int k)) (hk : k < l.length) (q : ∀ y, H y = none → Q (.ref y) (H.set y (.tup (l.take k)))) : (X.slice x (.c .none) j).ev sp m H Q := by
  refine pv_ok x _ _ hx (pv_ok (.c .none) .none _ rfl (pv_ok j _ _ hj (ifS_mk (x := a) rfl (ifS_mk (see_tup h) ?_))))
  exact ⟨rfl, ifS_mk (x := (k : Int)) rfl ⟨Int.natCast_nonneg k, Int.ofNat_lt.mpr hk, q⟩⟩
theorem idx_last {l : List V} {v : V} (h : l.getLast? = some v) : idx l (-1) = some v := by
  have hne : l ≠ [] := fun e => by rw [e] at h; cases h
  have hpos := List.length_pos_iff.mpr hne
  unfold idx
  rw [if_neg (by decide), if_pos (by lia), show ((-1 : Int) + (l.length : Int)).toNat = l.length - 1 by lia, ← List.getLast?_eq_getElem?]
  exact h
end
end Mine
end
section
open PySem PySem.W
set_option tactic.hygienic false
namespace Mine
theorem brW_t {T F : AH → Prop} {H : AH} (h : T H) : brW T F (.bool true) H := h
theorem brW_f {T F : AH → Prop} {H : AH} (h : F H) : brW T F (.bool false) H := h
theorem orW_t {T : AH → Prop} {Q : V → AH → Prop} {H : AH} (h : Q (.bool true) H) : orW T Q (.bool true) H := h
theorem orW_f {T : AH → Prop} {Q : V → AH → Prop} {H : AH} (h : T H) : orW T Q (.bool false) H := h
theorem boolW_ {Q : V → AH → Prop} {H : AH} {b : Bool} (h : Q (.bool b) H) : boolW Q (.bool b) H := h
section
variable {n : Nat} {H0 H : AH} {lay : Ro → Addr} {s : St} {a : Addr} {Q : V → AH → Prop} {N : Nat} {M : (Nat → Bool) → Prop}
set_option maxHeartbeats 2000000 in
theorem c_told (So : Sol H lay s) (ha : lay .ins = a) (Sb : Stb N M s) (hN : N ≤ 5) (hO : Oth H0 H lay s) {rv : Addr} {P : List (Addr × List Bool)} (hr : Rw H0 rv P) (R : RM N P M) (hPl : P.length ≤ 1000) {ab : Addr} {asked : List Int} (hab : H0 ab = some (.lst (zs asked))) (hal : asked.length ≤ 3) (hnz : ∀ l ∈ asked, l ≠ 0 ∧ l.natAbs ≤ N) (hrz : s.rows.length + 400000 < sz) (hlz : s.lg.length + 400000 < sz)
    (q : ∀ H' lay' s', Oth H0 H' lay' s' → SF H lay s H' lay' s' → Stb N M s' → Gr M 0 s s' → Q (.bool true) H') : spN tab02 (n + 5) 26 [.ref a, .ref rv, .ref ab, .int N] H Q := by
  have hsz : (2000 : Nat) < sz := by decide
  refine sp_go rfl rfl (s_seq (s_iteE (cm_ok (xs := [.bi .toList [.loc 2]]) So ha rfl (e_cons (e_bi (e_cons (pv_ok (.loc 2) (.ref ab) _ rfl (e_nil (b_list (seq_l (hO _ _ hab).1) fun x hx => e_nil ?_)))))))))
  have h1 := SF.junk So (o := .lst (zs asked)) hx
  refine c_solve h1.1 ha Sb hN (ask := x) (asked := asked) set_eq (So.nfp hx) hal hnz hrz hlz (fun H2 lay2 s2 h2 S2 W g2 => ?_) fun H2 lay2 s2 h2 S2 F g2 => ?_
  · -- told True
    have h12 := h1.trans h2
    have ha2 := h12.ins ha
    have hO2 := hO.sf So h12
    obtain ⟨hM, hask⟩ := W.model S2
    refine (?_ : (S.seq (.asg 4 (.bi .toTuple [(.lcomp [true, false, false, false, false, false] (.rng (.c (.int 1)) (.bin .add (.loc 3) (.c (.int 1)))) (.c (.bool true)) (.emit (.callM 19 (.loc 0) [(.loc 6)])))])) (.seq (.ret (.cmp .mem (.loc 4) (.callG 25 [(.loc 1), (.loc 2)]))) .skip)).wp (spN tab02 (n + 4)) [.ref a, .ref rv, .ref ab, .int N, .un, .un] H2 (fun _ _ => True) Q)
    have hb : -big ≤ (N : Int) + 1 ∧ (N : Int) + 1 < big := ⟨by unfold big; lia, by unfold big; lia⟩
    refine s_seq (s_asg (e_bi (e_cons (e_lcr (lo := 1) (hi := (N : Int) + 1) rfl (add_ok rfl rfl) (by decide) hb ?_))))
    refine cloop_ind (fun i acc H' => H' = H2 ∧ acc = bz ((List.range i).map fun (j : Nat) => kb s2 (1 + (j : Int)))) _ (fun i v acc H' K hv hI hK => ⟨trivial, ?_⟩) (fun acc H' hI => ⟨trivial, ?_⟩) ⟨rfl, rfl⟩
    · obtain ⟨rfl, rfl⟩ := hI
      obtain ⟨rfl, hi⟩ := rng_at hv
      have hiN : i < N := by lia
      obtain ⟨w, hw⟩ := get_mem (W.kn (1 + (i : Int)) (by lia) (by lia))
      obtain ⟨l, _, _, rfl⟩ := (S2.c.td.kn _ _).mp hw
      refine pvT (cm_ok (xs := [.loc 6]) (P := fun v H => _ ∧ _) h12.1 ha2 rfl (e_cons (pv_ok (.loc 6) (.int (1 + (i : Int))) _ rfl (e_nil (c_value h12.1 ha2 ?_)))))
      rw [hw]
      refine ⟨by unfold bz; rw [List.length_map, List.length_map, List.length_range]; lia, hK _ _ ⟨rfl, ?_⟩⟩
      rw [List.range_succ, List.map_append]
      unfold bz
      rw [List.map_append]
      show _ = _ ++ [V.bool (kb s2 (1 + (i : Int)))]
      unfold kb
      rw [hw]; rfl
    · obtain ⟨rfl, rfl⟩ := hI
      rw [rng_len, show ((N : Int) + 1 - 1).toNat = N by lia]
      intro y hy
      refine e_nil (tt_l set_eq fun z hz => ?_)
      have E : Ext H' ((H'.set y (.lst (bz (row0 s2 N)))).set z (.tup (bz (row0 s2 N)))) := (Ext.refl.new hy).new (by
        cases hh : H' z with
        | none => rfl
        | some o => rw [(Ext.refl.new hy) z o hh] at hz; cases hz)
      have hz1 : ((H'.set y (.lst (bz (row0 s2 N)))).set z (.tup (bz (row0 s2 N)))) z = some (.tup (bz (row0 s2 N))) := set_eq
      have e0 : ((List.range N).map fun (j : Nat) => kb s2 (1 + (j : Int))) = row0 s2 N := rfl
      rw [e0]
      generalize ((H'.set y (.lst (bz (row0 s2 N)))).set z (.tup (bz (row0 s2 N)))) = H3 at E hz1
      have hO3 := hO2.ext E
      refine s_seq (s_ret (e_cmp (pv_ok (.loc 4) (.ref z) _ rfl (e_callG (e_cons (pv_ok (.loc 1) (.ref rv) _ rfl (e_cons (pv_ok (.loc 2) (.ref ab) _ rfl (e_nil (c_all (N := N) (hO3.rw hr) (hO3 _ _ hab).1 (.inl rfl) R.len hnz hPl fun H4 y4 E4 h4 => cmpW_i (b := true) (rw_mem h4 (E4 _ _ hz1) ?_) ?_))))))))))
      · obtain ⟨p, hp, e⟩ := R.all _ row0_len hM
        refine ⟨p, List.mem_filter.mpr ⟨hp, ?_⟩, e⟩
        rw [List.all_eq_true]
        intro l hl
        rw [e]
        exact (okL_iff (hnz l hl).1 (by rw [row0_len]; exact (hnz l hl).2)).mpr (hask l hl)
      · have h5 := h12.trans ((E.trans E4).sf h12.1)
        exact q _ _ _ (hO.sf So h5) h5 S2 g2
  · -- told False
    have h12 := h1.trans h2
    have ha2 := h12.ins ha
    have hO2 := hO.sf So h12
    have hblz : ∀ l ∈ s2.bl, l ≠ 0 ∧ l.natAbs ≤ N := fun l hl => hnz l (F.sub l hl)
    have hblen : s2.bl.length ≤ 3 := Nat.le_trans (nodup_le F.nd F.sub) hal
    have hno : ∀ α, M α → ¬ ∀ x ∈ asked, ltr α x := fun α hα h => F.sem α hα fun x hx => h x (F.sub x hx)
    have hend : ∀ {H'}, Ext H2 H' → Q (.bool true) H' := fun {H'} E => by
      have h5 := h12.trans (E.sf h12.1)
      exact q _ _ _ (hO.sf So h5) h5 S2 g2
    refine brW_f (s_skip (s_seq (s_asg (cm_ok (xs := []) h12.1 ha2 rfl (e_nil (c_failed h12.1 ha2 ?_))))))
    have hbl : ∀ {H'}, Ext H2 H' → H' (lay2 .bl) = some (.tup (zs s2.bl)) := fun E => E _ _ (h12.1.at_ .bl trivial)
    have hfil1 : ∀ {H' v}, Rw H' v (P.filter fun p => asked.all (okL p.2)) → H' v = some (.lst []) := fun {H' v} h => by
      have := h.at_
      rw [R.none hnz hno] at this; exact this
    have hfil2 : ∀ {H' v}, Rw H' v (P.filter fun p => s2.bl.all (okL p.2)) → H' v = some (.lst []) := fun {H' v} h => by
      have := h.at_
      rw [R.none hblz F.sem] at this; exact this
    have hnn : ∀ {H' : AH} {u w : Addr}, H' u = some (.lst []) → H' w = some (.lst []) → cmpV H' .ne (.ref u) (.ref w) = some false := fun hu hw => ne_nil (ds := []) hu rfl hw
    refine s_seq (s_iteE (e_or (e_cmp (e_callG (e_cons (pv_ok (.loc 1) (.ref rv) _ rfl (e_cons (pv_ok (.loc 2) (.ref ab) _ rfl (e_nil (c_all (N := N) (hO2.rw hr) (hO2 _ _ hab).1 (.inl rfl) R.len hnz hPl fun H3 y3 E3 h3 => e_emptyL fun z hz => ?_))))))))))
    have E4 := E3.new (o := .lst []) (E3.none hz)
    have hy3 : y3 ≠ z := fun e => by
      have := h3.at_
      rw [e, show H3 z = none from hz] at this; cases this
    refine cmpW_i (hnn (H' := H3.set z (.lst [])) (by rw [set_ne hy3]; exact hfil1 h3) set_eq) (orW_f ?_)
    have hO4 := hO2.ext E4
    refine e_or (e_cmp (e_callG (e_cons (pv_ok (.loc 1) (.ref rv) _ rfl (e_cons (pv_ok (.loc 5) (.ref (lay2 .bl)) _ rfl (e_nil (c_all (N := N) (hO4.rw hr) (hbl E4) (.inr rfl) R.len hblz hPl fun H5 y5 E5 h5 => e_emptyL fun w hw => ?_))))))))
    have E6 := (E4.trans E5).new (o := .lst []) ((E4.trans E5).none hw)
    have hy5 : y5 ≠ w := fun e => by
      have := h5.at_
      rw [e, show H5 w = none from hw] at this; cases this
    refine cmpW_i (hnn (H' := H5.set w (.lst [])) (by rw [set_ne hy5]; exact hfil2 h5) set_eq) (orW_f (pv_ok (.c (.bool false)) (.bool false) _ rfl (boolW_ (boolW_ (brW_f (s_skip ?_))))))
    generalize H5.set w (.lst []) = H6 at E6
    have hab6 : ∀ {H'}, Ext H6 H' → H' ab = some (.lst (zs asked)) := fun E => E _ _ (E6 _ _ (hO2 _ _ hab).1)
    have hbl6 : ∀ {H'}, Ext H6 H' → H' (lay2 .bl) = some (.tup (zs s2.bl)) := fun E => hbl (E6.trans E)
    have hbb : -big ≤ (s2.bl.length : Int) ∧ (s2.bl.length : Int) < big := ⟨by unfold big; lia, by unfold big; lia⟩
    refine s_seq (s_iteE (e_cmp (e_lcr (lo := 0) (hi := (s2.bl.length : Nat)) rfl (len_pv (w := .ref (lay2 .bl)) rfl ((ln_t (hbl6 .refl)).trans (by rw [zs_len]))) (by decide) hbb ?_)))
    refine cloop_ind (fun i acc H' => Ext H6 H' ∧ acc = []) _ (fun i v acc H' K hv hI hK => ⟨trivial, ?_⟩) (fun acc H' hI => ⟨trivial, ?_⟩) ⟨.refl, rfl⟩
    · obtain ⟨E, rfl⟩ := hI
      obtain ⟨rfl, hi⟩ := rng_at hv
      have hi : i < s2.bl.length := by lia
      have hx : s2.bl[i]? = some s2.bl[i] := List.getElem?_eq_getElem hi
      generalize s2.bl[i] = x at hx
      have hxa := F.sub x (List.mem_of_getElem? hx)
      have e0 : (0 : Int) + (i : Int) = (i : Int) := Int.zero_add _
      have hsub : ∀ {H7 : AH}, Ext H6 H7 → (X.sub (.loc 5) (.loc 6)).pv [.un, .un, .ref ab, .un, .un, .ref (lay2 .bl), .int (0 + (i : Int))] H7 = some (.int x) := fun E7 => pvb (x := .ref (lay2 .bl)) rfl (pvb (x := .int (0 + (i : Int))) rfl (sb_t (hbl6 E7) (by rw [e0]; exact idx_nat (zs_get hx))))
      refine e_or (e_cmp (pv_ok _ (.int x) _ (hsub E) (pv_ok (.loc 2) (.ref ab) _ rfl (cmpW_i (b := false) ?_ (orW_f ?_)))))
      · show (memV H' (.int x) (.ref ab)).map (!·) = _
        rw [mem_ll (hab6 E), decide_eq_true hxa]; rfl
      refine e_or (e_cmp (pv_ok _ (.int x) _ (hsub E) (sl_t (k := i) rfl (hbl6 E) (by show some (V.int (0 + (i : Int))) = _; rw [e0]) (by rw [zs_len]; exact hi) fun y hy => ?_)))
      have E7 := E.new (o := .tup ((zs s2.bl).take i)) (E.none hy)
      refine cmpW_i (b := false) ?_ (orW_f (pv_ok (.c (.bool false)) (.bool false) _ rfl (boolW_ (boolW_ (hK _ _ ⟨E7, rfl⟩)))))
      show memV _ (.int x) (.ref y) = _
      rw [mem_tt (l := s2.bl.take i) (by rw [set_eq]; unfold zs; rw [List.map_take]), decide_eq_false]
      intro hm
      obtain ⟨j, hj, hjx⟩ := mem_take_at hm
      have h7 := List.getElem?_eq_some_iff.mp hx
      have h8 := List.getElem?_eq_some_iff.mp hjx
      have := (List.getElem_inj (h₀ := h8.1) (h₁ := h7.1) F.nd).mp (h8.2.trans h7.2.symm)
      lia
    obtain ⟨E, rfl⟩ := hI
    intro u hu
    have E8 := E.new (o := .lst []) (E.none hu)
    refine e_emptyL fun z2 hz2 => ?_
    have E9 := E8.new (o := .lst []) (E8.none hz2)
    have hu2 : u ≠ z2 := fun e => by rw [← e, set_eq] at hz2; cases hz2
    refine cmpW_i (b := false) (ne_nil (ds := []) (by rw [set_ne hu2]; exact set_eq) rfl set_eq) (brW_f (s_skip ?_))
    generalize (H'.set u (.lst [])).set z2 (.lst []) = H9 at E9
    clear E8 hu2 hz2 hu E
    refine s_seq (s_iteE (e_cmp (e_lc (pv_ok (.loc 5) (.ref (lay2 .bl)) _ rfl (it_lt (l := zs s2.bl) (hbl6 E9) (.inr rfl) ?_)))))
    refine cloop_ind (fun i acc H' => H' = H9 ∧ acc = zs ((s2.bl.take i).filter fun x => decide (-x ∈ s2.bl))) _ (fun i v acc H' K hv hI hK => ?_) (fun acc H' hI => ?_) ⟨rfl, rfl⟩
    · obtain ⟨rfl, rfl⟩ := hI
      obtain ⟨x, hx, rfl⟩ := zs_at hv
      have hic := (List.getElem?_eq_some_iff.mp hx).1
      refine ⟨see_tup (hbl6 E9), pv_ok _ (.bool (decide (-x ∈ s2.bl))) _ (pvb (x := .int (-x)) rfl (pvb (x := .ref (lay2 .bl)) rfl (pcm (b := decide (-x ∈ s2.bl)) (mem_tt (hbl6 E9))))) ?_⟩
      have hle : (zs ((s2.bl.take i).filter fun x => decide (-x ∈ s2.bl))).length < sz := by
        rw [zs_len]
        have h7 := List.length_filter_le (fun x => decide (-x ∈ s2.bl)) (s2.bl.take i)
        rw [List.length_take] at h7
        lia
      by_cases hn : -x ∈ s2.bl
      · rw [decide_eq_true hn]
        refine (?_ : _ ∧ _)
        refine ⟨hle, hK _ _ ⟨rfl, ?_⟩⟩
        rw [List.take_add_one, hx, List.filter_append, zs_app]
        show _ = _ ++ zs ([x].filter _)
        rw [List.filter_cons, if_pos (decide_eq_true hn)]; rfl
      · rw [decide_eq_false hn]
        refine hK _ _ ⟨rfl, ?_⟩
        rw [List.take_add_one, hx, List.filter_append, zs_app]
        show _ = _ ++ zs ([x].filter _)
        rw [List.filter_cons, if_neg (by rw [decide_eq_false hn]; decide)]; simp [zs]
    obtain ⟨rfl, rfl⟩ := hI
    rw [zs_len, List.take_length]
    refine ⟨see_tup (hbl6 E9), fun u hu => ?_⟩
    have E10 := E9.new (o := .lst (zs (s2.bl.filter fun x => decide (-x ∈ s2.bl)))) (E9.none hu)
    refine e_emptyL fun z3 hz3 => ?_
    have E11 := E10.new (o := .lst []) (E10.none hz3)
    have hu3 : u ≠ z3 := fun e => by rw [← e, set_eq] at hz3; cases hz3
    refine cmpW_i (ne_nil (l := zs (s2.bl.filter fun x => decide (-x ∈ s2.bl))) (by rw [set_ne hu3]; exact set_eq) as_zs set_eq) ?_
    generalize (H'.set u (.lst (zs (s2.bl.filter fun x => decide (-x ∈ s2.bl))))).set z3 (.lst []) = H11 at E11
    have E2 : Ext H2 H11 := E6.trans E11
    clear hz3 hu3 hu E10
    by_cases hxx : ∃ x ∈ s2.bl, -x ∈ s2.bl
    · obtain ⟨x, h7, h8⟩ := hxx
      have hm : x ∈ s2.bl.filter fun x => decide (-x ∈ s2.bl) := List.mem_filter.mpr ⟨h7, decide_eq_true h8⟩
      cases hf : s2.bl.filter fun x => decide (-x ∈ s2.bl) with
      | nil => rw [hf] at hm; cases hm
      | cons x' l' => exact brW_t (s_seq (s_ret (pv_ok (.c (.bool true)) (.bool true) _ rfl (hend E2))))
    have hf : (s2.bl.filter fun x => decide (-x ∈ s2.bl)) = [] := List.filter_eq_nil_iff.mpr fun x hx h => hxx ⟨x, hx, of_decide_eq_true h⟩
    rw [hf]
    obtain ⟨c, hlast, hOrd⟩ := F.lg.resolve_left hxx
    have S11 := (E2.sf h12.1).1
    have hne : s2.lg ≠ [] := fun e => by rw [e] at hlast; cases hlast
    have hpos := List.length_pos_iff.mpr hne
    have hlg : (X.sub (.attr (.loc 0) 11) (.neg (.c (.int 1)))).pv [.ref a, .ref rv, .ref ab, .int N, .un, .ref (lay2 .bl)] H11 = some (.ref (lay2 (.le (s2.lg.length - 1)))) := by
      refine pvb (S11.a_ ha2 rfl rfl) (pvb (x := .int (-1)) rfl (sb_l (S11.at_ .lg trivial) (idx_last ?_)))
      rw [List.getLast?_eq_getElem?, refs_len]
      exact refs_get (by lia)
    have hle : ∀ {H'}, Ext H11 H' → H' (lay2 (.le (s2.lg.length - 1))) = some (.tup (zs c)) := fun {H'} E => by
      rw [E _ _ (S11.at_ (.le (s2.lg.length - 1)) (show _ < _ by lia))]
      show some (O.tup (zs (s2.lg.getD (s2.lg.length - 1) []))) = _
      rw [List.getD_eq_getElem?_getD, ← List.getLast?_eq_getElem?, hlast]; rfl
    have hbl11 := hbl E2
    refine brW_f (s_skip (s_seq (s_ret (e_cmp (pv_ok _ _ _ hlg (e_bi (e_cons (e_bi (e_cons (e_lc (pv_ok (.loc 5) (.ref (lay2 .bl)) _ rfl (it_lt (l := zs s2.bl) hbl11 (.inr rfl) ?_))))))))))))
    refine cloop_ind (fun i acc H' => H' = H11 ∧ acc = zs ((s2.bl.take i).map fun x => -x)) _ (fun i v acc H' K hv hI hK => ?_) (fun acc H' hI => ?_) ⟨rfl, rfl⟩
    · obtain ⟨rfl, rfl⟩ := hI
      obtain ⟨x, hx, rfl⟩ := zs_at hv
      have hic := (List.getElem?_eq_some_iff.mp hx).1
      refine ⟨see_tup hbl11, pvT (pv_ok (.neg (.loc 6)) (.int (-x)) _ rfl ⟨?_, hK _ _ ⟨rfl, ?_⟩⟩)⟩
      · rw [zs_len, List.length_map, List.length_take]; lia
      · rw [List.take_add_one, hx, List.map_append, zs_app]; rfl
    obtain ⟨rfl, rfl⟩ := hI
    rw [zs_len, List.take_length]
    refine ⟨see_tup hbl11, fun y hy => e_nil (sd_l set_eq (by rw [List.length_map]; lia) fun ys hp hs z hz => e_nil (tt_l set_eq fun w hw => ?_))⟩
    have G1 := Ext.refl.new (o := .lst (zs (s2.bl.map fun x => -x))) (show H' y = none from hy)
    have G2 := G1.new (o := .lst (zs ys)) (G1.none hz)
    have G3 := G2.new (o := .tup (zs ys)) (G2.none hw)
    refine cmpW_i (tup_eq (hle G3) set_eq) ?_
    have hnd2 : ((s2.bl.map fun x => -x).map Int.natAbs).Nodup := by
      rw [List.map_map]
      refine List.pairwise_map.mpr (List.Pairwise.imp_of_mem (fun {p r} h1 h2 h3 e => ?_) F.nd)
      have e : (-p).natAbs = (-r).natAbs := e
      have : r = -p := by
        have : r ≠ p := fun e => h3 e.symm
        lia
      exact hxx ⟨p, h1, by rw [← this]; exact h2⟩
    rw [decide_eq_true (ord_uniq (l := []) hOrd.nd ((hp.map _).nodup_iff.mpr hnd2) hOrd.srt hs fun x => by rw [hOrd.mem, hp.mem_iff])]
    exact hend (E2.trans G3)
end
end Mine
end
section
open PySem PySem.W
set_option tactic.hygienic false
namespace Mine
noncomputable def rowTwo (r : List Bool) : List (List Bool) := [r ++ [false], r ++ [true]]
noncomputable def rowsOf : Nat → List (List Bool)
  | 0 => [[]]
  | i + 1 => (rowsOf i).flatMap rowTwo
theorem rowsOf_mem : ∀ {i : Nat} {r : List Bool}, r ∈ rowsOf i ↔ r.length = i
  | 0, r => by
    show r ∈ [[]] ↔ _
    rw [List.mem_singleton, List.length_eq_zero_iff]
  | i + 1, r => by
    show r ∈ (rowsOf i).flatMap rowTwo ↔ _
    rw [List.mem_flatMap]
    constructor
    · rintro ⟨s, hs, hr⟩
      have hs := rowsOf_mem.mp hs
      unfold rowTwo at hr
      simp only [List.mem_cons, List.not_mem_nil, or_false] at hr
      rcases hr with rfl | rfl <;> rw [List.length_append, hs] <;> rfl
    · intro h
      have hne : r ≠ [] := fun e => by rw [e] at h; cases h
      refine ⟨r.dropLast, rowsOf_mem.mpr (by rw [List.length_dropLast, h]; rfl), ?_⟩
      have e := List.dropLast_concat_getLast hne
      unfold rowTwo
      cases hl : r.getLast hne
      · rw [hl] at e; rw [e]; exact List.mem_cons_self ..
      · rw [hl] at e; rw [e]; exact List.mem_cons_of_mem _ (List.mem_cons_self ..)
theorem rowsOf_len : ∀ {i : Nat}, (rowsOf i).length = 2 ^ i
  | 0 => rfl
  | i + 1 => by
    show ((rowsOf i).flatMap rowTwo).length = _
    rw [List.length_flatMap, Nat.pow_succ, ← rowsOf_len (i := i)]
    induction rowsOf i with
    | nil => rfl
    | cons a l ih =>
      rw [List.map_cons, List.sum_cons, ih, List.length_cons]
      show 2 + _ = _
      lia
section
variable {n : Nat} {H : AH} {sp : Sp} {m : List V} {Q : V → AH → Prop}
theorem add_tt {a b : Addr} {l r : List V} (h : H a = some (.tup l)) (h' : H b = some (.tup r)) (hl : l.length + r.length ≤ sz) (q : ∀ x, Ext H (H.set x (.tup (l ++ r))) → Q (.ref x) (H.set x (.tup (l ++ r)))) : binW H .add (.ref a) (.ref b) Q := by
  show ifS (H a) _
  refine ifS_mk h (ifS_mk h' ?_)
  refine ⟨hl, fun x hx => q x ?_⟩
  rcases hx with hx | hx
  · exact Ext.refl.new hx
  · rw [set_same hx]; exact .refl
theorem e_cfor {x cond b : X} {acc : List V} {K : List V → AH → Prop} (h : x.ev sp m H fun v H => itW H v fun items chk thaw H =>
      cloop chk (fun x H acc K => cond.ev sp (m ++ [x]) H fun v H => ifB v (X.cw sp b (m ++ [x]) H acc K) (K acc H)) items H acc fun acc H => K acc (thaw H)) : X.cw sp (.cfor (.src x) cond b) m H acc K := h
theorem w_more {y : Addr} {P : List (Addr × List Bool)} {i : Nat} {v0 v1 v2 v4 v5 v6 v7 v8 v9 : V} (hr : Rw H y P) (hP : P.map (·.2) = rowsOf i) (hi : i ≤ 4)
    (q : ∀ H' y' P', Ext H H' → Rw H' y' P' → P'.map (·.2) = rowsOf (i + 1) → Q (.ref y') H') :
    (X.lcomp [false, false, false, false, false, false, false, false, false, false] (.src (.loc 3)) (.c (.bool true)) (.cfor (.src (.tup [(.c (.bool false)), (.c (.bool true))])) (.c (.bool true)) (.emit (.bin .add (.loc 10) (.tup [(.loc 11)]))))).ev sp [v0, v1, v2, .ref y, v4, v5, v6, v7, v8, v9] H Q := by
  have hsz : (2000 : Nat) < sz := by decide
  have hlen : P.length ≤ 16 := by
    have := congrArg List.length hP
    rw [List.length_map, rowsOf_len] at this
    have h2 : 2 ^ i ≤ 2 ^ 4 := Nat.pow_le_pow_right (by decide) hi
    lia
  have hpl : ∀ p ∈ P, p.2.length = i := fun p hp => rowsOf_mem.mp (by rw [← hP]; exact List.mem_map_of_mem hp)
  refine e_lc (pv_ok (.loc 3) (.ref y) _ rfl (it_l hr.at_ ?_))
  refine cloop_ind (fun j acc H' => Ext H H' ∧ ∃ (P' : List (Addr × List Bool)), An3 (acc = P'.map (fun p => .ref p.1)) ((∀ p ∈ P', H' p.1 = some (.tup (bz p.2)))) (P'.map (·.2) = (P.take j).flatMap fun p => rowTwo p.2)) _ (fun j v acc H' K hv hI hK => ?_) (fun acc H' hI => ?_) ⟨.refl, [], rfl, fun p h => (by cases h), rfl⟩
  · obtain ⟨E, P', rfl, hP', hm⟩ := hI
    rw [List.getElem?_map] at hv
    obtain ⟨p, hp, rfl⟩ := Option.map_eq_some_iff.mp hv
    have hpm := List.mem_of_getElem? hp
    have hjl := (List.getElem?_eq_some_iff.mp hp).1
    have hl' : P'.length ≤ 32 := by
      have := congrArg List.length hm
      have h7 : ((P.take j).flatMap fun p => rowTwo p.2).length = 2 * (P.take j).length := by
        rw [List.length_flatMap]
        induction P.take j with
        | nil => rfl
        | cons a l ih =>
          rw [List.map_cons, List.sum_cons, ih, List.length_cons]
          show 2 + _ = _
          lia
      rw [List.length_map, h7, List.length_take] at this
      lia
    have hpt := hr.each p hpm
    have hpl' := hpl p hpm
    refine ⟨see_lst (E _ _ hr.at_), pvT (e_cfor (e_tup (e_cons (pv_ok (.c (.bool false)) (.bool false) _ rfl (e_cons (pv_ok (.c (.bool true)) (.bool true) _ rfl (e_nil fun t ht => ?_)))))))⟩
    have Et := E.new (o := .tup (bz [false, true])) (E.none ht)
    have hP1 : ∀ p ∈ P', (H'.set t (.tup (bz [false, true]))) p.1 = some (.tup (bz p.2)) := fun p hp => by rw [set_ne fun e => by have := hP' p hp; rw [e, show H' t = none from ht] at this; cases this]; exact hP' p hp
    have ht1 : (H'.set t (.tup (bz [false, true]))) t = some (.tup (bz [false, true])) := set_eq
    show itW (H'.set t (.tup (bz [false, true]))) (.ref t) _
    generalize H'.set t (.tup (bz [false, true])) = H1 at Et hP1 ht1
    refine it_lt ht1 (.inr rfl) ?_
    have hone : ∀ (b : Bool) (H2 : AH) (P2 : List (Addr × List Bool)) (K2 : List V → AH → Prop), Ext H H2 → (∀ p ∈ P2, H2 p.1 = some (.tup (bz p.2))) → P2.length ≤ 40 → (∀ H3 x, Ext H2 H3 → H3 x = some (.tup (bz (p.2 ++ [b]))) → K2 ((P2 ++ [(x, p.2 ++ [b])]).map fun p => .ref p.1) H3) →
        X.cw sp (.emit (.bin .add (.loc 10) (.tup [(.loc 11)]))) [.un, .un, .un, .un, .un, .un, .un, .un, .un, .un, .ref p.1, .bool b] H2 (P2.map fun p => .ref p.1) K2 := fun b H2 P2 K2 E2 h2 hl2 hK2 => by
      refine (?_ : (X.bin .add (.loc 10) (.tup [(.loc 11)])).ev sp _ H2 _)
      refine e_bin (pv_ok (.loc 10) (.ref p.1) _ rfl (e_tup (e_cons (pv_ok (.loc 11) (.bool b) _ rfl (e_nil fun w hw => ?_)))))
      have Ew : Ext H2 (H2.set w (.tup [.bool b])) := Ext.refl.new hw
      refine add_tt (l := bz p.2) (r := [.bool b]) (Ew _ _ (E2 _ _ hpt)) set_eq (by unfold bz; rw [List.length_map, hpl']; simp only [List.length_cons, List.length_nil]; lia) fun x Ex => ⟨by rw [List.length_map]; lia, ?_⟩
      have := hK2 _ x (Ew.trans Ex) (by rw [set_eq]; unfold bz; rw [List.map_append]; rfl)
      rw [List.map_append] at this
      exact this
    refine ⟨see_tup ht1, pvT (hone false H1 P' _ Et hP1 (by lia) fun H2 x2 E2 hx2 => ?_)⟩
    refine ⟨see_tup (E2 _ _ ht1), pvT (hone true H2 (P' ++ [(x2, p.2 ++ [false])]) _ (Et.trans E2) (fun p' hp' => ?_) (by rw [List.length_append, List.length_singleton]; lia) fun H3 x3 E3 hx3 => ?_)⟩
    · rcases List.mem_append.mp hp' with hp' | hp'
      · exact E2 _ _ (hP1 p' hp')
      · rw [List.mem_singleton.mp hp']; exact hx2
    refine ⟨see_tup (E3 _ _ (E2 _ _ ht1)), hK _ _ ⟨Et.trans (E2.trans E3), P' ++ [(x2, p.2 ++ [false])] ++ [(x3, p.2 ++ [true])], rfl, fun p' hp' => ?_, ?_⟩⟩
    · rcases List.mem_append.mp hp' with hp' | hp'
      · rcases List.mem_append.mp hp' with hp' | hp'
        · exact E3 _ _ (E2 _ _ (hP1 p' hp'))
        · rw [List.mem_singleton.mp hp']; exact E3 _ _ hx2
      · rw [List.mem_singleton.mp hp']; exact hx3
    · rw [List.take_add_one, hp, List.flatMap_append, ← hm, List.map_append, List.map_append, List.append_assoc]; rfl
  · refine nn fun hC => ?_
    obtain ⟨E, P', rfl, hP', hm⟩ := hI
    refine hC ?_
    rw [List.length_map, List.take_length] at hm
    refine ⟨see_lst (E _ _ hr.at_), fun z hz => q _ z P' (E.new (E.none hz)) ⟨set_eq, fun p hp => ?_⟩ ?_⟩
    · rw [set_ne fun e => by have := hP' p hp; rw [e, show H' z = none from hz] at this; cases this]; exact hP' p hp
    · rw [hm]
      show _ = (rowsOf i).flatMap rowTwo
      rw [← hP, List.flatMap_map]
end
end Mine
end
section
open PySem PySem.W
set_option tactic.hygienic false
namespace Mine
section
variable {n : Nat} {H0 H H' : AH} {fd cl : Addr} {cells : List Int} {spot : Nat} {N : Nat} {M M' : (Nat → Bool) → Prop} {P : List (Addr × List Bool)}
theorem RM.kept (R : RM N P M) {c : List Int} (hz : ∀ x ∈ c, x ≠ 0 ∧ x.natAbs ≤ N) : RM N (P.filter fun p => satR p.2 c) (fun α => M α ∧ Sat α c) := by
  have key : ∀ r : List Bool, r.length = N → (satR r c = true ↔ Sat (al r) c) := fun r hr => by
    unfold satR
    rw [List.any_eq_true]
    constructor
    · rintro ⟨x, hx, h⟩
      exact ⟨x, hx, (okL_iff (hz x hx).1 (by rw [hr]; exact (hz x hx).2)).mp h⟩
    · rintro ⟨x, hx, h⟩
      exact ⟨x, hx, (okL_iff (hz x hx).1 (by rw [hr]; exact (hz x hx).2)).mpr h⟩
  refine ⟨fun p hp => R.len p (List.mem_filter.mp hp).1, fun p hp => ?_, fun r hr hM => ?_⟩
  · obtain ⟨h1, h2⟩ := List.mem_filter.mp hp
    exact ⟨R.mod p h1, (key p.2 (R.len p h1)).mp h2⟩
  · obtain ⟨p, hp, rfl⟩ := R.all r hr hM.1
    exact ⟨p, List.mem_filter.mpr ⟨hp, (key p.2 hr).mpr hM.2⟩, rfl⟩
theorem RM.iff (R : RM N P M) (h : ∀ α, M α ↔ M' α) : RM N P M' := by
  obtain rfl : M = M' := funext fun α => propext (h α)
  exact R
theorem RM.first (h : P.map (·.2) = rowsOf N) : RM N P fun _ => True := by
  refine ⟨fun p hp => rowsOf_mem.mp (by rw [← h]; exact List.mem_map_of_mem hp), fun _ _ => trivial, fun r hr _ => ?_⟩
  have : r ∈ P.map (·.2) := by rw [h]; exact rowsOf_mem.mpr hr
  exact List.mem_map.mp this
theorem Fd.sol (h : Fd H H' fd cl cells spot) {lay : Ro → Addr} {s : St} (So : Sol H lay s) (n : ¬ fp lay s fd) : Sol H' lay s :=
  So.frame fun r u => by
    rw [So.at_ r u]
    exact h.ext _ _ (So.at_ r u) fun e => n ⟨r, u, e⟩
theorem Fd.trans {spot' : Nat} (h : ∀ y o, H0 y = some o → y ≠ fd → H y = some o) (h' : Fd H H' fd cl cells spot') : Fd H0 H' fd cl cells spot' := ⟨fun y o hy hn => h'.ext y o (h y o hy hn) hn, h'.fd, h'.cl, h'.b⟩
theorem Fd.self (hf : H fd = some (fdO cl spot)) (hc : H cl = some (.lst (zs cells))) (hb : spot < 100000) : Fd H H fd cl cells spot := ⟨fun _ _ h _ => h, hf, hc, hb⟩
theorem Fd.cexp {spot' : Nat} (h : Fd H0 H fd cl cells spot) (E : Ext H H') : Fd H0 H' fd cl cells spot := ⟨fun y o hy hn => E _ _ (h.ext y o hy hn), E _ _ h.fd, E _ _ h.cl, h.b⟩
end
end Mine
end
section
open PySem PySem.W
set_option tactic.hygienic false
namespace Mine
noncomputable def rgW (lo : Int) (K : List V → (AH → Prop) → (AH → AH) → AH → Prop) : V → AH → Prop := fun w H => ifS w.i? fun j => -big ≤ lo ∧ lo < big ∧ -big ≤ j ∧ j < big ∧ K (rngL lo j) (fun _ => True) (fun H => H) H
section
variable {sp : Sp} {m : List V} {H : AH} {Q : V → AH → Prop}
theorem i_rng {x y : X} {lo : Int} {K : List V → (AH → Prop) → (AH → AH) → AH → Prop} (hx : x.pv m H = some (.int lo)) (h : y.ev sp m H (rgW lo K)) : X.iw sp (.rng x y) m H K := by
  exact pv_ok x _ (fun v H => y.ev sp m H fun w H => ifS v.i? fun i => ifS w.i? fun j => -big ≤ i ∧ i < big ∧ -big ≤ j ∧ j < big ∧ K (rngL i j) (fun _ => True) (fun H => H) H) hx h
theorem rgW_i {lo j : Int} {K : List V → (AH → Prop) → (AH → AH) → AH → Prop} (b1 : -big ≤ lo ∧ lo < big) (b2 : -big ≤ j ∧ j < big) (h : K (rngL lo j) (fun _ => True) (fun H => H) H) : rgW lo K (.int j) H := ⟨b1.1, b1.2, b2.1, b2.2, h⟩
theorem e_lcI {mask : List Bool} {it cond b : X} (h : X.iw sp it m H fun items chk thaw H =>
      cloop chk (fun x H acc K => cond.ev sp (mskd m mask ++ [x]) H fun v H => ifB v (X.cw sp b (mskd m mask ++ [x]) H acc K) (K acc H)) items H [] fun acc H => ∀ a, thaw H a = none → Q (.ref a) ((thaw H).set a (.lst acc))) : (X.lcomp mask it cond b).ev sp m H Q := h
theorem s_forI {i : Nat} {it : X} {b : S} {P : List V → AH → Prop} {R : V → AH → Prop} (h : X.iw sp it m H fun items chk thaw H => floop chk (fun v m H Q R => b.wp sp (m.set i v) H Q R) items m H (fun m H => P m (thaw H)) (fun v H => chk H ∧ R v (thaw H))) : (S.for_ i it b).wp sp m H P R := h
theorem sl_hiS {x : X} {a : Addr} {l : List V} {j : X} {k : Nat} (hx : x.pv m H = some (.ref a)) (h : H.see a = some (.lst l)) (hj : j.pv m H = some (.int k)) (q : ∀ y, H y = none → Q (.ref y) (H.set y (.lst (l.take k)))) : (X.slice x (.c .none) j).ev sp m H Q := by
  refine pv_ok x _ _ hx (pv_ok (.c .none) .none _ rfl (pv_ok j _ _ hj (ifS_mk (x := a) rfl (ifS_mk h (slO_l rfl clip_nat fun y hy => ?_)))))
  have := q y hy
  rw [List.drop_zero]
  have e : l.take (min k l.length) = l.take k := by
    rcases Nat.le_total k l.length with h | h
    · rw [Nat.min_eq_left h]
    · rw [Nat.min_eq_right h, List.take_length, List.take_of_length_le h]
  rw [e]; exact this
theorem e_dictS {ks : List Nat} {xs : List X} (h : X.evs sp xs m H fun vs H => ∀ a, H a = none → Q (.ref a) (H.set a (.att (ks.zip vs)))) : (X.dictS ks xs).ev sp m H Q := h
theorem e_new {f : Nat} {xs : List X} (h : X.evs sp xs m H fun vs H => ∀ a d, H a = none → H d = none → a ≠ d →
      sp f (.ref a :: vs) ((H.set a (.inst d)).set d (.att [])) fun v H => v = .none ∧ Q (.ref a) H) : (X.new f xs).ev sp m H Q := h
theorem refs_of {α : Type} {cs : List (Addr × α)} : ∃ f : Nat → Addr, cs.map (fun p => V.ref p.1) = refs cs.length f ∧ ∀ j p, cs[j]? = some p → f j = p.1 := by
  refine ⟨fun j => (cs[j]?.map (·.1)).getD default, ?_, fun j p hp => by show (cs[j]?.map (·.1)).getD default = _; rw [hp]; rfl⟩
  apply List.ext_getElem?
  intro j
  unfold refs
  rw [List.getElem?_map, List.getElem?_map]
  rcases Nat.lt_or_ge j cs.length with h | h
  · rw [List.getElem?_range h, List.getElem?_eq_getElem h]
    show some (V.ref cs[j].1) = some (V.ref ((cs[j]?.map (·.1)).getD default))
    rw [List.getElem?_eq_getElem h]; rfl
  · rw [List.getElem?_eq_none h, List.getElem?_eq_none (by rw [List.length_range]; exact h)]; rfl
noncomputable def outer (H : AH) (lay : Ro → Addr) (s : St) : AH := fun y => by
  classical exact if fp lay s y then none else H y
theorem outer_oth {lay : Ro → Addr} {s : St} : Oth (outer H lay s) H lay s := fun y o h => by
  unfold outer at h
  by_cases hf : fp lay s y
  · rw [if_pos hf] at h; cases h
  · rw [if_neg hf] at h; exact ⟨h, hf⟩
theorem outer_at {lay : Ro → Addr} {s : St} {y : Addr} {o : O} (h : H y = some o) (hf : ¬ fp lay s y) : outer H lay s y = some o := by
  unfold outer
  rw [if_neg hf]; exact h
end
end Mine
end
section
open PySem PySem.W
set_option tactic.hygienic false
namespace Mine
section
variable {sp : Sp} {m : List V} {H : AH} {lay : Ro → Addr} {s : St} {a : Addr} {Q : V → AH → Prop}
theorem cm_okX (S : Sol H lay s) (ha : lay .ins = a) {f : Nat} {o : X} {xs : List X} (ho : o.pv m H = some (.ref a)) (q : X.evs sp xs m H fun vs H => sp f (.ref a :: vs) H Q) : (X.callM f o xs).ev sp m H Q := by
  exact pv_ok o _ _ ho (ifS_mk (insV_mk (ha ▸ S.at_ .ins trivial) (S.at_ .att trivial)) q)
noncomputable def andW (r : AH → Prop) (Q : V → AH → Prop) : V → AH → Prop := fun v H => ifB v (r H) (Q (.bool false) H)
theorem e_and {l r : X} (h : l.ev sp m H (andW (fun H => r.ev sp m H (boolW Q)) Q)) : (X.and l r).ev sp m H Q := h
theorem andW_t {r : AH → Prop} (h : r H) : andW r Q (.bool true) H := h
theorem andW_f {r : AH → Prop} (h : Q (.bool false) H) : andW r Q (.bool false) H := h
theorem notW_ {b : Bool} (h : Q (.bool (!b)) H) : notW Q (.bool b) H := h
end
structure LR (sa fd cl : Addr) (osa : O) (cells : List Int) (N : Nat) (a : Addr) (H : AH) (lay : Ro → Addr) (s : St) (M : (Nat → Bool) → Prop) (P : List (Addr × List Bool)) (y : Addr) (spot : Nat) (g : Nat) : Prop where
  so : Sol H lay s
  ins : lay .ins = a
  stb : Stb N M s
  fd_ : H fd = some (fdO cl spot)
  cl_ : H cl = some (.lst (zs cells))
  sa_ : H sa = some osa
  rw_ : Rw H y P
  rm : RM N P M
  nfd : ¬ fp lay s fd
  ncl : ¬ fp lay s cl
  nsa : ¬ fp lay s sa
  ny : ¬ fp lay s y
  nP : ∀ p ∈ P, ¬ fp lay s p.1
  pl : P.length ≤ 1000
  rl : s.rows.length ≤ g
  ll : s.lg.length ≤ g
section
variable {sa fd cl : Addr} {osa : O} {cells : List Int} {N : Nat} {a : Addr} {H H' : AH} {lay lay' : Ro → Addr} {s s' : St} {M M' : (Nat → Bool) → Prop} {P : List (Addr × List Bool)} {y : Addr} {spot spot' g : Nat}
theorem LR.fd0 (L : LR sa fd cl osa cells N a H lay s M P y spot g) (hs : spot < 100000) : Fd H H fd cl cells spot := .self L.fd_ L.cl_ hs
theorem LR.feed (L : LR sa fd cl osa cells N a H lay s M P y spot g) (h : Fd H H' fd cl cells spot') (hsa : sa ≠ fd) : LR sa fd cl osa cells N a H' lay s M P y spot' g := by
  have hy : y ≠ fd := fun e => by
    have := L.rw_.at_
    rw [e, L.fd_] at this; cases this
  have hp : ∀ p ∈ P, p.1 ≠ fd := fun p hp e => by
    have := L.rw_.each p hp
    rw [e, L.fd_] at this; cases this
  exact ⟨h.sol L.so L.nfd, L.ins, L.stb, h.fd, h.cl, h.ext _ _ L.sa_ hsa, ⟨h.ext _ _ L.rw_.at_ hy, fun p hpm => h.ext _ _ (L.rw_.each p hpm) (hp p hpm)⟩, L.rm, L.nfd, L.ncl, L.nsa, L.ny, L.nP, L.pl, L.rl, L.ll⟩
theorem LR.more (L : LR sa fd cl osa cells N a H lay s M P y spot g) (E : Ext H H') : LR sa fd cl osa cells N a H' lay s M P y spot g :=
  ⟨(E.sf L.so).1, L.ins, L.stb, E _ _ L.fd_, E _ _ L.cl_, E _ _ L.sa_, L.rw_.ext E, L.rm, L.nfd, L.ncl, L.nsa, L.ny, L.nP, L.pl, L.rl, L.ll⟩
theorem LR.move (L : LR sa fd cl osa cells N a H lay s M P y spot g) (h : SF H lay s H' lay' s') (S : Stb N M' s') (R : RM N P M') {g' : Nat} (hr : s'.rows.length ≤ g') (hl : s'.lg.length ≤ g') : LR sa fd cl osa cells N a H' lay' s' M' P y spot g' := by
  have o1 := L.so.out h.2 L.fd_ L.nfd
  have o2 := L.so.out h.2 L.cl_ L.ncl
  have o3 := L.so.out h.2 L.sa_ L.nsa
  have o4 := L.so.out h.2 L.rw_.at_ L.ny
  exact ⟨h.1, h.ins L.ins, S, o1.1, o2.1, o3.1, ⟨o4.1, fun p hp => (L.so.out h.2 (L.rw_.each p hp) (L.nP p hp)).1⟩, R, o1.2, o2.2, o3.2, o4.2, fun p hp => (L.so.out h.2 (L.rw_.each p hp) (L.nP p hp)).2, L.pl, hr, hl⟩
end
end Mine
end
section
open PySem PySem.W
set_option tactic.hygienic false
namespace Mine
noncomputable def roundC : S := (.seq (.ite (.cmp .eq (.callG 21 [(.loc 1), (.c (.int 3))]) (.c (.int 0))) (.seq (.asg 7 (.callG 22 [(.loc 1), (.loc 2)])) (.seq (.asg 3 (.callG 24 [(.loc 3), (.loc 7)])) (.seq (.ite (.and (.not (.callM 6 (.loc 8) [(.loc 7)])) (.and (.cmp .ne (.loc 3) (.list [])) (.c (.bool true)))) (.seq (.ret (.c (.bool false))) .skip) .skip) .skip))) .skip) (.seq (.asg 9 (.lcomp [false, true, true, false, false, false, false, false, false, false] (.rng (.c (.int 0)) (.callG 21 [(.loc 1), (.c (.int 4))])) (.c (.bool true)) (.emit (.callG 23 [(.loc 1), (.loc 2)])))) (.seq (.ite (.not (.callG 26 [(.loc 8), (.loc 3), (.loc 9), (.loc 2)])) (.seq (.ret (.c (.bool false))) .skip) .skip) .skip)))
section
variable {n : Nat} {sa fd cl : Addr} {osa : O} {cells : List Int} {N : Nat} {a : Addr} {H H' : AH} {lay lay' : Ro → Addr} {s s' : St} {M M' : (Nat → Bool) → Prop} {P : List (Addr × List Bool)} {y : Addr} {spot spot' g : Nat}
theorem w_ask {v0 v4 v5 v6 v7 v9 : V} {Q : List V → AH → Prop} {R : V → AH → Prop} (L : LR sa fd cl osa cells N a H lay s M P y spot g) (hsa : sa ≠ fd) (hN0 : 1 ≤ N) (hN : N ≤ 5) (hs : spot + 20 < 100000) (hg : g + 400000 < sz)
    (q : ∀ H' lay' s' v9 spot', LR sa fd cl osa cells N a H' lay' s' M P y spot' (g + 300000) → spot' ≤ spot + 20 → Q [v0, .ref fd, .int N, .ref y, v4, v5, v6, v7, .ref a, v9] H') :
    (S.seq (.asg 9 (.lcomp [false, true, true, false, false, false, false, false, false, false] (.rng (.c (.int 0)) (.callG 21 [(.loc 1), (.c (.int 4))])) (.c (.bool true)) (.emit (.callG 23 [(.loc 1), (.loc 2)])))) (.seq (.ite (.not (.callG 26 [(.loc 8), (.loc 3), (.loc 9), (.loc 2)])) (.seq (.ret (.c (.bool false))) .skip) .skip) .skip)).wp (spN tab02 (n + 5)) [v0, .ref fd, .int N, .ref y, v4, v5, v6, v7, .ref a, v9] H Q R := by
  have hsz : (2000 : Nat) < sz := by decide
  refine s_seq (s_asg (e_lcI (i_rng (lo := 0) rfl (e_callG (e_cons (pv_ok (.loc 1) (.ref fd) _ rfl (e_cons (pv_ok (.c (.int 4)) (.int 4) _ rfl (e_nil (c_draw (L.fd0 (by lia)) (by decide) fun r hr0 hr1 => ?_))))))))))
  have L1 := L.feed ((L.fd0 (by lia)).step (by lia)) hsa
  refine rgW_i (by decide) ⟨by unfold big; lia, by unfold big; lia⟩ ?_
  refine cloop_ind (fun i acc H2 => Ex2 fun (ls : List Int) (sp : Nat) => An6 (acc = zs ls) (ls.length = i) (i ≤ 3) (sp = spot + 1 + 2 * i) (LR sa fd cl osa cells N a H2 lay s M P y sp g) (∀ l ∈ ls, l ≠ 0 ∧ l.natAbs ≤ N)) _ (fun i v acc H2 K hv hI hK => ⟨trivial, ?_⟩) (fun acc H2 hI => ⟨trivial, ?_⟩) ⟨[], spot + 1, rfl, rfl, by decide, rfl, L1, fun l h => (by cases h)⟩
  · obtain ⟨ls, sp, rfl, hl, hi3, rfl, L2, hls⟩ := hI
    obtain ⟨rfl, hi⟩ := rng_at hv
    refine pvT ?_
    refine (?_ : (X.callG 23 [(.loc 1), (.loc 2)]).ev (spN tab02 (n + 5)) _ H2 _)
    refine e_callG (e_cons (pv_ok (.loc 1) (.ref fd) _ rfl (e_cons (pv_ok (.loc 2) (.int N) _ rfl (e_nil (c_literal (n := n + 3) (L2.fd0 (by lia)) (by lia) hN0 fun H3 l h3 h0 h1 => ⟨by rw [zs_len]; lia, hK _ _ ⟨ls ++ [l], _, (zs_app (r := [l])).symm, by rw [List.length_append, List.length_singleton, hl], by lia, by lia, L2.feed h3 hsa, fun x hx => ?_⟩⟩))))))
    rcases List.mem_append.mp hx with hx | hx
    · exact hls x hx
    · rw [List.mem_singleton.mp hx]; exact ⟨h0, h1⟩
  · obtain ⟨ls, sp, rfl, hl, hi3, rfl, L2, hls⟩ := hI
    rw [rng_len] at hl hi3
    intro ab hab
    have E : Ext H2 (H2.set ab (.lst (zs ls))) := Ext.refl.new hab
    have L3 := L2.more E
    have hab1 : (H2.set ab (.lst (zs ls))) ab = some (.lst (zs ls)) := set_eq
    have nab := L2.so.nfp hab
    show (S.seq _ _).wp _ _ (H2.set ab (.lst (zs ls))) _ _
    generalize H2.set ab (.lst (zs ls)) = H3 at L3 hab1
    have hO := outer_oth (H := H3) (lay := lay) (s := s)
    have hrw : Rw (outer H3 lay s) y P := ⟨outer_at L3.rw_.at_ L3.ny, fun p hp => outer_at (L3.rw_.each p hp) (L3.nP p hp)⟩
    have hrl := L3.rl
    have hll := L3.ll
    refine s_seq (s_iteE (x_not (e_callG (e_cons (pv_ok (.loc 8) (.ref a) _ rfl (e_cons (pv_ok (.loc 3) (.ref y) _ rfl (e_cons (pv_ok (.loc 9) (.ref ab) _ rfl (e_cons (pv_ok (.loc 2) (.int N) _ rfl (e_nil (c_told L3.so L3.ins L3.stb hN hO hrw L3.rm L3.pl (outer_at hab1 nab) (by lia) hls (by lia) (by lia) fun H4 lay4 s4 hO4 h4 S4 g4 => notW_ (brW_f (s_skip (s_skip (q _ _ _ _ _ (L3.move h4 S4 L3.rm ?_ ?_) ?_)))))))))))))))))
    · have := g4.rows; lia
    · obtain ⟨t, h7, h8, _⟩ := g4.lg
      rw [h7, List.length_append]; lia
    · rw [rng_len]; lia
end
end Mine
end
section
open PySem PySem.W
set_option tactic.hygienic false
namespace Mine
section
variable {n : Nat} {sa fd cl : Addr} {osa : O} {cells : List Int} {N : Nat} {a : Addr} {H H' : AH} {lay lay' : Ro → Addr} {s s' : St} {M M' : (Nat → Bool) → Prop} {P P' : List (Addr × List Bool)} {y y' : Addr} {spot spot' g : Nat}
theorem LR.move2 (L : LR sa fd cl osa cells N a H lay s M P y spot g) (h : SF H lay s H' lay' s') (S : Stb N M' s') (R : RM N P' M') (hw : Rw H y' P') (ny : ¬ fp lay s y') (nP : ∀ p ∈ P', ¬ fp lay s p.1) (pl : P'.length ≤ 1000) {g' : Nat} (hr : s'.rows.length ≤ g') (hl : s'.lg.length ≤ g') : LR sa fd cl osa cells N a H' lay' s' M' P' y' spot g' := by
  have o1 := L.so.out h.2 L.fd_ L.nfd
  have o2 := L.so.out h.2 L.cl_ L.ncl
  have o3 := L.so.out h.2 L.sa_ L.nsa
  have o4 := L.so.out h.2 hw.at_ ny
  exact ⟨h.1, h.ins L.ins, S, o1.1, o2.1, o3.1, ⟨o4.1, fun p hp => (L.so.out h.2 (hw.each p hp) (nP p hp)).1⟩, R, o1.2, o2.2, o3.2, o4.2, fun p hp => (L.so.out h.2 (hw.each p hp) (nP p hp)).2, pl, hr, hl⟩
theorem w_behind {v0 v4 v5 v6 v7 v9 : V} {Q : List V → AH → Prop} {R : V → AH → Prop} {t : S} (L : LR sa fd cl osa cells N a H lay s M P y spot g) (hsa : sa ≠ fd) (hN0 : 1 ≤ N) (hN : N ≤ 5) (hs : spot + 20 < 100000) (hg : g + 400000 < sz)
    (q : ∀ H' lay' s' M' P' y' v7' spot', LR sa fd cl osa cells N a H' lay' s' M' P' y' spot' (g + 1) → spot' ≤ spot + 3 → t.wp (spN tab02 (n + 5)) [v0, .ref fd, .int N, .ref y', v4, v5, v6, v7', .ref a, v9] H' Q R) :
    (S.seq (.ite (.cmp .eq (.callG 21 [(.loc 1), (.c (.int 3))]) (.c (.int 0))) (.seq (.asg 7 (.callG 22 [(.loc 1), (.loc 2)])) (.seq (.asg 3 (.callG 24 [(.loc 3), (.loc 7)])) (.seq (.ite (.and (.not (.callM 6 (.loc 8) [(.loc 7)])) (.and (.cmp .ne (.loc 3) (.list [])) (.c (.bool true)))) (.seq (.ret (.c (.bool false))) .skip) .skip) .skip))) .skip) t).wp (spN tab02 (n + 5)) [v0, .ref fd, .int N, .ref y, v4, v5, v6, v7, .ref a, v9] H Q R := by
  have hsz : (2000 : Nat) < sz := by decide
  have hrl := L.rl
  have hll := L.ll
  refine s_seq (s_iteE (e_cmp (e_callG (e_cons (pv_ok (.loc 1) (.ref fd) _ rfl (e_cons (pv_ok (.c (.int 3)) (.int 3) _ rfl (e_nil (c_draw (n := n + 4) (L.fd0 (by lia)) (by decide) fun r hr0 hr1 => pv_ok (.c (.int 0)) (.int 0) _ rfl (cmpW_i eq_ii ?_))))))))))
  have L1 := L.feed ((L.fd0 (by lia)).step (by lia)) hsa
  generalize H.set fd (fdO cl (spot + 1)) = H1 at L1
  have hkeep : ∀ {H' lay' s' M' P' y' spot'}, LR sa fd cl osa cells N a H' lay' s' M' P' y' spot' g → LR sa fd cl osa cells N a H' lay' s' M' P' y' spot' (g + 1) := fun L => ⟨L.so, L.ins, L.stb, L.fd_, L.cl_, L.sa_, L.rw_, L.rm, L.nfd, L.ncl, L.nsa, L.ny, L.nP, L.pl, Nat.le_succ_of_le L.rl, Nat.le_succ_of_le L.ll⟩
  cases decide (r = 0)
  · exact brW_f (s_skip (q _ _ _ _ _ _ _ _ (hkeep L1) (by lia)))
  refine brW_t (s_seq (s_asg (e_callG (e_cons (pv_ok (.loc 1) (.ref fd) _ rfl (e_cons (pv_ok (.loc 2) (.int N) _ rfl (e_nil (c_clause (n := n + 3) (L1.fd0 (by lia)) (by lia) hN0 hN fun H2 b c h2 hb0 hb hc => ?_)))))))))
  have L2 := L1.feed h2 hsa
  have nb := L1.so.nfp hb0
  refine s_seq (s_asg (e_callG (e_cons (pv_ok (.loc 3) (.ref y) _ rfl (e_cons (pv_ok (.loc 7) (.ref b) _ rfl (e_nil (c_kept (n := n + 4) (N := N) L2.rw_ hb (.inr rfl) L2.rm.len hc.1 (by have := hc.2; lia) L2.pl fun H3 y3 E3 hy3 hw3 => ?_))))))))
  have L3 := L2.more E3
  have ny3 := L2.so.nfp hy3
  refine s_seq (s_iteE (e_and (x_not (cm_okX L3.so L3.ins rfl (e_cons (pv_ok (.loc 7) (.ref b) _ rfl (e_nil (c_addc (n := n + 3) L3.so L3.ins L3.stb hN (E3 _ _ hb) (.inr rfl) nb hc.1 (by have := hc.2; lia) (by lia) (by lia) fun H4 lay4 s4 h4 S4 g4 => notW_ ?_))))))))
  have L4 := L3.move2 h4 S4 (L.rm.kept hc.1) hw3 ny3 (fun p hp => L3.nP p (List.mem_filter.mp hp).1) (Nat.le_trans (List.length_filter_le ..) L3.pl) (g' := g + 1) (by have := g4.rows; lia) (by
    obtain ⟨t, h7, h8, _⟩ := g4.lg
    rw [h7, List.length_append]; lia)
  have hgo := q _ _ _ _ _ _ (.ref b) _ L4 (by lia)
  cases hr : s4.ref with
  | false => exact andW_f (brW_f (s_skip (s_skip hgo)))
  | true =>
    refine andW_t (e_and (e_cmp (pv_ok (.loc 3) (.ref y3) _ rfl (e_emptyL fun z hz => ?_))))
    have hP : (P.filter fun p => satR p.2 c) = [] := by
      cases hf : P.filter fun p => satR p.2 c with
      | nil => rfl
      | cons p l => exact absurd (L4.rm.mod p (by rw [hf]; exact List.mem_cons_self ..)) ((S4.r hr).1 _)
    have hl4 := L4.rw_.at_
    rw [hP] at hl4
    have hzy : y3 ≠ z := fun e => by rw [e, hz] at hl4; cases hl4
    refine cmpW_i (b := false) (ne_nil (ds := []) (by rw [set_ne hzy]; exact hl4) rfl set_eq) (andW_f (boolW_ (brW_f (s_skip (s_skip (q _ _ _ _ _ _ (.ref b) _ (L4.more (Ext.refl.new hz)) (by lia)))))))
theorem w_round {v0 v4 v5 v6 v7 v9 : V} {Q : List V → AH → Prop} {R : V → AH → Prop} (L : LR sa fd cl osa cells N a H lay s M P y spot g) (hsa : sa ≠ fd) (hN0 : 1 ≤ N) (hN : N ≤ 5) (hs : spot + 60 < 100000) (hg : g + 500000 < sz)
    (q : ∀ H' lay' s' M' P' y' v7' v9' spot', LR sa fd cl osa cells N a H' lay' s' M' P' y' spot' (g + 300001) → spot' ≤ spot + 30 → Q [v0, .ref fd, .int N, .ref y', v4, v5, v6, v7', .ref a, v9'] H') :
    roundC.wp (spN tab02 (n + 5)) [v0, .ref fd, .int N, .ref y, v4, v5, v6, v7, .ref a, v9] H Q R :=
  w_behind L hsa hN0 hN (by lia) (by lia) fun H' lay' s' M' P' y' v7' spot' L' hs' => w_ask L' hsa hN0 hN (by lia) (by lia) fun H2 lay2 s2 v9' spot2 L2 hs2 => q _ _ _ _ _ _ _ _ _ (by rw [show g + 300001 = g + 1 + 300000 by lia]; exact L2) (by lia)
end
end Mine
end
section
open PySem PySem.W
set_option tactic.hygienic false
namespace Mine
theorem Fd.cext {H0 H H' : AH} {fd cl : Addr} {cells : List Int} {spot : Nat} (h : Fd H0 H fd cl cells spot) (E : Ext H H') : Fd H0 H' fd cl cells spot := ⟨fun y o hy hn => E _ _ (h.ext y o hy hn), E _ _ h.fd, E _ _ h.cl, h.b⟩
section
variable {n : Nat} {H : AH} {Q : V → AH → Prop}
noncomputable def lawC : S := (.seq (.asg 6 (.lcomp [false, true, true, false, false, false, false, false, false, false] (.rng (.c (.int 0)) (.bin .add (.c (.int 3)) (.callG 21 [(.loc 1), (.c (.int 6))]))) (.c (.bool true)) (.emit (.callG 22 [(.loc 1), (.loc 2)])))) (.seq (.for_ 7 (.src (.loc 6)) (.seq (.asg 3 (.callG 24 [(.loc 3), (.loc 7)])) .skip)) (.seq (.asg 8 (.new 5 [(.loc 6), (.loc 2)])) (.seq (.for_ 5 (.rng (.c (.int 0)) (.bin .add (.c (.int 2)) (.callG 21 [(.loc 1), (.c (.int 3))]))) roundC) (.seq (.ret (.c (.bool true))) .skip)))))
theorem w_law1 {sa : Addr} {osa : O} {script : List Int} (hsa : H sa = some osa) (hsee : H.see sa = some (.lst (zs script)))
    (q : ∀ H' fd cl cells N P y spot v4, fd ≠ sa → H' sa = some osa → Fd H' H' fd cl cells spot → spot ≤ 10 → 3 ≤ N → N ≤ 4 → Rw H' y P → P.map (·.2) = rowsOf N → lawC.wp (spN tab02 (n + 5)) [.ref sa, .ref fd, .int (N : Nat), .ref y, v4, .un, .un, .un, .un, .un] H' (fun _ H => Q .none H) Q) : spN tab02 (n + 6) 27 [.ref sa] H Q := by
  refine sp_go rfl rfl (s_seq (s_asg (e_dictS (e_cons (e_bi (e_cons (sl_hiS (k := 40) rfl hsee rfl fun x hx => e_nil (b_list (seq_l set_eq) fun cl hcl => e_cons (pv_ok (.c (.int 0)) (.int 0) _ rfl (e_nil fun fd hfd => ?_))))))))))
  have E1 := Ext.refl.new (o := .lst ((zs script).take 40)) hx
  have E2 := E1.new (o := .lst ((zs script).take 40)) (E1.none hcl)
  have E3 := E2.new (o := fdO cl 0) (E2.none hfd)
  have hne : fd ≠ sa := fun e => by rw [e, E2 _ _ hsa] at hfd; cases hfd
  have hcf : cl ≠ fd := fun e => by rw [← e, set_eq] at hfd; cases hfd
  have F0 : Fd _ (((H.set x (.lst ((zs script).take 40))).set cl (.lst ((zs script).take 40))).set fd (fdO cl 0)) fd cl (script.take 40) 0 := .self set_eq (by rw [set_ne hcf, set_eq]; unfold zs; rw [List.map_take]) (by decide)
  have hs3 := E3 _ _ hsa
  show S.wp (spN tab02 (n + 5)) _ _ (((H.set x (.lst ((zs script).take 40))).set cl (.lst ((zs script).take 40))).set fd (fdO cl 0)) _ _
  generalize (((H.set x (.lst ((zs script).take 40))).set cl (.lst ((zs script).take 40))).set fd (fdO cl 0)) = Hb at F0 hs3
  clear E1 E2 E3 hfd hcl hx
  refine s_seq (s_asg (e_bin (pv_ok (.c (.int 3)) (.int 3) _ rfl (e_callG (e_cons (pv_ok (.loc 1) (.ref fd) _ rfl (e_cons (pv_ok (.c (.int 2)) (.int 2) _ rfl (e_nil (c_draw (n := n + 4) F0 (by decide) fun r hr0 hr1 => binW_i ?_))))))))))
  have F1 := F0.step (by decide)
  obtain ⟨N, hN⟩ : ∃ N : Nat, (3 : Int) + r = (N : Nat) := ⟨(3 + r).toNat, by lia⟩
  rw [hN]
  generalize Hb.set fd (fdO cl (0 + 1)) = H1 at F1
  refine s_seq (s_asg (e_list (e_cons (e_tup (e_nil fun t ht => e_nil fun y hy => ?_)))))
  have G1 := Ext.refl.new (o := .tup []) ht
  have G2 := G1.new (o := .lst [.ref t]) (G1.none hy)
  have hty : t ≠ y := fun e => by rw [← e, set_eq] at hy; cases hy
  have hR : Rw ((H1.set t (.tup [])).set y (.lst [.ref t])) y [(t, [])] := ⟨set_eq, fun p hp => by rw [List.mem_singleton.mp hp, set_ne hty]; exact set_eq⟩
  have F2 := F1.cext G2
  generalize ((H1.set t (.tup [])).set y (.lst [.ref t])) = H2 at F2 hR
  have hb : -big ≤ (N : Int) ∧ (N : Int) < big := ⟨by unfold big; lia, by unfold big; lia⟩
  refine s_seq (s_rng (lo := 0) (hi := (N : Nat)) rfl rfl (by decide) hb ?_)
  refine floop_ind (fun i m H' => Ex3 fun (y : Addr) (P : List (Addr × List Bool)) (v4 : V) => An4 (m = [.ref sa, .ref fd, .int (N : Nat), .ref y, v4, .un, .un, .un, .un, .un]) (Fd Hb H' fd cl (script.take 40) 1) (Rw H' y P) (P.map (·.2) = rowsOf i)) _ (fun i v m H' K hv hI hK => ⟨trivial, ?_⟩) (fun m H' hI => ⟨trivial, ?_⟩) ⟨y, _, .un, rfl, F2, hR, rfl⟩
  · refine nn fun hC => ?_
    obtain ⟨y, P, v4, rfl, F, hR, hP⟩ := hI
    obtain ⟨rfl, hi⟩ := rng_at hv
    refine hC ?_
    exact s_seq (s_asg (w_more hR hP (by lia) fun H3 y3 P3 E3 hR3 hP3 => s_skip (hK _ _ ⟨y3, P3, _, rfl, F.cext E3, hR3, hP3⟩)))
  · refine nn fun hC => ?_
    obtain ⟨y, P, v4, rfl, F, hR, hP⟩ := hI
    refine hC ?_
    rw [rng_len, show ((N : Int) - 0).toNat = N by lia] at hP
    exact q _ _ _ _ _ _ _ _ _ hne (F.ext _ _ hs3 fun e => hne e.symm) (.self F.fd F.cl F.b) (by decide) (by lia) (by lia) hR hP
end
end Mine
end
section
open PySem PySem.W
set_option tactic.hygienic false
namespace Mine
section
variable {n : Nat} {H : AH} {Q : V → AH → Prop}
set_option maxHeartbeats 1000000 in
theorem w_law2 {sa fd cl : Addr} {osa : O} {cells : List Int} {N : Nat} {P : List (Addr × List Bool)} {y : Addr} {spot : Nat} {v4 : V} (hne : fd ≠ sa) (hsa : H sa = some osa) (F : Fd H H fd cl cells spot) (hs : spot ≤ 10) (hN3 : 3 ≤ N) (hN4 : N ≤ 4) (hR : Rw H y P) (hP : P.map (·.2) = rowsOf N)
    (q : ∀ H', H' sa = some osa → Q (.bool true) H') : lawC.wp (spN tab02 (n + 5)) [.ref sa, .ref fd, .int (N : Nat), .ref y, v4, .un, .un, .un, .un, .un] H (fun _ H => Q .none H) Q := by
  have hsz : (2000 : Nat) < sz := by decide
  have hyf : y ≠ fd := fun e => by
    have := hR.at_
    rw [e, F.fd] at this; cases this
  have hpf : ∀ p ∈ P, p.1 ≠ fd := fun p hp e => by
    have := hR.each p hp
    rw [e, F.fd] at this; cases this
  have hRw : ∀ {H' : AH} {sp : Nat}, Fd H H' fd cl cells sp → Rw H' y P := fun F' => ⟨F'.ext _ _ hR.at_ hyf, fun p hp => F'.ext _ _ (hR.each p hp) (hpf p hp)⟩
  have hPl : P.length ≤ 1000 := by
    have := congrArg List.length hP
    rw [List.length_map, rowsOf_len] at this
    have h2 : 2 ^ N ≤ 2 ^ 4 := Nat.pow_le_pow_right (by decide) hN4
    lia
  refine s_seq (s_asg (e_lcI (i_rng (lo := 0) rfl (e_bin (pv_ok (.c (.int 3)) (.int 3) _ rfl (e_callG (e_cons (pv_ok (.loc 1) (.ref fd) _ rfl (e_cons (pv_ok (.c (.int 6)) (.int 6) _ rfl (e_nil (c_draw (n := n + 4) F (by decide) fun r hr0 hr1 => binW_i (rgW_i (by decide) ⟨by unfold big; lia, by unfold big; lia⟩ ?_)))))))))))))
  have F1 := F.step (by lia)
  generalize H.set fd (fdO cl (spot + 1)) = H1 at F1
  refine cloop_ind (fun i acc H' => Ex2 fun (cs : List (Addr × List Int)) (sp : Nat) => An6 (acc = cs.map (fun p => .ref p.1)) ((∀ p ∈ cs, H' p.1 = some (.tup (zs p.2)) ∧ Lits N p.2)) (cs.length = i) (i ≤ 8) (sp = spot + 1 + 2 * i) (Fd H H' fd cl cells sp)) _ (fun i v acc H' K hv hI hK => ⟨trivial, ?_⟩) (fun acc H' hI => ⟨trivial, ?_⟩) ⟨[], _, rfl, fun p h => (by cases h), rfl, by decide, rfl, F1⟩
  · obtain ⟨cs, sp, rfl, hcs, hl, hi8, rfl, F2⟩ := hI
    obtain ⟨rfl, hi⟩ := rng_at hv
    refine pvT ?_
    refine (?_ : (X.callG 22 [(.loc 1), (.loc 2)]).ev (spN tab02 (n + 5)) _ H' _)
    have hF' : Fd H' H' fd cl cells (spot + 1 + 2 * i) := .self F2.fd F2.cl (by lia)
    refine e_callG (e_cons (pv_ok (.loc 1) (.ref fd) _ rfl (e_cons (pv_ok (.loc 2) (.int N) _ rfl (e_nil (c_clause (n := n + 3) hF' (by lia) (by lia) (by lia) fun H3 b c h3 hb0 hb hc => ⟨by rw [List.length_map]; lia, hK _ _ ⟨cs ++ [(b, c)], _, by rw [List.map_append]; rfl, fun p hp => ?_, by rw [List.length_append, List.length_singleton, hl], by lia, by lia, Fd.trans F2.ext h3⟩⟩))))))
    rcases List.mem_append.mp hp with hp | hp
    · refine ⟨h3.ext _ _ (hcs p hp).1 fun e => ?_, (hcs p hp).2⟩
      have := (hcs p hp).1
      rw [e, F2.fd] at this; cases this
    · rw [List.mem_singleton.mp hp]; exact ⟨hb, hc⟩
  obtain ⟨cs, sp, rfl, hcs, hl, hi8, rfl, F2⟩ := hI
  intro cb hcb
  have E2 := Ext.refl.new (o := .lst (cs.map fun p => .ref p.1)) hcb
  have F3 := F2.cext E2
  have hcb3 : (H'.set cb (.lst (cs.map fun p => .ref p.1))) cb = some (.lst (cs.map fun p => .ref p.1)) := set_eq
  have hcs3 : ∀ p ∈ cs, (H'.set cb (.lst (cs.map fun p => .ref p.1))) p.1 = some (.tup (zs p.2)) := fun p hp => E2 _ _ (hcs p hp).1
  show S.wp (spN tab02 (n + 5)) _ _ (H'.set cb (.lst (cs.map fun p => .ref p.1))) _ _
  generalize H'.set cb (.lst (cs.map fun p => .ref p.1)) = H3 at F3 hcb3 hcs3
  have hlits : ∀ p ∈ cs, Lits N p.2 := fun p hp => (hcs p hp).2
  clear hcs E2 hcb F2
  rw [rng_len] at hl hi8
  have hsp : spot + 1 + 2 * (rngL 0 (3 + r)).length < 99000 := by rw [rng_len]; lia
  generalize spot + 1 + 2 * (rngL 0 (3 + r)).length = sp at F3 hsp
  have hcl8 : cs.length ≤ 8 := by lia
  refine s_seq (s_for (pv_ok (.loc 6) (.ref cb) _ rfl (it_l hcb3 ?_)))
  refine floop_ind (fun j m H' => Ex3 fun (y' : Addr) (P' : List (Addr × List Bool)) (v7 : V) => An5 (m = [.ref sa, .ref fd, .int (N : Nat), .ref y', v4, .un, .ref cb, v7, .un, .un]) (Ext H3 H') (Rw H' y' P') (RM N P' (All ((cs.map (·.2)).take j))) (P'.length ≤ 1000)) _ (fun j v m H' K hv hI hK => ?_) (fun m H' hI => ?_) ⟨y, P, .un, rfl, .refl, hRw F3, (RM.first hP).iff fun α => ⟨fun _ c hc => (by cases hc), fun _ => trivial⟩, hPl⟩
  · refine nn fun hC => ?_
    obtain ⟨y', P', v7, rfl, E, hR', hM', hl'⟩ := hI
    refine hC ?_
    rw [List.getElem?_map] at hv
    obtain ⟨p, hp, rfl⟩ := Option.map_eq_some_iff.mp hv
    have hpm := List.mem_of_getElem? hp
    have hpl := hlits p hpm
    have hp2 : (cs.map (·.2))[j]? = some p.2 := by rw [List.getElem?_map, hp]; rfl
    refine ⟨see_lst (E _ _ hcb3), s_seq (s_asg (e_callG (e_cons (pv_ok (.loc 3) (.ref y') _ rfl (e_cons (pv_ok (.loc 7) (.ref p.1) _ rfl (e_nil (c_kept (n := n + 4) (N := N) hR' (E _ _ (hcs3 p hpm)) (.inr rfl) hM'.len hpl.1 (by have := hpl.2; lia) hl' fun H4 y4 E4 _ hR4 => s_skip (hK _ _ ⟨y4, _, _, rfl, E.trans E4, hR4, (hM'.kept hpl.1).iff fun α => ?_, Nat.le_trans (List.length_filter_le ..) hl'⟩)))))))))⟩
    constructor
    · rintro ⟨h7, h8⟩ c hc
      rcases (mem_take_succ hp2).mp hc with hc | rfl
      · exact h7 c hc
      · exact h8
    · exact fun h7 => ⟨fun c hc => h7 c ((mem_take_succ hp2).mpr (.inl hc)), h7 _ ((mem_take_succ hp2).mpr (.inr rfl))⟩
  refine nn fun hC => ?_
  obtain ⟨y', P', v7, rfl, E, hR', hM', hl'⟩ := hI
  refine hC ?_
  rw [List.length_map, ← List.length_map (f := (·.2)) (as := cs), List.take_length] at hM'
  refine ⟨see_lst (E _ _ hcb3), ?_⟩
  have F4 := F3.cext E
  have hsa4 : H' sa = some osa := F4.ext _ _ hsa fun e => hne e.symm
  have hcls : Cls H' cb (cs.map (·.2)) := by
    obtain ⟨f, hf, hf2⟩ := refs_of (cs := cs)
    refine ⟨f, by rw [E _ _ hcb3, hf, List.length_map], fun j c hc => ?_⟩
    rw [List.getElem?_map] at hc
    obtain ⟨p, hp, rfl⟩ := Option.map_eq_some_iff.mp hc
    rw [hf2 j p hp]
    exact E _ _ (hcs3 p (List.mem_of_getElem? hp))
  refine s_seq (s_asg (e_new (e_cons (pv_ok (.loc 6) (.ref cb) _ rfl (e_cons (pv_ok (.loc 2) (.int N) _ rfl (e_nil fun a d ha hd had => c_init (n := n + 2) (N := N) hcls (by lia) (fun c hc => ?_) (by rw [List.length_map]; lia) ha hd had fun H5 lay s hout hins So S hrl hll => ⟨rfl, ?_⟩)))))))
  · obtain ⟨p, hp, rfl⟩ := List.mem_map.mp hc
    exact ⟨(hlits p hp).1, by have := (hlits p hp).2; lia⟩
  rw [List.length_map] at hrl hll
  have L : LR sa fd cl osa cells N a H5 lay s (All (cs.map (·.2))) P' y' sp 8 := ⟨So, hins, S, (hout _ _ F4.fd).1, (hout _ _ F4.cl).1, (hout _ _ hsa4).1, ⟨(hout _ _ hR'.at_).1, fun p hp => (hout _ _ (hR'.each p hp)).1⟩, hM', (hout _ _ F4.fd).2, (hout _ _ F4.cl).2, (hout _ _ hsa4).2, (hout _ _ hR'.at_).2, fun p hp => (hout _ _ (hR'.each p hp)).2, hl', by lia, by lia⟩
  refine s_seq (s_forI (i_rng (lo := 0) rfl (e_bin (pv_ok (.c (.int 2)) (.int 2) _ rfl (e_callG (e_cons (pv_ok (.loc 1) (.ref fd) _ rfl (e_cons (pv_ok (.c (.int 3)) (.int 3) _ rfl (e_nil (c_draw (n := n + 4) (L.fd0 (by lia)) (by decide) fun t ht0 ht1 => binW_i (rgW_i (by decide) ⟨by unfold big; lia, by unfold big; lia⟩ ?_))))))))))))
  have L1 := L.feed ((L.fd0 (by lia)).step (by lia)) fun e => hne e.symm
  refine floop_ind (fun j m H' => Ex9 fun (lay : Ro → Addr) (s : St) (M : (Nat → Bool) → Prop) (P : List (Addr × List Bool)) (y : Addr) (sp2 : Nat) (v5 v7 v9 : V) => An4 (m = [.ref sa, .ref fd, .int (N : Nat), .ref y, v4, v5, .ref cb, v7, .ref a, v9]) (LR sa fd cl osa cells N a H' lay s M P y sp2 (8 + 300001 * j)) (sp2 ≤ sp + 1 + 30 * j) (j ≤ 4)) _ (fun j v m H' K hv hI hK => ⟨trivial, ?_⟩) (fun m H' hI => ⟨trivial, ?_⟩) ⟨lay, s, _, P', y', sp + 1, .un, v7, .un, rfl, L1, by lia, by decide⟩
  · refine nn fun hC => ?_
    obtain ⟨lay, s, M, P, y, sp2, v5, v7, v9, rfl, L2, hsp2, hj⟩ := hI
    obtain ⟨rfl, hi⟩ := rng_at hv
    refine hC ?_
    have hsz2 : (3000000 : Nat) < sz := by decide
    exact w_round L2 (fun e => hne e.symm) (by lia) (by lia) (by lia) (by lia) fun H3 lay3 s3 M3 P3 y3 v7' v9' spot' L3 hs3 => hK _ _ ⟨lay3, s3, M3, P3, y3, spot', _, v7', v9', rfl, by rw [show 8 + 300001 * (j + 1) = 8 + 300001 * j + 300001 by lia]; exact L3, by lia, by lia⟩
  · refine nn fun hC => ?_
    obtain ⟨lay, s, M, P, y, sp2, v5, v7, v9, rfl, L2, _⟩ := hI
    refine hC ?_
    exact s_seq (s_ret (pv_ok (.c (.bool true)) (.bool true) _ rfl (q _ L2.sa_)))
theorem c_law {sa : Addr} {osa : O} {script : List Int} (hsa : H sa = some osa) (hsee : H.see sa = some (.lst (zs script))) (q : ∀ H', H' sa = some osa → Q (.bool true) H') : spN tab02 (n + 6) 27 [.ref sa] H Q :=
  w_law1 hsa hsee fun H' fd cl cells N P y spot v4 hne hs F hsp h3 h4 hR hP => w_law2 hne hs F hsp h3 h4 hR hP q
end
end Mine
end
section
open PySem PySem.W PySem.Calls PyProof.Rows
namespace Mine
noncomputable def pr02 : Program := PySem.Challenge.rw_nu0277_02.row.toRowW.prog
noncomputable def bindsTop (st : Stmt) : Bool := st.ctorIdx == 0 || st.ctorIdx == 2 || (sw st).el false (asg := fun ts _ => !(ts.any fun t => nameOf t == some ("__name__" : Str)))
noncomputable def q02 : Program := { pr02 with main := { pr02.main with body := pr02.main.body.filter bindsTop } }
noncomputable def T02 : Tb := ⟨[("ordered", 0), ("_law_draw", 21), ("_law_clause", 22), ("_law_literal", 23), ("_law_kept", 24), ("_law_all_of", 25), ("_law_is_told_right", 26), ("law", 27)],
  [("says", 2), ("let", 3), ("back_to", 4), ("add_clause", 6), ("refute", 7), ("keep", 8), ("spread", 9), ("has_moved", 10), ("warm", 11), ("lesson", 12), ("height_of", 13), ("learn", 14), ("blame", 15), ("hottest", 16), ("decide", 17), ("solve", 18), ("value", 19), ("failed", 20)],
  [("FIRST_SPAN", 16), ("MOST_HEAT", 1000000000)], "Search", 5, 1, "height_of", 13⟩
noncomputable def fs02 : List Addr := [62, 76, 83, 90, 97, 118, 123, 130, 137, 144, 151, 156, 163, 170, 177, 182, 189, 196, 203, 210, 217, 229, 234, 241, 246, 253, 258, 263]
noncomputable def as02 : List Addr := [1, 2, 3, 15, 18, 23, 24, 26, 27, 29, 30, 31, 33, 34, 36, 37, 38, 39, 40, 41, 44, 51, 52, 53, 56, 58, 59, 61, 62, 70, 72, 73, 75, 76, 77, 79, 80, 82, 83, 84, 86, 87, 89, 90, 91, 93, 94, 96, 97, 98, 99, 100, 101, 102, 105, 108, 113, 114, 117, 118, 119, 122, 123, 124, 126, 127, 129, 130, 131, 133, 134, 136, 137, 138, 140, 141, 143, 144, 145, 147, 148, 150, 151, 152, 155, 156, 157, 159, 160, 162, 163, 164, 166, 167, 169, 170, 171, 173, 174, 176, 177, 178, 181, 182, 183, 185, 186, 188, 189, 190, 192, 193, 195, 196, 197, 199, 200, 202, 203, 204, 206, 207, 209, 210, 211, 213, 214, 216, 217, 218, 219, 220, 223, 225, 226, 228, 229, 230, 233, 234, 235, 237, 238, 240, 241, 242, 245, 246, 247, 249, 250, 252, 253, 254, 257, 258, 259, 262, 263]
theorem open02 : opening pr02 = plainProg pr02.main.scope.names := by kernel_rfl
theorem fence02 : ∀ s, fenceModules? pr02 s = some s := fun s => by kernel_rfl
theorem top02a (w : World) (os : OsState) : (topQ pr02 w ((boot_heap w.params).nsMap mainGlobals "__annotations__") 4000 (boot0 w os)).map (fun s => (staticsOk (importedModules pr02.main.body) (boot_heap w.params) s.abs.heap && namesBound pr02 s.abs.heap && gensDone s.abs && laidKept (boot_heap w.params) s.abs.heap, Fast.tw4187177175401517315 q02 [] (importedModules pr02.main.body) (fun s => xlAt q02 [] s) true s.abs)) = some (true, openGood q02 []) := by kernel_rfl
theorem top02b (w : World) (os : OsState) : (topQ pr02 w ((boot_heap w.params).nsMap mainGlobals "__annotations__") 4000 (boot0 w os)).map (fun s => obsOf pr02 T02 as02 fs02 220 s.abs) = some (true, somes tab02) := by kernel_rfl
theorem left02 : LeftO pr02 q02 [] (fun s => xlAt q02 [] s) (obsOf pr02 T02 as02 fs02 220) (fun _ => (true, somes tab02)) 4000 := left_top open02 rfl fence02 boot_is top02a top02b
theorem def02 : (defOf q02 "law").map (fun x => (x.1.name, some (x.1.params, x.1.body, x.1.scope), x.2, kwWritten? x.1.params.kwonlyargs x.1.params.kw_defaults)) = some (("law" : Str), pr02.theDef "law", ([] : List (Str × PySem.Expr)), some ([] : List (Str × PySem.Expr))) := by kernel_rfl
end Mine
end
section
open PySem PySem.W PySem.Calls PyProof.Rows
namespace Mine
theorem head02 (call : ∀ d kwd, d.name = ("law" : Str) → WalkO q02 [] (XL q02 []) (SaysT pr02 T02 as02 fs02 220 tab02) PySem.Challenge.rw_nu0277_02.row.toRowW d kwd fun f vs => PySem.call f vs) : PySem.Challenge.rw_nu0277_02.Holds := by
  refine holds_law (by kernel_rfl) fun said => ?_
  obtain ⟨⟨d, kwd⟩, h1, h2⟩ := Option.map_eq_some_iff.mp def02
  simp only [Prod.mk.injEq] at h2
  obtain ⟨h2, h3, h4, h5⟩ := h2
  subst h4
  exact holds_open (r := PySem.Challenge.rw_nu0277_02.row) (q := q02) (loose := []) left02 (says_of (T := T02)) says_keeps (fun s e => xl_of s e) XL.keeps (d := d) (kwd := []) h1 h3.symm h5 (fun s _ => recFacts_nil rfl) (by kernel_rfl) said (by kernel_rfl) ⟨rfl, rfl, rfl, rfl, rfl, by decide +kernel⟩ (by w_witness2) (call d [] h2)
theorem walk02 (d : DefRec) (kwd : List (Str × PySem.Expr)) (hn : d.name = ("law" : Str)) : WalkO q02 [] (XL q02 []) (SaysT pr02 T02 as02 fs02 220 tab02) PySem.Challenge.rw_nu0277_02.row.toRowW d kwd fun f vs => PySem.call f vs := by
  intro w s₀ s₁ mg mb G Y a o pm cd doc dV kV ho hd hcd hD hmg hg args vals as hpre hlay hrd hwl hlo
  have T := G.T
  rw [hn] at hmg
  clear hD ho hd hcd
  wrow_args hpre hlay hrd hwl hlo
  rename_i ns _ _ _ _ _ _ _ sa vs _ _ _ wl _ hI _ hlen _
  have hsa := well_plain wl (by assumption)
  refine wpAny_call (codeAny_mono (law_walk (T := T02) Y hg T.g T.b T.builtins T.nolimit hsa hI (Nat.le_trans (by omega) (show 63 ≤ sz by decide)) (name := "law") (g := 27) (by kernel_rfl) hmg (n := 6) (by decide) fun H Q osa h1 h2 q => c_law (n := 0) h1 h2 q) fun r s' hr => ?_)
  obtain ⟨rfl, h1, h2, h3⟩ := hr
  refine GoodW.toG ⟨.inl ⟨.bool true, .bool true, [], rfl, raisesW_false (fun ct h => by cases h), .bool true, postW_of rfl (by wtm_val) rfl, fun _ => ⟨List.nodup_nil, fun a h => by cases h⟩⟩, h3, h2, h1⟩
end Mine
theorem PySem.Challenge.cw_nu0277_02_holds : PySem.Challenge.rw_nu0277_02.Holds :=
  Mine.head02 Mine.walk02
end
