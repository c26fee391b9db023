import PyProof.Rows.All
import Wide.All
import OpenK.AllK
import Wide.FinOn
import PyProof.ExcBaseAll.Exception
import Lean
import PySem.Challenge.RW_nu0277_01
set_option linter.all false
set_option Elab.async false
set_option autoImplicit false
set_option maxRecDepth 100000
set_option genInjectivity false
set_option genSizeOf false
set_option bootstrap.genMatcherCode false
section
open PySem
namespace Mine
inductive Ex2{α β:Type}(P:α→β→Prop):Prop
 |mk (x0:α) (x1:β) (h:P x0 x1)
inductive Ex3{α β γ:Type}(P:α→β→γ→Prop):Prop
 |mk (x0:α) (x1:β) (x2:γ) (h:P x0 x1 x2)
inductive Ex4{α β γ δ:Type}(P:α→β→γ→δ→Prop):Prop
 |mk (x0:α) (x1:β) (x2:γ) (x3:δ) (h:P x0 x1 x2 x3)
inductive Ex5{α β γ δ ε:Type}(P:α→β→γ→δ→ε→Prop):Prop
 |mk (x0:α) (x1:β) (x2:γ) (x3:δ) (x4:ε) (h:P x0 x1 x2 x3 x4)
inductive Ex6{α β γ δ ε ζ:Type}(P:α→β→γ→δ→ε→ζ→Prop):Prop
 |mk (x0:α) (x1:β) (x2:γ) (x3:δ) (x4:ε) (x5:ζ) (h:P x0 x1 x2 x3 x4 x5)
inductive Ex7{α β γ δ ε ζ η:Type}(P:α→β→γ→δ→ε→ζ→η→Prop):Prop
 |mk (x0:α) (x1:β) (x2:γ) (x3:δ) (x4:ε) (x5:ζ) (x6:η) (h:P x0 x1 x2 x3 x4 x5 x6)
inductive Ex9{α β γ δ ε ζ η θ ι:Type}(P:α→β→γ→δ→ε→ζ→η→θ→ι→Prop):Prop
 |mk (x0:α) (x1:β) (x2:γ) (x3:δ) (x4:ε) (x5:ζ) (x6:η) (x7:θ) (x8:ι) (h:P x0 x1 x2 x3 x4 x5 x6 x7 x8)
inductive An3(p0 p1 p2:Prop):Prop
 |mk (h0:p0) (h1:p1) (h2:p2)
inductive An4(p0 p1 p2 p3:Prop):Prop
 |mk (h0:p0) (h1:p1) (h2:p2) (h3:p3)
inductive An5(p0 p1 p2 p3 p4:Prop):Prop
 |mk (h0:p0) (h1:p1) (h2:p2) (h3:p3) (h4:p4)
inductive An6(p0 p1 p2 p3 p4 p5:Prop):Prop
 |mk (h0:p0) (h1:p1) (h2:p2) (h3:p3) (h4:p4) (h5:p5)
inductive An7(p0 p1 p2 p3 p4 p5 p6:Prop):Prop
 |mk (h0:p0) (h1:p1) (h2:p2) (h3:p3) (h4:p4) (h5:p5) (h6:p6)
inductive An8(p0 p1 p2 p3 p4 p5 p6 p7:Prop):Prop
 |mk (h0:p0) (h1:p1) (h2:p2) (h3:p3) (h4:p4) (h5:p5) (h6:p6) (h7:p7)
inductive An9(p0 p1 p2 p3 p4 p5 p6 p7 p8:Prop):Prop
 |mk (h0:p0) (h1:p1) (h2:p2) (h3:p3) (h4:p4) (h5:p5) (h6:p6) (h7:p7) (h8:p8)
inductive B1{α β:Type}(a:Option α)(f:α→β)(z:β):Prop
 |mk (x:α) (h:a=some x) (e:f x=z)
theorem wj{α β:Type}{a:Option α}{f:α→β}{z:β}(h:a.map f=some z):B1 a f z:=let ⟨x,h,e⟩:=Option.map_eq_some_iff.mp h;⟨x,h,e⟩
inductive BB{α β:Type}(a:Option α)(f:α→Option β)(z:β):Prop
 |mk (x:α) (h:a=some x) (e:f x=some z)
theorem zd{α β:Type}{a:Option α}{f:α→Option β}{z:β}(h:a.bind f=some z):BB a f z:=let ⟨x,h,e⟩:=Option.bind_eq_some_iff.mp h;⟨x,h,e⟩
theorem nn{p:Prop}(h:¬p→False):p:=Classical.byContradiction h
theorem nz_n{N:Nat}{x:Int}(h: -x≠0∧(-x).natAbs≤N):x≠0∧x.natAbs≤N:=⟨fun e=>h.1 (by rw [e];rfl),Int.natAbs_neg x▸h.2⟩
theorem nz_p{N:Nat}{x:Int}(h:x≠0∧x.natAbs≤N): -x≠0∧(-x).natAbs≤N:=⟨fun e=>h.1 (Int.neg_eq_zero.mp e),(Int.natAbs_neg x).symm▸h.2⟩
theorem na_i{a b:Nat}(h:(a:Int)=b):a=b:=Int.ofNat.inj h
theorem na_eq{x l:Int}(h:x.natAbs=l.natAbs)(n:x≠l):x= -l:=(Int.natAbs_eq_natAbs_iff.mp h).resolve_left n
theorem na_1{x:Int}(h:x≠0):(1:Int)≤x.natAbs:=Int.ofNat_le.mpr (Int.natAbs_pos.mpr h)
theorem na_r{N:Nat}{r:Int}(h0:0≤r)(h1:r<N):(1+r).natAbs≤N:=by
 obtain ⟨m,rfl⟩:=Int.eq_ofNat_of_zero_le h0
 show ((1+m:Nat):Int).natAbs≤N
 rw [Int.natAbs_natCast,Nat.add_comm]
 exact Int.ofNat_lt.mp h1
theorem sub_1{n k:Nat}(h:1≤k)(h2:k≤n):k-1<n:=Nat.lt_of_lt_of_le (Nat.sub_lt h Nat.one_pos) h2
theorem sub_s{n j:Nat}(h:j<n):n-(j+1)<n-j:=Nat.sub_succ_lt_self n j h
theorem i_one{v:Nat}(h:1≤v):(1:Int)+((v-1:Nat):Int)=v:=by
 rw [Int.add_comm]
 show ((v-1+1:Nat):Int)=v
 rw [Nat.sub_add_cancel h]
theorem na_v{N:Nat}{v:Int}(h1:1≤v)(h2:v≤N):v.natAbs≤N:=by
 obtain ⟨m,rfl⟩:=Int.eq_ofNat_of_zero_le (Int.le_trans (by decide) h1)
 rw [Int.natAbs_natCast]
 exact Int.ofNat_le.mp h2
theorem na_c{v:Int}(h1:1≤v):(v.natAbs:Int)=v:=Int.natAbs_of_nonneg (Int.le_trans (by decide) h1)
theorem i_sub1{v:Nat}(h:1≤v):(v:Int)-1=((v-1:Nat):Int):=(Int.ofNat_sub h).symm
theorem idx_p{n:Nat}(h:0<n):0≤(-1:Int)+n:=by omega
theorem idx_t{n:Nat}(h:0<n):((-1:Int)+n).toNat=n-1:=by
 rw [Int.add_comm,←Int.sub_eq_add_neg,i_sub1 h];rfl
theorem t_0{n:Nat}:((n:Int)-0).toNat=n:=by rw [Int.sub_zero];rfl
theorem t_1{n:Nat}:((n:Int)+1-1).toNat=n:=by rw [Int.add_sub_cancel];rfl
theorem nsm{α:Type}{a:α}{P:Prop}(h:none=some a):P:=Option.noConfusion rfl (heq_of_eq h)
noncomputable def InvP{α:Type}(P:α→Prop)(o:Option α):Prop:=∀a,o=some a→P a
theorem invN{α:Type}{P:α→Prop}:InvP P none:=fun _ h=>nsm h
theorem invS{α:Type}{P:α→Prop}{a:α}(h:P a):InvP P (some a):=fun b e=>Option.some.inj e▸h
set_option genCtorIdx false in
inductive Vw where
 |k (c:Const)|nm (x:Str)|at_ (o:PySem.Expr) (f:Str) (p:Pos)|un (op:UnaryOp) (x:PySem.Expr)|bin (l:PySem.Expr) (op:Operator) (y:PySem.Expr)|cmp (l:PySem.Expr) (ops:List CmpOp) (cs:List PySem.Expr)
 |ite (t b o:PySem.Expr)|lst (es:List PySem.Expr)|tup (es:List PySem.Expr)|dct (ks:List (Option PySem.Expr)) (vs:List PySem.Expr)|sub (o i:PySem.Expr)|call (f:PySem.Expr) (args:List PySem.Expr) (kws:List Keyword) (p:Pos)
 |lc (e:PySem.Expr) (gs:List Comprehension) (s:Scope)|dc (e v:PySem.Expr) (gs:List Comprehension) (s:Scope)|bo (op:BoolOp) (es:List PySem.Expr)|sl (lo hi st:Option PySem.Expr)|js (vs:List PySem.Expr)|fv (v:PySem.Expr) (c:Int) (s:Option PySem.Expr)|no
noncomputable def Vw.el{α:Type}(d:α)(w:Vw)(k:Const→α:=fun _=>d)(nm:Str→α:=fun _=>d)(at_:PySem.Expr→Str→Pos→α:=fun _ _ _=>d)(un:UnaryOp→PySem.Expr→α:=fun _ _=>d)(bin:PySem.Expr→Operator→PySem.Expr→α:=fun _ _ _=>d)
  (cmp:PySem.Expr→List CmpOp→List PySem.Expr→α:=fun _ _ _=>d) (ite:PySem.Expr→PySem.Expr→PySem.Expr→α:=fun _ _ _=>d) (lst:List PySem.Expr→α:=fun _=>d) (tup:List PySem.Expr→α:=fun _=>d) (dct:List (Option PySem.Expr)→List PySem.Expr→α:=fun _ _=>d)
  (sub:PySem.Expr→PySem.Expr→α:=fun _ _=>d) (call:PySem.Expr→List PySem.Expr→List Keyword→Pos→α:=fun _ _ _ _=>d) (lc:PySem.Expr→List Comprehension→Scope→α:=fun _ _ _=>d) (dc:PySem.Expr→PySem.Expr→List Comprehension→Scope→α:=fun _ _ _ _=>d)
  (bo:BoolOp→List PySem.Expr→α:=fun _ _=>d) (sl:Option PySem.Expr→Option PySem.Expr→Option PySem.Expr→α:=fun _ _ _=>d) (js:List PySem.Expr→α:=fun _=>d) (fv:PySem.Expr→Int→Option PySem.Expr→α:=fun _ _ _=>d):α:=
 Vw.rec (motive:=fun _=>α) k nm at_ un bin cmp ite lst tup dct sub call lc dc bo sl js fv d w
noncomputable def vw:PySem.Expr→Vw
 | .Constant k _ _=> .k k
 | .Name x _=> .nm x
 | .Attribute o f p=> .at_ o f p
 | .UnaryOp op x _=> .un op x
 | .BinOp l op y _=> .bin l op y
 | .Compare l ops cs _=> .cmp l ops cs
 | .IfExp t b o _=> .ite t b o
 | .List es _=> .lst es
 | .Tuple es _ _=> .tup es
 | .Dict ks vs _=> .dct ks vs
 | .Subscript o i _=> .sub o i
 | .Call f args kws p=> .call f args kws p
 | .ListComp e gs s _=> .lc e gs s
 | .DictComp e v gs s _=> .dc e v gs s
 | .BoolOp op es _=> .bo op es
 | .Slice lo hi st _=> .sl lo hi st
 | .JoinedStr vs _=> .js vs
 | .FormattedValue v c s _=> .fv v c s
 |_=> .no
noncomputable def VwOk(e:PySem.Expr)(w:Vw):Prop:=w.el True (fun k=>∃j p,e= .Constant k j p) (fun x=>∃p,e= .Name x p) (fun o f p=>e= .Attribute o f p) (fun op x=>∃p,e= .UnaryOp op x p) (fun l op y=>∃p,e= .BinOp l op y p) (fun l ops cs=>∃p,e= .Compare l ops cs p)
 (fun t b o=>∃p,e= .IfExp t b o p) (fun es=>∃p,e= .List es p) (fun es=>∃k p,e= .Tuple es k p) (fun ks vs=>∃p,e= .Dict ks vs p) (fun o i=>∃p,e= .Subscript o i p) (fun f args kws p=>e= .Call f args kws p) (fun x gs s=>∃p,e= .ListComp x gs s p)
 (fun x v gs s=>∃p,e= .DictComp x v gs s p) (fun op es=>∃p,e= .BoolOp op es p) (fun lo hi st=>∃p,e= .Slice lo hi st p) (fun vs=>∃p,e= .JoinedStr vs p) (fun v c s=>∃p,e= .FormattedValue v c s p)
theorem vw_ok(e:PySem.Expr):VwOk e (vw e):=by cases e<;>first|exact ⟨_,rfl⟩|exact trivial|exact rfl|exact ⟨_,_,rfl⟩
theorem vw_inv{α:Type}{P:α→Prop}{f:Vw→Option α}{e:PySem.Expr}(h:∀w,VwOk e w→InvP P (f w)):InvP P (f (vw e)):=h _ (vw_ok e)
noncomputable def nameOf(e:PySem.Expr):Option Str:=(vw e).el none (nm:=some)
noncomputable def IsName(e:PySem.Expr)(x:Str):Prop:=∃p,e= .Name x p
theorem nameOf_inv(e:PySem.Expr):InvP (IsName e) (nameOf e):=vw_inv (f:=fun w=>w.el none (nm:=some)) fun w q=>by cases w<;>first|exact invN|exact invS q
theorem wu{e:PySem.Expr}{x:Str}(h:nameOf e=some x):∃p,e= .Name x p:=nameOf_inv e x h
noncomputable def unOf(e:PySem.Expr):Option (UnaryOp×PySem.Expr):=(vw e).el none (un:=fun op x=>some (op,x))
noncomputable def IsUn(e:PySem.Expr)(x:UnaryOp×PySem.Expr):Prop:=∃p,e= .UnaryOp x.1 x.2 p
theorem unOf_inv(e:PySem.Expr):InvP (IsUn e) (unOf e):=vw_inv (f:=fun w=>w.el none (un:=fun op x=>some (op,x))) fun w q=>by cases w<;>first|exact invN|exact invS q
noncomputable def constOf(e:PySem.Expr):Option Const:=(vw e).el none (k:=some)
noncomputable def IsConst(e:PySem.Expr)(k:Const):Prop:=∃j p,e= .Constant k j p
theorem constOf_inv(e:PySem.Expr):InvP (IsConst e) (constOf e):=vw_inv (f:=fun w=>w.el none (k:=some)) fun w q=>by cases w<;>first|exact invN|exact invS q
noncomputable def atOf(e:PySem.Expr):Option (PySem.Expr×Str×Pos):=(vw e).el none (at_:=fun o f p=>some (o,f,p))
noncomputable def IsAt(e:PySem.Expr)(x:PySem.Expr×Str×Pos):Prop:=e= .Attribute x.1 x.2.1 x.2.2
theorem atOf_inv(e:PySem.Expr):InvP (IsAt e) (atOf e):=vw_inv (f:=fun w=>w.el none (at_:=fun o f p=>some (o,f,p))) fun w q=>by cases w<;>first|exact invN|exact invS q
noncomputable def callOf(e:PySem.Expr):Option (PySem.Expr×List PySem.Expr×List Keyword×Pos):=(vw e).el none (call:=fun f args kws p=>some (f,args,kws,p))
noncomputable def IsCallX(e:PySem.Expr)(x:PySem.Expr×List PySem.Expr×List Keyword×Pos):Prop:=e= .Call x.1 x.2.1 x.2.2.1 x.2.2.2
theorem callOf_inv(e:PySem.Expr):InvP (IsCallX e) (callOf e):=vw_inv (f:=fun w=>w.el none (call:=fun f args kws p=>some (f,args,kws,p))) fun w q=>by cases w<;>first|exact invN|exact invS q
noncomputable def gdP{α:Type}(p:Prop) [Decidable p](x:α):Option α:=if p then some x else none
theorem gdP_mk{α:Type}{p:Prop} [Decidable p]{x:α}(h:p):gdP p x=some x:=if_pos h
theorem gdP_eq{α:Type}{p:Prop} [Decidable p]{x y:α}(h:gdP p x=some y):p∧x=y:=by
 by_cases q:p
 ·exact ⟨q,Option.some.inj ((gdP_mk q).symm.trans h)⟩
 ·exact nsm ((if_neg q).symm.trans h)
noncomputable def ifS{α:Type}:Option α→(α→Prop)→Prop
 |some x,k=>k x
 |none,_=>False
theorem zh{α:Type}{o:Option α}{k:α→Prop}(h:ifS o k):∃x,o=some x∧k x:=by
 cases o with
 |some x=>exact ⟨x,rfl,h⟩
 |none=>exact h.elim
theorem zg{α:Type}{o:Option α}{k:α→Prop}{x:α}(e:o=some x)(h:k x):ifS o k:=by rw [e];exact h
theorem anyO{α:Type}{p:α→Bool}{x:Option α}(h:x.any p=true):∃y,x=some y∧p y=true:=(Option.any_eq_true p x).mp h
noncomputable def intK:Const→Option Int
 | .int i=>some i
 |_=>none
noncomputable def boolK:Const→Option Bool
 | .bool i=>some i
 |_=>none
theorem intK_inv(k:Const):InvP (fun i=>k= .int i) (intK k):=by cases k<;>first|exact invN|exact invS rfl
theorem boolK_inv(k:Const):InvP (fun i=>k= .bool i) (boolK k):=by cases k<;>first|exact invN|exact invS rfl
noncomputable def strK:Const→Option Str
 | .str i=>some i
 |_=>none
theorem strK_inv(k:Const):InvP (fun i=>k= .str i) (strK k):=by cases k<;>first|exact invN|exact invS rfl
noncomputable def nmT:List Str:=["known","heights","causes","row","begins","seen","liked","rows","watching","heats","gain","log","is_refuted","blamed","clashes","conflict_limit","cells","spot"]
noncomputable def nmOf(s:Str):Option Nat:=nmT.idxOf? s
inductive V where
 |un|none|bool (b:Bool)|int (i:Int)|str (k:Nat)|ref (a:Addr)
 deriving DecidableEq,Inhabited
noncomputable def V.el{α:Type}(d:α)(v:V)(un:α:=d)(nn:α:=d)(bo:Bool→α:=fun _=>d)(it:Int→α:=fun _=>d)(st:Nat→α:=fun _=>d)(rf:Addr→α:=fun _=>d):α:=V.rec (motive:=fun _=>α) un nn bo it st rf v
noncomputable def av:Value→V
 | .none=> .none
 | .bool b=> .bool b
 | .int i _=> .int i
 | .str s _=>(nmOf s).elim .un .str
 | .ref a=> .ref a
 |_=> .un
noncomputable def nun(v:V):Option V:=v.el (some v) (un:=none)
theorem nun_inv(v:V):InvP (fun w=>v=w∧v≠ .un) (nun v):=by cases v<;>first|exact invN|exact invS ⟨rfl,fun h=>nomatch h⟩
theorem nun_eq{v w:V}(h:nun v=some w):v=w∧v≠ .un:=nun_inv v w h
noncomputable def V.i?(v:V):Option Int:=v.el .none (it:=some)
noncomputable def V.r?(v:V):Option Addr:=v.el .none (rf:=some)
noncomputable def V.b?(v:V):Option Bool:=v.el .none (bo:=some)
noncomputable def V.s?(v:V):Option Nat:=v.el .none (st:=some)
theorem V.i_inv(v:V):InvP (fun i=>v= .int i) v.i?:=by cases v<;>first|exact invN|exact invS rfl
theorem V.i_eq{v:V}{i:Int}(h:v.i?=some i):v= .int i:=V.i_inv v i h
theorem V.r_inv(v:V):InvP (fun i=>v= .ref i) v.r?:=by cases v<;>first|exact invN|exact invS rfl
theorem V.r_eq{v:V}{i:Addr}(h:v.r?=some i):v= .ref i:=V.r_inv v i h
theorem V.b_inv(v:V):InvP (fun i=>v= .bool i) v.b?:=by cases v<;>first|exact invN|exact invS rfl
theorem V.b_eq{v:V}{i:Bool}(h:v.b?=some i):v= .bool i:=V.b_inv v i h
theorem V.s_inv(v:V):InvP (fun i=>v= .str i) v.s?:=by cases v<;>first|exact invN|exact invS rfl
theorem V.s_eq{v:V}{i:Nat}(h:v.s?=some i):v= .str i:=V.s_inv v i h
inductive O where
 |lst (l:List V)
 |tup (l:List V)
 |dct (es:List (Int×V))
 |att (es:List (Nat×V))
 |inst (d:Addr)
 |froz (x:O) (o:Obj)
noncomputable def O.el{α:Type}(d:α)(o:O)(lst:List V→α:=fun _=>d)(tup:List V→α:=fun _=>d)(dct:List (Int×V)→α:=fun _=>d)(att:List (Nat×V)→α:=fun _=>d)(ins:Addr→α:=fun _=>d)(frz:O→α:=fun _=>d):α:=O.rec (motive:=fun _=>α) lst tup dct att ins (fun x _ _=>frz x) o
noncomputable abbrev AH:=Addr→Option O
noncomputable def AH.set(H:AH)(a:Addr)(x:O):AH:=fun b=>if b=a then some x else H b
noncomputable def O.un(o:O):O:=o.el o (frz:=id)
noncomputable def AH.see(H:AH)(a:Addr):Option O:=(H a).map O.un
noncomputable def put{K:Type} [DecidableEq K](es:List (K×V))(k:K)(v:V):List (K×V):=
 if es.any (fun e=>e.1=k) then es.map (fun e=>if e.1=k then (e.1,v) else e) else es++[(k,v)]
noncomputable def get{K:Type} [DecidableEq K](es:List (K×V))(k:K):Option V:=(es.find? fun e=>e.1=k).map (·.2)
noncomputable def rem{K:Type} [DecidableEq K](es:List (K×V))(k:K):List (K×V):=es.filter fun e=>decide (e.1≠k)
set_option genCtorIdx false in
inductive Op where|add|sub|mul|fdiv|mod|pow(u:Unit)
set_option genCtorIdx false in
inductive Cm where|eq|ne|lt|le|gt|ge|is|isNot(u:Unit)|mem|notMem
set_option genCtorIdx false in
inductive B where
 |abs|len|toList|toTuple|toInt|isBool (u:Unit)|sortAbs
 |pop|append|extend|dget1|dget2|dpop1|dpop2|setdef|update
noncomputable def B.onList:B→Bool
 | .pop=>true
 | .append=>true
 | .extend=>true
 |_=>false
noncomputable def B.onDict:B→Bool
 | .dget1=>true
 | .dget2=>true
 | .dpop1=>true
 | .dpop2=>true
 | .setdef=>true
 | .update=>true
 |_=>false
set_option genCtorIdx false in
inductive X where
 |c (v:V)
 |loc (i:Nat)
 |attr (x:X) (f:Nat)
 |neg (x:X)
 |not (x:X)
 |bin (op:Op) (l r:X)
 |cmp (op:Cm) (l r:X)
 |cmp2 (o1 o2:Cm) (a b c:X)
 |and (l r:X)
 |or (l r:X)
 |ite (c a b:X)
 |list (xs:List X)
 |tup (xs:List X)
 |dict0
 |dict1 (k v:X)
 |dictS (ks:List Nat) (xs:List X)
 |sub (x i:X)
 |slice (x lo hi:X)
 |rev (x:X)
 |bi (f:B) (xs:List X)
 |bm (f:B) (o:X) (xs:List X)
 |callG (f:Nat) (xs:List X)
 |callM (f:Nat) (o:X) (xs:List X)
 |new (f:Nat) (xs:List X)
 |sup (f:Nat)
 |sortH (f:Nat) (x:X) (o:X)
 |lcomp (mask:List Bool) (it cond b:X)
 |dcomp (mask:List Bool) (it k v:X)
 |cfor (it cond b:X)
 |emit (x:X)
 |rng (a b:X)
 |src (x:X)
set_option genCtorIdx false in
inductive S where
 |asg (i:Nat) (x:X)
 |asgN (js:List Nat) (xs:List X)
 |setA (o:X) (f:Nat) (x:X)
 |setI (o i x:X)
 |swap (o1 i1 o2 i2 x1 x2:X)
 |ex (x:X)
 |ite (c:X) (s t:S)
 |whl (c:X) (s:S)
 |for_ (i:Nat) (it:X) (s:S)
 |ret (x:X)
 |seq (s t:S)
 |skip
 |fail
 |rse (x:X)
 |limC (c:X) (xs:List X) (s t:S)
noncomputable def sz:Nat:=2^23
noncomputable def O.s?(o:O):Option (List V):=o.el none (lst:=some) (tup:=some)
noncomputable def seqOf(H:AH)(v:V):Option (List V):=v.r?.bind fun a=>(H.see a).bind O.s?
noncomputable def idx(l:List V)(n:Int):Option V:=if 0≤n then l[n.toNat]? else if 0≤n+l.length then l[(n+l.length).toNat]? else none
noncomputable def idxN(l:List V)(n:Int):Option Nat:=gdP (0≤n∧n<l.length) n.toNat
noncomputable def subK(k:V)(o:O):Option V:=o.el none (lst:=fun l=>k.i?.bind (idx l)) (tup:=fun l=>k.i?.bind (idx l)) (dct:=fun es=>k.i?.bind (get es)) (att:=fun es=>k.s?.bind (get es))
noncomputable def subV(H:AH)(v k:V):Option V:=v.r?.bind fun a=>(H.see a).bind (subK k)
noncomputable def O.in?(o:O):Option Addr:=o.el none (ins:=some)
noncomputable def O.at?(o:O):Option (List (Nat×V)):=o.el none (att:=some)
theorem O.in_inv(o:O):InvP (fun i=>o= .inst i) o.in?:=by cases o<;>first|exact invN|exact invS rfl
theorem O.in_eq{o:O}{i:Addr}(h:o.in?=some i):o= .inst i:=O.in_inv o i h
theorem O.at_inv(o:O):InvP (fun i=>o= .att i) o.at?:=by cases o<;>first|exact invN|exact invS rfl
theorem O.at_eq{o:O}{i:List (Nat×V)}(h:o.at?=some i):o= .att i:=O.at_inv o i h
noncomputable def atD(H:AH)(d:Addr):Option (Addr×List (Nat×V)):=(H d).bind fun o=>o.at?.map fun es=>(d,es)
noncomputable def insV(H:AH)(v:V):Option (Addr×List (Nat×V)):=v.r?.bind fun a=>(H a).bind fun o=>o.in?.bind (atD H)
inductive Ins(H:AH)(v:V)(p:Addr×List (Nat×V)):Prop
 |mk (a:Addr) (e1:v= .ref a) (e2:H a=some (.inst p.1)) (e3:H p.1=some (.att p.2))
theorem bindM{α β:Type}{o:Option α}{f:α→Option β}{x:α}{z:β}(h:o=some x)(h':f x=some z):o.bind f=some z:=h▸h'
theorem insV_mk{H:AH}{a d:Addr}{es:List (Nat×V)}(h1:H a=some (.inst d))(h2:H d=some (.att es)):insV H (.ref a)=some (d,es):=bindM (x:=a) rfl (bindM h1 (bindM (x:=d) rfl (bindM h2 rfl)))
theorem insV_eq{H:AH}{v:V}{p:Addr×List (Nat×V)}(h:insV H v=some p):Ins H v p:=by
 obtain ⟨a,h1,h⟩:=zd h
 obtain ⟨o,h2,h⟩:=zd h
 obtain ⟨d,h3,h⟩:=zd h
 obtain ⟨o',h4,h⟩:=zd h
 obtain ⟨es,h5,h⟩:=wj h
 subst h
 exact ⟨a,V.r_eq h1,O.in_eq h3▸h2,O.at_eq h5▸h4⟩
noncomputable def attrV(H:AH)(v:V)(f:Nat):Option V:=(insV H v).bind fun p=>(get p.2 f).bind nun
noncomputable def wv{α:Type}:List (Option α)→Option (List α)
 |[]=>some []
 |o::r=>o.bind fun x=>(wv r).map (x::·)
noncomputable def litV(v:V):Option PyData:=v.el none (nn:=some .none) (bo:=fun b=>some (.bool b)) (it:=fun i=>some (.int i))
noncomputable def seqD(f:List V→Option (List PyData))(o:O):Option PyData:=o.el none (lst:=fun l=>(f l).map .list) (tup:=fun l=>(f l).map .tuple)
noncomputable def rd(H:AH):Nat→V→Option PyData
 |0,v=>litV v
 |n+1,v=>v.r?.elim (litV v) fun a=>(H.see a).bind (seqD fun l=>wv (l.map (rd H n)))
noncomputable def V.isI(v:V):Bool:=v.el false (it:=fun _=>true)
theorem V.isI_eq{v:V}(h:v.isI=true):∃i,v= .int i:=by cases v<;>first|exact ⟨_,rfl⟩|exact Bool.noConfusion h
noncomputable def eqV(H:AH)(v w:V):Option Bool:=(rd H 3 v).bind fun d=>(rd H 3 w).map fun e=>PyData.eqv d e
noncomputable def memL(H:AH)(l:List V)(v:V):Option Bool:=(wv (l.map (rd H 2))).bind fun ds=>(rd H 2 v).map fun d=>ds.any fun y=>PyData.eqv y d
noncomputable def memO(H:AH)(v:V)(o:O):Option Bool:=o.el none (lst:=fun l=>memL H l v) (tup:=fun l=>memL H l v) (dct:=fun es=>v.i?.map fun i=>(get es i).isSome)
noncomputable def memV(H:AH)(v w:V):Option Bool:=w.r?.bind fun a=>(H.see a).bind (memO H v)
noncomputable def pairL(l:List V):Option (V×V):=(l.head?).bind fun a=>(l.tail.head?).bind fun b=>bif l.tail.tail.isEmpty then some (a,b) else none
theorem pairL_inv(l:List V):InvP (fun p=>l=[p.1,p.2]) (pairL l):=by
 cases l with
 |nil=>exact invN
 |cons a l=>cases l with
  |nil=>exact invN
  |cons b l=>cases l with
   |nil=>exact invS rfl
   |cons c l=>exact invN
noncomputable def O.p?(o:O):Option (V×V):=o.el none (tup:=pairL)
theorem O.p_eq{o:O}{p:V×V}(h:o.p?=some p):o= .tup [p.1,p.2]:=by
 cases o<;>first|exact congrArg O.tup (pairL_inv _ _ h)|cases h
noncomputable def gt2(p q:V×V):Option Bool:=p.1.i?.bind fun a=>p.2.i?.bind fun b=>q.1.i?.bind fun c=>q.2.i?.map fun d=>decide (c<a∨(a=c∧d<b))
noncomputable def gtR(H:AH)(v w:V):Option Bool:=v.r?.bind fun a=>w.r?.bind fun b=>(H.see a).bind fun o=>(H.see b).bind fun o'=>o.p?.bind fun p=>o'.p?.bind fun q=>gt2 p q
noncomputable def gtV(H:AH)(v w:V):Option Bool:=match v.i? with
 |some a=>w.i?.map fun b=>decide (b<a)
 |none=>gtR H v w
noncomputable def ltV(v w:V):Option Bool:=match v.i? with
 |some a=>match w.i? with
  |some b=>some (decide (a<b))
  |none=>none
 |none=>none
noncomputable def isV(v w:V):Option Bool:=w.el none (nn:=(nun v).map fun v=>decide (v= .none))
noncomputable def cmpV(H:AH)(op:Cm)(v w:V):Option Bool:=match op with
 | .eq=>eqV H v w
 | .ne=>(eqV H v w).map (!·)
 | .lt=>ltV v w
 | .le=>(ltV w v).map (!·)
 | .gt=>gtV H v w
 | .ge=>(ltV v w).map (!·)
 | .is=>isV v w
 | .isNot _=>(isV v w).map (!·)
 | .mem=>memV H v w
 | .notMem=>(memV H v w).map (!·)
noncomputable def big:Int:=4611686018427387904
noncomputable def intBin(op:Op)(a b:Int):Option Int:=match op with
 | .add=>some (a+b)
 | .sub=>some (a-b)
 | .mul=>gdP (-big≤a∧a≤big∧-big≤b∧b≤big) (a*b)
 | .fdiv=>gdP (0<b∧b≤1000000000) (a/b)
 | .mod=>gdP (0<b) (a % b)
 | .pow _=>gdP (a=2∧0≤b∧b≤60) (2^b.toNat)
noncomputable def absLe(a b:V):Prop:=a.el False (it:=fun a=>b.el False (it:=fun b=>a.natAbs≤b.natAbs))
noncomputable def putAll(es:List (Int×V)):List (Int×V)→List (Int×V)
 |[]=>es
 |(k,v)::r=>putAll (put es k v) r
noncomputable def keysOf(es:List (Int×V)):List V:=es.map fun e=> .int e.1
noncomputable def O.l?(o:O):Option (List V):=o.el none (lst:=some)
noncomputable def O.d?(o:O):Option (List (Int×V)):=o.el none (dct:=some)
noncomputable def O.n?(o:O):Option Nat:=o.el none (lst:=fun l=>some l.length) (tup:=fun l=>some l.length) (dct:=fun l=>some l.length)
noncomputable def O.k?(o:O):Option (List V):=o.el none (lst:=some) (dct:=fun l=>some (keysOf l))
theorem O.l_inv(o:O):InvP (fun i=>o= .lst i) o.l?:=by cases o<;>first|exact invN|exact invS rfl
theorem O.l_eq{o:O}{i:List V}(h:o.l?=some i):o= .lst i:=O.l_inv o i h
theorem O.d_inv(o:O):InvP (fun i=>o= .dct i) o.d?:=by cases o<;>first|exact invN|exact invS rfl
theorem O.d_eq{o:O}{i:List (Int×V)}(h:o.d?=some i):o= .dct i:=O.d_inv o i h
theorem O.k_inv(o:O):InvP (fun l=>o= .lst l∨∃es,o= .dct es∧l=keysOf es) o.k?:=by cases o<;>first|exact invN|exact invS (.inl rfl)|exact invS (.inr ⟨_,rfl,rfl⟩)
theorem O.k_eq{o:O}{l:List V}(h:o.k?=some l):o= .lst l∨∃es,o= .dct es∧l=keysOf es:=O.k_inv o l h
noncomputable def O.t?(o:O):Option (List V):=o.el none (tup:=some)
theorem O.t_inv(o:O):InvP (fun i=>o= .tup i) o.t?:=by cases o<;>first|exact invN|exact invS rfl
theorem O.t_eq{o:O}{i:List V}(h:o.t?=some i):o= .tup i:=O.t_inv o i h
noncomputable def addO(H:AH)(Q:V→AH→Prop)(o' o:O):Prop:=o.el False (lst:=fun l=>ifS o'.l? fun r=>l.length+r.length≤sz∧∀x,H x=none→Q (.ref x) (H.set x (.lst (l++r))))
 (tup:=fun l=>ifS o'.t? fun r=>l.length+r.length≤sz∧∀x,H x=none∨H x=some (.tup (l++r))→Q (.ref x) (H.set x (.tup (l++r))))
noncomputable def addR(H:AH)(v w:V)(Q:V→AH→Prop):Prop:=ifS v.r? fun a=>ifS w.r? fun b=>ifS (H a) fun o=>ifS (H b) fun o'=>addO H Q o' o
noncomputable def mulR(H:AH)(v w:V)(Q:V→AH→Prop):Prop:=ifS v.r? fun a=>ifS w.i? fun k=>ifS (H a) fun o=>ifS o.l? fun l=>(k=0∨k=1)∧∀x,H x=none→Q (.ref x) (H.set x (.lst (if k=0 then [] else l)))
noncomputable def binW(H:AH)(op:Op)(v w:V)(Q:V→AH→Prop):Prop:=match v.i? with
 |some a=>ifS w.i? fun b=>ifS (intBin op a b) fun r=>Q (.int r) H
 |none=>match op with
  | .add=>addR H v w Q
  | .mul=>mulR H v w Q
  |_=>False
theorem ifL_mk{o:Option O}{l:List V}{k:List V→Prop}(e:o=some (.lst l))(q:k l):ifS o fun x=>ifS x.l? k:=by rw [e];exact q
theorem ifD_mk{o:Option O}{l:List (Int×V)}{k:List (Int×V)→Prop}(e:o=some (.dct l))(q:k l):ifS o fun x=>ifS x.d? k:=by rw [e];exact q
noncomputable def dpopW(H:AH)(v k:V)(d:Option V)(Q:V→AH→Prop):Prop:=ifS v.r? fun a=>ifS k.i? fun i=>ifS (H a) fun o=>ifS o.d? fun es=>match get es i with
 |some w=>Q w (H.set a (.dct (rem es i)))
 |none=>ifS d fun d=>Q d H
noncomputable def dgetW(H:AH)(v k d:V)(Q:V→AH→Prop):Prop:=ifS v.r? fun a=>ifS k.i? fun i=>ifS (H.see a) fun o=>ifS o.d? fun es=>Q ((get es i).getD d) H
noncomputable def V.z?(v:V):Option Int:=v.el .none (bo:=fun b=>some (if b then 1 else 0)) (it:=some)
theorem V.z_i{v:V}{i:Int}(h:v.i?=some i):v.z?=some i:=by cases v<;>first|exact h|cases h
noncomputable def bi1(f:B)(v:V)(H:AH)(Q:V→AH→Prop):Prop:=match f with
 | .abs=>ifS v.i? fun i=>Q (.int i.natAbs) H
 | .len=>ifS v.r? fun a=>ifS (H.see a) fun o=>ifS o.n? fun n=>Q (.int n) H
 | .toList=>ifS (seqOf H v) fun l=>∀x,H x=none→Q (.ref x) (H.set x (.lst l))
 | .toTuple=>ifS v.r? fun a=>ifS (H.see a) fun o=>ifS o.l? fun l=>∀x,H x=none→Q (.ref x) (H.set x (.tup l))
 | .toInt=>ifS v.z? fun i=>Q (.int i) H
 | .isBool _=>ifS v.b? fun _=>Q (.bool true) H
 | .sortAbs=>ifS v.r? fun a=>ifS (H.see a) fun o=>ifS o.k? fun l=>l.all V.isI=true∧l.length<64∧∀ys,ys.Perm l→ys.Pairwise absLe→∀x,H x=none→Q (.ref x) (H.set x (.lst ys))
 | .pop=>ifS v.r? fun a=>ifS (H a) fun o=>ifS o.l? fun l=>ifS l.getLast? fun w=>Q w (H.set a (.lst l.dropLast))
 |_=>False
noncomputable def bi2(f:B)(v w:V)(H:AH)(Q:V→AH→Prop):Prop:=match f with
 | .append=>ifS v.r? fun a=>ifS (H a) fun o=>ifS o.l? fun l=>l.length<sz∧Q .none (H.set a (.lst (l++[w])))
 | .extend=>ifS v.r? fun a=>ifS w.r? fun b=>ifS (H a) fun o=>ifS o.l? fun l=>ifS (H.see b) fun o=>ifS o.l? fun r=>a≠b∧l.length+r.length≤sz∧Q .none (H.set a (.lst (l++r)))
 | .dget1=>dgetW H v w .none Q
 | .dpop1=>dpopW H v w none Q
 | .update=>ifS v.r? fun a=>ifS w.r? fun b=>ifS (H a) fun o=>ifS o.d? fun l=>ifS (H.see b) fun o=>ifS o.d? fun r=>a≠b∧l.length+r.length≤sz∧Q .none (H.set a (.dct (putAll l r)))
 |_=>False
noncomputable def bi3(f:B)(v w d:V)(H:AH)(Q:V→AH→Prop):Prop:=match f with
 | .dget2=>dgetW H v w d Q
 | .dpop2=>dpopW H v w (some d) Q
 | .setdef=>ifS v.r? fun a=>ifS w.i? fun i=>ifS (H a) fun o=>ifS o.d? fun es=>match get es i with
  |some v=>Q v H
  |none=>es.length<sz∧Q d (H.set a (.dct (put es i d)))
 |_=>False
noncomputable def biW(f:B)(vs:List V)(H:AH)(Q:V→AH→Prop):Prop:=match vs with
 |[v]=>bi1 f v H Q
 |[v,w]=>bi2 f v w H Q
 |[v,w,d]=>bi3 f v w d H Q
 |_=>False
theorem bi_1{f:B}{vs:List V}{H:AH}{Q:V→AH→Prop}(h:biW f vs H Q)(h2:∀v w,¬bi2 f v w H Q)(h3:∀v w d,¬bi3 f v w d H Q):∃v,vs=[v]∧bi1 f v H Q:=match vs,h with
 |[v],h=>⟨v,rfl,h⟩
 |[_,_],h=>(h2 _ _ h).elim
 |[_,_,_],h=>(h3 _ _ _ h).elim
theorem bi_2{f:B}{vs:List V}{H:AH}{Q:V→AH→Prop}(h:biW f vs H Q)(h2:∀v,¬bi1 f v H Q)(h3:∀v w d,¬bi3 f v w d H Q):∃v w,vs=[v,w]∧bi2 f v w H Q:=match vs,h with
 |[_],h=>(h2 _ h).elim
 |[v,w],h=>⟨v,w,rfl,h⟩
 |[_,_,_],h=>(h3 _ _ _ h).elim
theorem bi_3{f:B}{vs:List V}{H:AH}{Q:V→AH→Prop}(h:biW f vs H Q)(h2:∀v,¬bi1 f v H Q)(h3:∀v w,¬bi2 f v w H Q):∃v w d,vs=[v,w,d]∧bi3 f v w d H Q:=match vs,h with
 |[_],h=>(h2 _ h).elim
 |[_,_],h=>(h3 _ _ h).elim
 |[v,w,d],h=>⟨v,w,d,rfl,h⟩
noncomputable def clip(n:Nat)(i:Int):Option Nat:=gdP (0≤i) (min i.toNat n)
noncomputable def clampLo(n:Nat)(v:V):Option Nat:=v.el none (nn:=some 0) (it:=clip n)
noncomputable def clampHi(n:Nat)(v:V):Option Nat:=v.el none (nn:=some n) (it:=clip n)
theorem clip_nat{n k:Nat}:clip n k=some (min k n):=gdP_mk (Int.natCast_nonneg k)
noncomputable def mskd(m:List V)(k:List Bool):List V:=List.zipWith (fun v b=>if b then v else .un) m k
noncomputable def rngL(a b:Int):List V:=(List.range (b-a).toNat).map fun (k:Nat)=>V.int (a+k)
noncomputable def itO(H:AH)(a:Addr)(K:List V→(AH→Prop)→(AH→AH)→AH→Prop)(o:O):Prop:=o.el False (lst:=fun l=>K l (fun H=>H.see a=some (.lst l)) (fun H=>H) H) (tup:=fun l=>K l (fun H=>H.see a=some (.tup l)) (fun H=>H) H)
 (dct:=fun es=>∀o,K (keysOf es) (fun H=>H a=some (.froz (.dct es) o)) (fun H=>H.set a (.dct es)) (H.set a (.froz (.dct es) o))) (frz:=fun x=>ifS x.l? fun l=>K l (fun H=>H.see a=some (.lst l)) (fun H=>H) H)
noncomputable def itW(H:AH)(v:V)(K:List V→(AH→Prop)→(AH→AH)→AH→Prop):Prop:=ifS v.r? fun a=>ifS (H a) (itO H a K)
noncomputable def ifB(v:V)(P Q:Prop):Prop:=ifS v.b? fun b=>cond b P Q
theorem ifB_eq{v:V}{P Q:Prop}(h:ifB v P Q):∃b,v= .bool b∧cond b P Q:=let ⟨b,e,h⟩:=zh h;⟨b,V.b_eq e,h⟩
theorem ifB_b{v:V}{P Q:Prop}(h:ifB v P Q):∃b,v= .bool b:=let ⟨b,e,_⟩:=ifB_eq h;⟨b,e⟩
theorem ifS_b{v:V}{K:Bool→Prop}(h:ifS v.b? K):∃b,v= .bool b:=let ⟨b,e,_⟩:=zh h;⟨b,V.b_eq e⟩
noncomputable def slT(l h:V)(n:Nat)(K:Nat→Prop):Prop:=l= .none∧ifS h.i? fun j=>0≤j∧j<n∧K j.toNat
noncomputable def slO(H:AH)(l h:V)(Q:V→AH→Prop)(o:O):Prop:=o.el False (lst:=fun xs=>ifS (clampLo xs.length l) fun i=>ifS (clampHi xs.length h) fun j=>∀x,H x=none→Q (.ref x) (H.set x (.lst ((xs.take j).drop i))))
 (tup:=fun xs=>slT l h xs.length fun j=>∀x,H x=none→Q (.ref x) (H.set x (.tup (xs.take j))))
noncomputable def onO(f:B)(o:O):Prop:=o.el False (lst:=fun _=>f.onList=true) (dct:=fun _=>f.onDict=true)
noncomputable def cloop{α:Type}(chk:AH→Prop)(body:V→AH→α→(α→AH→Prop)→Prop):List V→AH→α→(α→AH→Prop)→Prop
 |[],H,acc,Q=>chk H∧Q acc H
 |v::vs,H,acc,Q=>chk H∧body v H acc fun acc H=>cloop chk body vs H acc Q
noncomputable abbrev Sp:=Nat→List V→AH→(V→AH→Prop)→Prop
mutual
noncomputable def X.ev(sp:Sp):X→List V→AH→(V→AH→Prop)→Prop
 | .c v,m,H,Q=>Q v H
 | .loc i,m,H,Q=>ifS ((m[i]?).bind nun) fun v=>Q v H
 | .attr x f,m,H,Q=>x.ev sp m H fun v H=>ifS (attrV H v f) fun w=>Q w H
 | .neg x,m,H,Q=>x.ev sp m H fun v H=>ifS v.i? fun i=>Q (.int (-i)) H
 | .not x,m,H,Q=>x.ev sp m H fun v H=>ifS v.b? fun b=>Q (.bool (!b)) H
 | .bin op l r,m,H,Q=>l.ev sp m H fun v H=>r.ev sp m H fun w H=>binW H op v w Q
 | .cmp op l r,m,H,Q=>l.ev sp m H fun v H=>r.ev sp m H fun w H=>ifS (cmpV H op v w) fun b=>Q (.bool b) H
 | .cmp2 o1 o2 a b c0,m,H,Q=>a.ev sp m H fun u H=>b.ev sp m H fun v H=>ifS (cmpV H o1 u v) fun b=>cond b (c0.ev sp m H fun w H=>ifS (cmpV H o2 v w) fun b=>Q (.bool b) H) (Q (.bool false) H)
 | .and l r,m,H,Q=>l.ev sp m H fun v H=>ifB v (r.ev sp m H fun w H=>ifS w.b? fun b=>Q (.bool b) H) (Q (.bool false) H)
 | .or l r,m,H,Q=>l.ev sp m H fun v H=>ifB v (Q (.bool true) H) (r.ev sp m H fun w H=>ifS w.b? fun b=>Q (.bool b) H)
 | .ite c0 a b,m,H,Q=>c0.ev sp m H fun v H=>ifB v (a.ev sp m H Q) (b.ev sp m H Q)
 | .list xs,m,H,Q=>X.evs sp xs m H fun vs H=>∀a,H a=none→Q (.ref a) (H.set a (.lst vs))
 | .tup xs,m,H,Q=>X.evs sp xs m H fun vs H=>∀a,H a=none→Q (.ref a) (H.set a (.tup vs))
 | .dict0,m,H,Q=>∀a,H a=none→Q (.ref a) (H.set a (.dct []))
 | .dict1 k v,m,H,Q=>k.ev sp m H fun kv H=>v.ev sp m H fun vv H=>ifS kv.i? fun i=>∀a,H a=none→Q (.ref a) (H.set a (.dct [(i,vv)]))
 | .dictS ks xs,m,H,Q=>X.evs sp xs m H fun vs H=>∀a,H a=none→Q (.ref a) (H.set a (.att (ks.zip vs)))
 | .sub x i,m,H,Q=>x.ev sp m H fun v H=>i.ev sp m H fun k H=>ifS (subV H v k) fun w=>Q w H
 | .slice x lo hi,m,H,Q=>x.ev sp m H fun v H=>lo.ev sp m H fun l H=>hi.ev sp m H fun h H=>ifS v.r? fun a=>ifS (H.see a) (slO H l h Q)
 | .rev x,m,H,Q=>x.ev sp m H fun v H=>ifS v.r? fun a=>ifS (H.see a) fun o=>ifS o.l? fun xs=>∀x,H x=none→Q (.ref x) (H.set x (.lst xs.reverse))
 | .bi f xs,m,H,Q=>X.evs sp xs m H fun vs H=>biW f vs H Q
 | .callG f xs,m,H,Q=>X.evs sp xs m H fun vs H=>sp f vs H Q
 | .bm f o xs,m,H,Q=>o.ev sp m H fun ov H=>ifS ov.r? fun a=>ifS (H.see a) fun o=>onO f o∧X.evs sp xs m H fun vs H=>biW f (ov::vs) H Q
 | .callM f o xs,m,H,Q=>o.ev sp m H fun ov H=>ifS (insV H ov) fun _=>X.evs sp xs m H fun vs H=>sp f (ov::vs) H Q
 | .new f xs,m,H,Q=>X.evs sp xs m H fun vs H=>∀a d,H a=none→H d=none→a≠d→
   sp f (.ref a::vs) ((H.set a (.inst d)).set d (.att [])) fun v H=>v= .none∧Q (.ref a) H
 | .sup f,m,H,Q=>ifS m.head? fun v=>ifS (insV H v) fun _=>sp f [v] H Q
 | .sortH f x o,m,H,Q=>x.ev sp m H fun v H=>o.ev sp m H fun ov H=>ifS v.r? fun a=>ifS (H.see a) fun o=>ifS o.l? fun l=>ifS (insV H ov) fun _=>
   l.length<64∧∃g:V→Int,(∀v∈l,sp f [ov,v] H fun w H'=>w= .int (g v)∧H'=H)∧∀ys,ys.Perm l→ys.Pairwise (fun p q=>g q≤g p)→∀x,H x=none→Q (.ref x) (H.set x (.lst ys))
 | .lcomp mask it cond b,m,H,Q=>X.iw sp it m H fun items chk thaw H=>
   cloop chk (fun x H acc K=>cond.ev sp (mskd m mask++[x]) H fun v H=>ifB v (X.cw sp b (mskd m mask++[x]) H acc K) (K acc H)) items H [] fun acc H=>∀a,thaw H a=none→Q (.ref a) ((thaw H).set a (.lst acc))
 | .dcomp mask it k v,m,H,Q=>X.iw sp it m H fun items chk thaw H=>
   cloop chk (fun x H acc K=>k.ev sp (mskd m mask++[x]) H fun kv H=>v.ev sp (mskd m mask++[x]) H fun vv H=>ifS kv.i? fun i=>acc.length<sz∧K (put acc i vv) H) items H [] fun acc H=>∀a,thaw H a=none→Q (.ref a) ((thaw H).set a (.dct acc))
 | .cfor ..,_,_,_=>False
 | .emit _,_,_,_=>False
 | .rng ..,_,_,_=>False
 | .src ..,_,_,_=>False
noncomputable def X.evs(sp:Sp):List X→List V→AH→(List V→AH→Prop)→Prop
 |[],m,H,Q=>Q [] H
 |x::xs,m,H,Q=>x.ev sp m H fun v H=>X.evs sp xs m H fun vs H=>Q (v::vs) H
noncomputable def X.iw(sp:Sp):X→List V→AH→(List V→(AH→Prop)→(AH→AH)→AH→Prop)→Prop
 | .rng a b,m,H,K=>a.ev sp m H fun v H=>b.ev sp m H fun w H=>ifS v.i? fun i=>ifS w.i? fun j=> -big≤i∧i<big∧-big≤j∧j<big∧K (rngL i j) (fun _=>True) (fun H=>H) H
 | .src x,m,H,K=>x.ev sp m H fun v H=>itW H v K
 |_,_,_,_=>False
noncomputable def X.cw(sp:Sp):X→List V→AH→List V→(List V→AH→Prop)→Prop
 | .cfor it cond b,m,H,acc,Q=>X.iw sp it m H fun items chk thaw H=>
   cloop chk (fun x H acc K=>cond.ev sp (m++[x]) H fun v H=>ifB v (X.cw sp b (m++[x]) H acc K) (K acc H)) items H acc fun acc H=>Q acc (thaw H)
 | .emit x,m,H,acc,Q=>x.ev sp m H fun v H=>acc.length<sz∧Q (acc++[v]) H
 |_,_,_,_,_=>False
end
noncomputable def putsN:List Nat→List V→List V→List V
 |j::js,v::vs,m=>putsN js vs (m.set j v)
 |_,_,m=>m
noncomputable def setO(H:AH)(a:Addr)(k w:V)(Q:AH→Prop)(o:O):Prop:=o.el False (lst:=fun l=>ifS k.i? fun n=>ifS (idxN l n) fun i=>Q (H.set a (.lst (l.set i w)))) (dct:=fun es=>ifS k.i? fun n=>es.length<sz∧Q (H.set a (.dct (put es n w))))
 (att:=fun es=>ifS k.s? fun s=>es.length<900∧Q (H.set a (.att (put es s w))))
noncomputable def setIW(H:AH)(v k w:V)(Q:AH→Prop):Prop:=ifS v.r? fun a=>ifS (H a) (setO H a k w Q)
noncomputable def floop(chk:AH→Prop)(body:V→List V→AH→(List V→AH→Prop)→(V→AH→Prop)→Prop):List V→List V→AH→(List V→AH→Prop)→(V→AH→Prop)→Prop
 |[],m,H,Q,R=>chk H∧Q m H
 |v::vs,m,H,Q,R=>chk H∧body v m H (fun m H=>floop chk body vs m H Q R) R
noncomputable def rt(Q:V→AH→Prop)(v:V)(H:AH):Prop:=v.el (Q v H) (un:=False)
theorem rt_eq{Q:V→AH→Prop}{v:V}{H:AH}(h:rt Q v H):Q v H:=by cases v<;>first|exact h|exact False.elim h
theorem rt_ne{Q:V→AH→Prop}{v:V}{H:AH}(h:rt Q v H):v≠ .un:=by rintro rfl;exact h
theorem rt_mk{Q:V→AH→Prop}{v:V}{H:AH}(n:v≠ .un)(h:Q v H):rt Q v H:=by cases v<;>first|exact h|exact (n rfl).elim
noncomputable def S.wp(sp:Sp):S→List V→AH→(List V→AH→Prop)→(V→AH→Prop)→Prop
 | .asg i x,m,H,Q,R=>x.ev sp m H fun v H=>Q (m.set i v) H
 | .asgN js xs,m,H,Q,R=>X.evs sp xs m H fun vs H=>vs.length=js.length∧Q (putsN js vs m) H
 | .setA o f x,m,H,Q,R=>x.ev sp m H fun v H=>o.ev sp m H fun ov H=>ifS (insV H ov) fun p=>p.2.length<900∧Q m (H.set p.1 (.att (put p.2 f v)))
 | .setI o i x,m,H,Q,R=>x.ev sp m H fun w H=>o.ev sp m H fun v H=>i.ev sp m H fun k H=>setIW H v k w fun H=>Q m H
 | .swap o1 i1 o2 i2 x1 x2,m,H,Q,R=>x1.ev sp m H fun w1 H=>x2.ev sp m H fun w2 H=>
   o1.ev sp m H fun v H=>i1.ev sp m H fun k H=>setIW H v k w1 fun H=>
   o2.ev sp m H fun v H=>i2.ev sp m H fun k H=>setIW H v k w2 fun H=>Q m H
 | .ex x,m,H,Q,R=>x.ev sp m H fun _ H=>Q m H
 | .ite c s t,m,H,Q,R=>c.ev sp m H fun v H=>ifB v (s.wp sp m H Q R) (t.wp sp m H Q R)
 | .whl c s,m,H,Q,R=>∃(I:Nat→List V→AH→Prop) (n:Nat),I n m H∧∀n m H,I n m H→c.ev sp m H fun v H=>ifB v (s.wp sp m H (fun m H=>∃k,k<n∧I k m H) R) (Q m H)
 | .for_ i it s,m,H,Q,R=>X.iw sp it m H fun items chk thaw H=>
   floop chk (fun v m H Q R=>s.wp sp (m.set i v) H Q R) items m H (fun m H=>Q m (thaw H)) (rt fun v H=>chk H∧R v (thaw H))
 | .ret x,m,H,Q,R=>x.ev sp m H (rt R)
 | .seq s t,m,H,Q,R=>s.wp sp m H (fun m H=>t.wp sp m H Q R) R
 | .skip,m,H,Q,R=>Q m H
 | .fail,m,H,Q,R=>False
 | .rse x,m,H,Q,R=>x.ev sp m H fun v H=>ifS v.i? fun i=>i.natAbs≤1000000∧R .un H
 | .limC c xs s t,m,H,Q,R=>c.ev sp m H fun v H=>ifB v (X.evs sp xs m H fun vs H=>sp 3000 vs H fun v H=>ifB v (t.wp sp m H Q R) (s.wp sp m H Q R)) (t.wp sp m H Q R)
structure Tb where
 globs:List (Str×Nat)
 meths:List (Str×Nat)
 consts:List (Str×Int)
 cls:Str
 initF:Nat
 supF:Nat
 keyN:Str
 keyF:Nat
 excN:Str
 limN:Str
inductive Kd where|loc|cel|glb|no
 deriving DecidableEq
noncomputable def kdK:NameKind→Kd
 | .local=> .loc
 | .cell=> .cel
 | .free=> .cel
 | .globalExplicit=> .no
 | .globalImplicit=> .glb
noncomputable def kd(sc:Scope)(n:Str):Kd:=(sc.names.lookup n).elim .no kdK
noncomputable abbrev Sl:=List (Option Str)
noncomputable def slot(sl:Sl)(n:Str):Option Nat:=if n==("__classdict__":Str)||n==("__debug__":Str) then none else sl.idxOf? (some n)
noncomputable def trOp:Operator→Option Op
 | .Add=>some .add
 | .Sub=>some .sub
 | .Mult=>some .mul
 | .FloorDiv=>some .fdiv
 | .Mod=>some .mod
 | .Pow=>some (.pow ())
 |_=>none
noncomputable def trCm:CmpOp→Option Cm
 | .Eq=>some .eq
 | .NotEq=>some .ne
 | .Lt=>some .lt
 | .LtE=>some .le
 | .Gt=>some .gt
 | .GtE=>some .ge
 | .Is=>some .is
 | .IsNot=>some (.isNot ())
 | .In=>some .mem
 | .NotIn=>some .notMem
noncomputable def constStr(e:Expr):Option Str:=(constOf e).bind strK
noncomputable def boTab:List (Str×Nat×B):=[("abs",1,.abs),("len",1,.len),("list",1,.toList),("tuple",1,.toTuple),("int",1,.toInt)]
noncomputable def bmTab:List (Str×Nat×B):=[("append",1,.append),("get",1,.dget1),("get",2,.dget2),("pop",0,.pop),("pop",1,.dpop1),("pop",2,.dpop2),("extend",1,.extend),("setdefault",2,.setdef),("update",1,.update)]
noncomputable def bFind(t:List (Str×Nat×B))(f:Str)(n:Nat):Option B:=(t.find? fun x=>f==x.1&&n==x.2.1).map fun x=>x.2.2
noncomputable def biOf(f:Str)(n:Nat):Option B:=bFind boTab f n
noncomputable def biMeth(f:Str)(n:Nat):Option B:=bFind bmTab f n
theorem bFind_eq{t:List (Str×Nat×B)}{f:Str}{n:Nat}{b:B}(h:bFind t f n=some b):(f,n,b)∈t:=by
 obtain ⟨⟨f',n',b'⟩,h1,rfl⟩:=Option.map_eq_some_iff.mp h
 have h2:=List.find?_some h1
 rw [Bool.and_eq_true,beq_iff_eq,beq_iff_eq] at h2
 rw [h2.1,h2.2]
 exact List.mem_of_find?_eq_some h1
theorem allC{α:Type}{P:α→Prop}{a:α}{l:List α}(h:P a)(h':∀x∈l,P x):∀x∈a::l,P x:=List.forall_mem_cons.mpr ⟨h,h'⟩
theorem allN{α:Type}{P:α→Prop}:∀x∈([]:List α),P x:=fun _ h=>nomatch h
noncomputable def glb(sc:Scope)(n:Str):Bool:=kd sc n== .glb&&n !=("__debug__":Str)
noncomputable def plainBase(e:Expr):Bool:=(vw e).el false (nm:=fun _=>true) (at_:=fun _ _ _=>true) (sub:=fun _ _=>true) (call:=fun f _ _ _=>(atOf f).isSome)
noncomputable def wm(sc:Scope)(sl:Sl):List Bool:=sl.map fun o=>match o with
 |some n=>kd sc n== .cel&&sc.names.lookup n==some .free
 |none=>false
noncomputable def slIn(sc:Scope)(sl:Sl)(v:Str):Sl:=(List.zipWith (fun o b=>if b then o else none) sl (wm sc sl))++[some v]
noncomputable def varOK(s:Scope)(v:Str):Bool:=s.names.lookup v==some .local||s.names.lookup v==some .cell
noncomputable def compChk(sc s:Scope)(v:Str):Bool:=s.kind== .function&&decide (s.names.map (·.1)).Nodup&&s.names.all (fun x=>x.2 != .free||kd sc x.1== .cel)&&varOK s v
end Mine
end
section
open PySem PySem.W
namespace Mine
section
variable(prog:Program)(w:World)(C:Addr)
noncomputable def Real(h:Heap)(a:Addr):O→Prop
 | .lst l=>∃xs,h.PlainList a xs∧xs.toList.map av=l∧l.length≤sz
 | .tup l=>∃xs n,h.get? a=some (PyProof.Rows.seqObj "tuple" xs n)∧xs.toList.map av=l∧l.length≤sz
 | .dct es=>∃kvs:List (Int×Value),h.DictOf (intKind prog w) a kvs∧kvs.map (fun e=>(e.1,av e.2))=es∧es.length≤sz
 | .att es=>∃kvs:List (Str×Value),h.DictOf (strKind prog w) a kvs∧kvs.map (fun e=>(nmOf e.1,av e.2))=es.map (fun e=>(some e.1,e.2))∧es.length≤900
 | .inst d=>h.get? a=some (instObj C d)
 | .froz x o=>h.get? a=some o∧Real h a x
variable{prog w C}
theorem Real.congr{h h':Heap}{a:Addr}(e:h'.get? a=h.get? a):∀{x:O},Real prog w C h a x→Real prog w C h' a x
 | .lst l,⟨xs,⟨n,p⟩,q⟩=>⟨xs,⟨n,e.trans p⟩,q⟩
 | .tup l,⟨xs,n,p,q⟩=>⟨xs,n,e.trans p,q⟩
 | .dct es,⟨kvs,⟨o,es',ep,p,q⟩,r⟩=>⟨kvs,⟨o,es',ep,e.trans p,q⟩,r⟩
 | .att es,⟨kvs,⟨o,es',ep,p,q⟩,r⟩=>⟨kvs,⟨o,es',ep,e.trans p,q⟩,r⟩
 | .inst d,p=>e.trans p
 | .froz x o,⟨p,q⟩=>⟨e.trans p,Real.congr e q⟩
theorem Real.get{h:Heap}{a:Addr}:∀{x:O},Real prog w C h a x→∃o,h.get? a=some o
 | .lst l,⟨xs,⟨n,p⟩,q⟩=>⟨_,p⟩
 | .tup l,⟨xs,n,p,q⟩=>⟨_,p⟩
 | .dct es,⟨kvs,⟨o,es',ep,p,q⟩,r⟩=>⟨_,p⟩
 | .att es,⟨kvs,⟨o,es',ep,p,q⟩,r⟩=>⟨_,p⟩
 | .inst d,p=>⟨_,p⟩
 | .froz x o,⟨p,q⟩=>⟨_,p⟩
end
structure Cx where
 prog:Program
 w:World
 K:Frag
 C:Addr
 T:Tb
 h₀:Heap
 os:OsState
 X:Addr
 L:Addr
noncomputable abbrev Bs:=Addr→Option Obj
structure Hp(c:Cx)(B:Bs)(H:AH)(s:Shared):Prop where
 gens:s.gens= #[]∧s.os=c.os
 base:∀b o,c.h₀.get? b=some o→B b=some o
 keep:∀b o,B b=some o→s.heap.get? b=some o
 real:∀a x,H a=some x→Real c.prog c.w c.C s.heap a x
 apart:∀a x,H a=some x→B a=none
noncomputable def wz(h:Heap)(H:AH):Bs:=fun a=>(H a).elim (h.get? a) fun _=>none
theorem baseOf_get{h:Heap}{H:AH}{a:Addr}{o:Obj}(e:wz h H a=some o):H a=none∧h.get? a=some o:=by
 unfold wz at e
 generalize q:H a=zq;induction zq with
 |none=>rw [q] at e;exact ⟨rfl,e⟩
 |some x=>rw [q] at e;exact nsm e
section
variable{c:Cx}{B:Bs}{H:AH}{s:Shared}
theorem Hp.grow(R:Hp c B H s){h':Heap}{t:Nat}(k:∀b o,s.heap.get? b=some o→h'.get? b=some o):Hp c B H {s with heap:=h',toks:=t}:=
 ⟨R.gens,R.base,fun b o e=>k _ _ (R.keep b o e),fun a x e=>by
   obtain ⟨o,ho⟩:=(R.real a x e).get
   exact (R.real a x e).congr ((k _ _ ho).trans ho.symm),R.apart⟩
theorem Hp.tok(R:Hp c B H s){t:Nat}:Hp c B H {s with toks:=t}:=R.grow fun _ _ e=>e
theorem Hp.fresh(R:Hp c B H s){a:Addr}(ha:s.heap.get? a=none):H a=none:=by
 generalize e:H a=zq;induction zq with
 |none=>rfl
 |some x=>obtain ⟨o,ho⟩:=(R.real _ _ e).get;rw [ha] at ho;cases ho
theorem Hp.freshB(R:Hp c B H s){a:Addr}(ha:s.heap.get? a=none):B a=none:=by
 generalize e:B a=zq;induction zq with
 |none=>rfl
 |some x=>have:=R.keep _ _ e;rw [ha] at this;cases this
theorem Hp.add(R:Hp c B H s){h':Heap}{t:Nat}{a:Addr}{x:O}(k:∀b o,s.heap.get? b=some o→h'.get? b=some o)
  (ha:s.heap.get? a=none) (hx:Real c.prog c.w c.C h' a x):Hp c B (H.set a x) {s with heap:=h',toks:=t}:=by
 have hB:=R.freshB ha
 have R':=R.grow (t:=t) k
 refine ⟨R'.gens,R'.base,R'.keep,fun b y e=>?_,fun b y e=>?_⟩
 ·unfold AH.set at e
  by_cases hb:b=a
  ·subst hb;rw [if_pos rfl] at e;cases e;exact hx
  ·rw [if_neg hb] at e;exact R'.real b y e
 ·unfold AH.set at e
  by_cases hb:b=a
  ·subst hb;exact hB
  ·rw [if_neg hb] at e;exact R'.apart b y e
theorem Hp.upd(R:Hp c B H s){h':Heap}{t:Nat}{a:Addr}{x x':O}(hx:H a=some x)(hs:Heap.SameBut a s.heap h')(hx':Real c.prog c.w c.C h' a x'):
  Hp c B (H.set a x') {s with heap:=h',toks:=t}:=by
 have hB:=R.apart a x hx
 refine ⟨R.gens,R.base,fun b o e=>(hs.2 b (by rintro rfl;rw [hB] at e;cases e)).trans (R.keep b o e),fun b y e=>?_,fun b y e=>?_⟩
 ·unfold AH.set at e
  by_cases hb:b=a
  ·subst hb;rw [if_pos rfl] at e;cases e;exact hx'
  ·rw [if_neg hb] at e;exact (R.real b y e).congr (hs.2 b hb)
 ·unfold AH.set at e
  by_cases hb:b=a
  ·subst hb;exact hB
  ·rw [if_neg hb] at e;exact R.apart b y e
theorem Hp.see(R:Hp c B H s){a:Addr}{x:O}(h:H.see a=some x):Real c.prog c.w c.C s.heap a x:=by
 obtain ⟨y,e,rfl⟩:=wj h
 induction y<;>first|exact R.real _ _ e|exact (R.real _ _ e).2
theorem Hp.seeB(R:Hp c B H s){a:Addr}{x:O}(h:H.see a=some x):B a=none:=by
 obtain ⟨y,e,_⟩:=wj h
 exact R.apart _ _ e
theorem Hp.base_ne(R:Hp c B H s){a b:Addr}{x:O}{o:Obj}(h:H.see a=some x)(hb:c.h₀.get? b=some o):a≠b:=by
 rintro rfl
 have:=R.seeB h
 rw [R.base _ _ hb] at this;cases this
theorem Hp.whole(R:Hp c B H s):Hp c (wz s.heap H) H s:=by
 refine ⟨R.gens,fun b o e=>?_,fun b o e=>?_,R.real,fun a x e=>?_⟩
 ·have e1:=R.base _ _ e
  unfold wz
  generalize q:H b=zq;induction zq with
  |none=>exact R.keep _ _ e1
  |some x=>have:=R.apart _ _ q;rw [e1] at this;cases this
 ·exact (baseOf_get e).2
 ·unfold wz;rw [e];rfl
theorem Hp.back(R:Hp c B H s){H':AH}{s':Shared}(R':Hp c (wz s.heap H) H' s'):Hp c B H' s':=by
 have inB:∀b o,B b=some o→wz s.heap H b=some o:=fun b o e=>by
  unfold wz
  generalize q:H b=zq;induction zq with
  |none=>exact R.keep _ _ e
  |some x=>have:=R.apart _ _ q;rw [e] at this;cases this
 refine ⟨R'.gens,R.base,fun b o e=>R'.keep _ _ (inB _ _ e),R'.real,fun a x e=>?_⟩
 generalize q:B a=zq;induction zq with
 |none=>rfl
 |some o=>have:=R'.apart _ _ e;rw [inB _ _ q] at this;cases this
end
structure EnvOK(env:Env):Prop where
 kind:env.scope.kind= .function
 glob:env.globals=mainGlobals
 bi:env.builtins=builtinsNs
 inj:∀n n' c,env.cells.lookup n=some c→env.cells.lookup n'=some c→n=n'
 loc:∀n c,env.cells.lookup n=some c→c≠env.locals
 has:∀n,kd env.scope n= .cel→∃c,env.cells.lookup n=some c
inductive ReadOK(env:Env)(n:Str)(v:V)(h:Heap):Prop
 |loc (e:kd env.scope n= .loc) (x:Value) (mm:Str→Option Value) (a:h.Ns env.locals mm) (b:mm n=some x) (d:av x=v)
 |cel (e:kd env.scope n= .cel) (c:Addr) (x:Value) (a:env.cells.lookup n=some c) (b:h.IsCell c (some x)) (d:av x=v)
structure Fm(B:Bs)(env:Env)(own:List Str)(sl:Sl)(m:List V)(H:AH)(s:Shared):Prop where
 eok:EnvOK env
 len:m.length=sl.length
 nd:∀(i j:Nat) (n:Str),sl[i]?=some (some n)→sl[j]?=some (some n)→i=j
 ownK:∀n,n∈own→env.scope.names.lookup n=some .local∨env.scope.names.lookup n=some .cell
 ns:∃mm,s.heap.Ns env.locals mm
 locB:B env.locals=none
 locH:H env.locals=none
 celH:∀n c,env.cells.lookup n=some c→H c=none
 celA:∀n c,env.cells.lookup n=some c→∃o,s.heap.get? c=some o
 celB:∀n c,n∈own→env.cells.lookup n=some c→B c=none
 cell:∀n,n∈own→kd env.scope n= .cel→∃c v,env.cells.lookup n=some c∧s.heap.IsCell c v
 read:∀(i:Nat) (n:Str) (v:V),sl[i]?=some (some n)→m[i]?=some v→v≠ .un→ReadOK env n v s.heap
structure Rep(c:Cx)(B:Bs)(env:Env)(own:List Str)(sl:Sl)(m:List V)(H:AH)(s:Shared):Prop where
 hp:Hp c B H s
 fm:Fm B env own sl m H s
theorem kd_loc{sc:Scope}{n:Str}:kd sc n= .loc↔sc.names.lookup n=some .local:=by
 unfold kd;induction sc.names.lookup n with|none=>simp|some k=>induction k<;>simp [kdK]
theorem kd_glb{sc:Scope}{n:Str}:kd sc n= .glb↔sc.names.lookup n=some .globalImplicit:=by
 unfold kd;induction sc.names.lookup n with|none=>simp|some k=>induction k<;>simp [kdK]
theorem kd_cel{sc:Scope}{n:Str}:kd sc n= .cel↔sc.names.lookup n=some .cell∨sc.names.lookup n=some .free:=by
 unfold kd;induction sc.names.lookup n with|none=>simp|some k=>induction k<;>simp [kdK]
theorem IsCell.keeps{h h':Heap}{c:Addr}{v:Option Value}(x:h.IsCell c v)(e:h'.get? c=h.get? c):h'.IsCell c v:=
 let ⟨o,ho,hd⟩:=x;⟨o,e.trans ho,hd⟩
theorem Ns.keeps1{h h':Heap}{a:Addr}{m:Str→Option Value}(x:h.Ns a m)(e:h'.get? a=h.get? a):h'.Ns a m:=
 let ⟨o,es,ep,ho,r⟩:=x;⟨o,es,ep,e.trans ho,r⟩
theorem ReadOK.mono{env:Env}{n:Str}{v:V}{h h':Heap}(x:ReadOK env n v h)(k1:h'.get? env.locals=h.get? env.locals)
  (k2:∀c,env.cells.lookup n=some c→h'.get? c=h.get? c):ReadOK env n v h':=by
 induction x with
 |loc e y mm a b d=>exact .loc e y mm (Ns.keeps1 a k1) b d
 |cel e c y a b d=>exact .cel e c y a (IsCell.keeps b (k2 _ a)) d
section
variable{c:Cx}{B B':Bs}{env:Env}{own:List Str}{sl:Sl}{m:List V}{H H':AH}{s s':Shared}
theorem Fm.alive(R:Fm B env own sl m H s):∃o,s.heap.get? env.locals=some o:=let ⟨_,o,_,_,h,_⟩:=R.ns;⟨o,h⟩
theorem Fm.keep(R:Fm B env own sl m H s)(k1:s'.heap.get? env.locals=s.heap.get? env.locals)(k2:∀n c,env.cells.lookup n=some c→s'.heap.get? c=s.heap.get? c)
  (hL:H' env.locals=none) (hc:∀n c,env.cells.lookup n=some c→H' c=none):Fm B env own sl m H' s':=
 ⟨R.eok,R.len,R.nd,R.ownK,let ⟨mm,x⟩:=R.ns;⟨mm,Ns.keeps1 x k1⟩,R.locB,hL,hc,fun n c e=>let ⟨o,h⟩:=R.celA n c e;⟨o,(k2 n c e).trans h⟩,R.celB,
  fun n a b=>let ⟨c,v,x,y⟩:=R.cell n a b;⟨c,v,x,IsCell.keeps y (k2 n c x)⟩,fun i n v a b d=>(R.read i n v a b d).mono k1 fun c e=>k2 n c e⟩
theorem Rep.back(R:Rep c B env own sl m H s)(R':Hp c (wz s.heap H) H' s'):Rep c B env own sl m H' s':=by
 have kp:∀a o,H a=none→s.heap.get? a=some o→s'.heap.get? a=some o∧H' a=none:=fun a o e h=>by
  have hb:wz s.heap H a=some o:=by unfold wz;rw [e];exact h
  refine ⟨R'.keep _ _ hb,?_⟩
  generalize q:H' a=zq;induction zq with
  |none=>rfl
  |some x=>have:=R'.apart _ _ q;rw [hb] at this;cases this
 obtain ⟨oL,hL⟩:=R.fm.alive
 have kL:=kp _ _ R.fm.locH hL
 refine ⟨R.hp.back R',R.fm.keep (kL.1.trans hL.symm) (fun n c e=>?_) kL.2 fun n c e=>?_⟩
 ·obtain ⟨o,h⟩:=R.fm.celA n c e
  exact (kp _ _ (R.fm.celH n c e) h).1.trans h.symm
 ·obtain ⟨o,h⟩:=R.fm.celA n c e
  exact (kp _ _ (R.fm.celH n c e) h).2
theorem Rep.tok(R:Rep c B env own sl m H s){t:Nat}:Rep c B env own sl m H {s with toks:=t}:=R.back R.hp.whole.tok
end
noncomputable abbrev PH(c:Cx)(B:Bs)(Q:V→AH→Prop)(v:Value)(s':Shared):Prop:=∃H',Hp c B H' s'∧Q (av v) H'
noncomputable abbrev PE(c:Cx)(B:Bs)(env:Env)(own:List Str)(sl:Sl)(m:List V)(Q:V→AH→Prop)(v:Value)(s':Shared):Prop:=∃H',Rep c B env own sl m H' s'∧Q (av v) H'
theorem lift{c:Cx}{B:Bs}{env:Env}{own:List Str}{sl:Sl}{m:List V}{H:AH}{s:Shared}{M:Model}{A:Around}{t:Sem Value}{Q:V→AH→Prop}{E:Value→Shared→Prop}
  (R:Rep c B env own sl m H s) (h:Hp c (wz s.heap H) H s→wpAny M A t (PH c (wz s.heap H) Q) E s):wpAny M A t (PE c B env own sl m Q) E s:=
 wpAny_mono (h R.hp.whole) (fun v s' ⟨H',a,b⟩=>⟨H',R.back a,b⟩) fun _ _ x=>x
end Mine
end
section
open PySem PySem.W PyProof.Rows
namespace Mine
theorem sz_line:sz≤sizeLine:=by decide
theorem wx{n:Nat}(h:n≤sz):n≤sizeLine:=Nat.le_trans h sz_line
theorem sz63{n:Nat}(h:n≤sz):(n:Int)<2^63:=by unfold sz at h;lia
theorem av_s{o:Option Nat}{w:V}{P:Prop}(h:o.elim .un .str=w)(h1:w≠ .un)(h2:∀k,w≠ .str k):P:=by
 induction o with
 |none=>exact absurd h.symm h1
 |some k=>exact absurd h.symm (h2 k)
theorem vq{v:Value}{i:Int}(h:av v= .int i):∃t,v= .int i t:=by
 induction v<;>first|(cases h;exact ⟨_,rfl⟩)|cases h|exact av_s h nofun nofun
theorem av_bool{v:Value}{b:Bool}(h:av v= .bool b):v= .bool b:=by
 induction v<;>first|(cases h;rfl)|cases h|exact av_s h nofun nofun
theorem av_none{v:Value}(h:av v= .none):v= .none:=by
 induction v<;>first|rfl|cases h|exact av_s h nofun nofun
theorem vm{v:Value}{a:Addr}(h:av v= .ref a):v= .ref a:=by
 induction v<;>first|(cases h;rfl)|cases h|exact av_s h nofun nofun
theorem av_str{v:Value}{k:Nat}(h:av v= .str k):Ex2 fun x t=>v= .str x t∧nmOf x=some k:=by
 induction v<;>first|cases h|skip
 rename_i x t
 generalize q:nmOf x=zq;induction zq with
 |none=>rw [show av (.str x t)=(nmOf x).elim .un .str from rfl,q] at h;cases h
 |some j=>rw [show av (.str x t)=(nmOf x).elim .un .str from rfl,q] at h;cases h;exact ⟨_,_,rfl,q⟩
theorem map_av{xs:Array Value}{l:List V}(h:xs.toList.map av=l):xs.size=l.length:=by
 rw [←h,List.length_map,Array.length_toList]
theorem map_av_get{xs:Array Value}{l:List V}(h:xs.toList.map av=l){i:Nat}{v:V}(e:l[i]?=some v):∃x,xs[i]?=some x∧av x=v:=by
 subst h
 rw [List.getElem?_map] at e
 obtain ⟨x,a,b⟩:=Option.map_eq_some_iff.mp e
 exact ⟨x,by rw [←Array.getElem?_toList];exact a,b⟩
section
variable{c:Cx}{B:Bs}{H:AH}{s:Shared}{A:Around}{E:Value→Shared→Prop}{Q:V→AH→Prop}
theorem plainL{h:Heap}{a:Addr}{xs:Array Value}(x:h.PlainList a xs):h.IsList a xs:=let ⟨n,e⟩:=x;⟨_,e,rfl,n,rfl⟩
theorem tupI{h:Heap}{a:Addr}{xs:Array Value}{n:Nat}(e:h.get? a=some (seqObj "tuple" xs n)):IsTup h a xs:=⟨_,e,rfl,n,rfl⟩
theorem freshA(s:Shared):s.heap.get? s.heap.objs.size=none:=by
 generalize e:s.heap.get? s.heap.objs.size=zq;induction zq with
 |none=>rfl
 |some o=>exact absurd (Heap.lt_size e) (Nat.lt_irrefl _)
theorem Hp.push(R:Hp c B H s){o:Obj}{x:O}{t:Nat}(hx:Real c.prog c.w c.C (s.heap.push o) s.heap.objs.size x)
  (h:∀a,H a=none→Q (.ref a) (H.set a x)):PH c B Q (.ref s.heap.objs.size) {s with heap:=s.heap.push o,toks:=t}:=
 ⟨_,R.add (fun b o' e=>Heap.get?_push_of_some _ e) (freshA s) hx,h _ (R.fresh (freshA s))⟩
theorem o_newList{vs:List Value}(R:Hp c B H s)(hl:vs.length≤sz)(h:∀a,H a=none→Q (.ref a) (H.set a (.lst (vs.map av)))):
  wpAny (model c.prog c.w) A (newList vs) (PH c B Q) E s:=
 wpAny_newList (R.push (x:= .lst (vs.map av)) (t:=s.toks) ⟨vs.toArray,⟨0,Heap.get?_push_size _ rfl⟩,by simp,by rw [List.length_map];exact hl⟩ h) (wx hl)
theorem o_newTuple{vs:List Value}(R:Hp c B H s)(hl:vs.length≤sz)(h:∀a,H a=none→Q (.ref a) (H.set a (.tup (vs.map av)))):
  wpAny (model c.prog c.w) A (newTuple vs) (PH c B Q) E s:=
 wpAny_newTuple (R.push (x:= .tup (vs.map av)) (t:=s.toks) ⟨vs.toArray,0,Heap.get?_push_size _ rfl,by simp,by rw [List.length_map];exact hl⟩ h) (wx hl)
theorem idx_some{l:List V}{n:Int}{v:V}(hl:l.length≤sz)(h:idx l n=some v):
  (0≤n∧n<2^63∧l[n.toNat]?=some v)∨(n<0∧-(l.length:Int)≤n∧-(2^63)≤n∧l[(n+l.length).toNat]?=some v):=by
 unfold idx at h
 have:=sz63 hl
 split at h
 ·rename_i h0
  refine .inl ⟨h0,?_,h⟩
  obtain ⟨hh,_⟩:=List.getElem?_eq_some_iff.mp h
  lia
 ·rename_i h0
  split at h
  ·exact .inr ⟨by lia,by lia,by lia,h⟩
  ·cases h
theorem vu{K:Type} [DecidableEq K](kvs:List (K×Value))(k:K):get (kvs.map fun e=>(e.1,av e.2)) k=(valueAt kvs k).map av:=by
 unfold get valueAt
 induction kvs with
 |nil=>rfl
 |cons e r ih=>
  simp only [List.map_cons,List.find?_cons]
  by_cases q:e.1=k
  ·simp [q]
  ·simp only [q,decide_false];exact ih
theorem nmOf_inj{x y:Str}{k:Nat}(h:nmOf x=some k)(h':nmOf y=some k):x=y:=by
 unfold nmOf List.idxOf? at h h'
 rw [List.findIdx?_eq_some_iff_getElem] at h h'
 obtain ⟨a,b,_⟩:=h
 obtain ⟨a',b',_⟩:=h'
 rw [←beq_iff_eq.mp b,←beq_iff_eq.mp b']
theorem att_get{kvs:List (Str×Value)}{es:List (Nat×V)}(h:kvs.map (fun e=>(nmOf e.1,av e.2))=es.map (fun e=>(some e.1,e.2))){x:Str}{k:Nat}(hx:nmOf x=some k):
  get es k=(valueAt kvs x).map av:=by
 unfold get valueAt
 induction kvs generalizing es with
 |nil=>induction es with
  |nil=>rfl
  |cons _ _=>cases h
 |cons e r ih=>induction es with
  |nil=>cases h
  |cons f r'=>
   simp only [List.map_cons,List.cons.injEq,Prod.mk.injEq] at h
   obtain ⟨⟨h1,h2⟩,h3⟩:=h
   simp only [List.find?_cons]
   by_cases q:e.1=x
   ·have:f.1=k:=by rw [q,hx] at h1;exact (Option.some.inj h1).symm
    simp [q,this,h2]
   ·have:f.1≠k:=fun z=>q (nmOf_inj (h1.trans (congrArg some z)) hx)
    simp only [q,this,decide_false]
    exact ih h3
theorem o_getItem{v k:Value}{x:V}(R:Hp c B H s)(h:subV H (av v) (av k)=some x)(q:Q x H):
  wpAny (model c.prog c.w) A (getItem v k) (PH c B Q) E s:=by
 obtain ⟨a,hv,h2⟩:=zd h
 obtain ⟨o,e,h3⟩:=zd h2
 clear h h2
 obtain rfl:=vm (V.r_eq hv)
 clear hv
 induction o with
  |lst l=>
   obtain ⟨n,hk,h⟩:=zd h3
   clear h3
   obtain ⟨t,rfl⟩:=vq (V.i_eq hk)
   obtain ⟨xs,p,e1,e2⟩:=R.see e
   rcases idx_some e2 h with ⟨a1,a2,a3⟩|⟨a1,a2,a3,a4⟩
   ·obtain ⟨y,b1,b2⟩:=map_av_get e1 a3
    exact wpAny_getItem_list (plainL p) a1 a2 b1 ⟨H,R,by rw [b2];exact q⟩
   ·obtain ⟨y,b1,b2⟩:=map_av_get e1 a4
    have:=map_av e1
    exact wpAny_getItem_list_neg (plainL p) a1 (by rw [this];exact a2) a3 (by rw [this];exact b1) ⟨H,R,by rw [b2];exact q⟩
  |tup l=>
   obtain ⟨n,hk,h⟩:=zd h3
   clear h3
   obtain ⟨t,rfl⟩:=vq (V.i_eq hk)
   obtain ⟨xs,np,p,e1,e2⟩:=R.see e
   have sz':=map_av e1
   rcases idx_some e2 h with ⟨a1,a2,a3⟩|⟨a1,a2,a3,a4⟩
   ·obtain ⟨y,b1,b2⟩:=map_av_get e1 a3
    obtain ⟨hh,_⟩:=List.getElem?_eq_some_iff.mp a3
    refine getItem_tuple (j:=n.toNat) (tupI p) (by lia) a2 ?_ b1 ⟨H,R,by rw [b2];exact q⟩
    rw [sz']
    refine seqIndex_of a1 ?_
    rw [←Int.toNat_of_nonneg a1]
    exact Int.ofNat_lt.mpr hh
   ·obtain ⟨y,b1,b2⟩:=map_av_get e1 a4
    exact getItem_tuple (tupI p) a3 (by lia) (by rw [sz'];exact seqIndex_neg a1 (by assumption)) b1 ⟨H,R,by rw [b2];exact q⟩
  |dct es=>
   obtain ⟨n,hk,h⟩:=zd h3
   clear h3
   obtain ⟨t,rfl⟩:=vq (V.i_eq hk)
   obtain ⟨kvs,p,e1,e2⟩:=R.see e
   rw [←e1,vu] at h
   obtain ⟨y,b1,b2⟩:=Option.map_eq_some_iff.mp h
   exact wpAny_getItem_of (intKind_is _ _ _ _) p.mapOf b1 ⟨H,R.tok,by rw [b2];exact q⟩
  |att es=>
   refine nn fun hC=>?_
   obtain ⟨n,hk,h⟩:=zd h3
   clear h3
   obtain ⟨x,t,rfl,hx⟩:=av_str (V.s_eq hk)
   obtain ⟨kvs,p,e1,e2⟩:=R.see e
   refine hC ?_
   rw [att_get e1 hx] at h
   obtain ⟨y,b1,b2⟩:=Option.map_eq_some_iff.mp h
   exact wpAny_getItem_of (strKind_is _ _ _ _) p.mapOf b1 ⟨H,R.tok,by rw [b2];exact q⟩
  |_=>exact nsm h3
end
theorem map_stored{K:Type} [DecidableEq K](kvs:List (K×Value))(k:K)(v:Value):
  (stored kvs k v).map (fun e=>(e.1,av e.2))=put (kvs.map fun e=>(e.1,av e.2)) k (av v):=by
 unfold stored put
 have e:((kvs.map fun e=>(e.1,av e.2)).any fun e=>decide (e.1=k))=kvs.any fun e=>decide (e.1=k):=by
  rw [List.any_map];rfl
 rw [e]
 split
 ·rw [List.map_map,List.map_map]
  refine List.map_congr_left fun x _=>?_
  simp only [Function.comp]
  split<;>rfl
 ·rw [List.map_append];rfl
theorem map_without{K:Type} [DecidableEq K](kvs:List (K×Value))(k:K):
  (without kvs k).map (fun e=>(e.1,av e.2))=rem (kvs.map fun e=>(e.1,av e.2)) k:=by
 unfold without rem
 rw [List.filter_map];rfl
theorem map_merged(kvs more:List (Int×Value)):
  (merged kvs more).map (fun e=>(e.1,av e.2))=putAll (kvs.map fun e=>(e.1,av e.2)) (more.map fun e=>(e.1,av e.2)):=by
 unfold merged
 induction more generalizing kvs with
 |nil=>rfl
 |cons e r ih=>rw [List.foldl_cons,ih,map_stored];rfl
theorem put_length{K:Type} [DecidableEq K](es:List (K×V))(k:K)(v:V):(put es k v).length≤es.length+1:=by
 unfold put;split<;>simp
theorem rem_length{K:Type} [DecidableEq K](es:List (K×V))(k:K):(rem es k).length≤es.length:=List.length_filter_le ..
theorem putAll_length(es fs:List (Int×V)):(putAll es fs).length≤es.length+fs.length:=by
 induction fs generalizing es with
 |nil=>exact Nat.le_refl _
 |cons e r ih=>
  have:=ih (put es e.1 e.2)
  have:=put_length es e.1 e.2
  show (putAll (put es e.1 e.2) r).length≤es.length+(r.length+1)
  lia
theorem att_put{kvs:List (Str×Value)}{es:List (Nat×V)}(h:kvs.map (fun e=>(nmOf e.1,av e.2))=es.map (fun e=>(some e.1,e.2))){x:Str}{k:Nat}(hx:nmOf x=some k)(v:Value):
  (stored kvs x v).map (fun e=>(nmOf e.1,av e.2))=(put es k (av v)).map (fun e=>(some e.1,e.2)):=by
 have key:∀(kvs:List (Str×Value)) (es:List (Nat×V)),kvs.map (fun e=>(nmOf e.1,av e.2))=es.map (fun e=>(some e.1,e.2))→
   (kvs.any (fun e=>decide (e.1=x))=es.any (fun e=>decide (e.1=k)))∧
   (kvs.map (fun e=>if e.1=x then (e.1,v) else e)).map (fun e=>(nmOf e.1,av e.2))=(es.map fun e=>if e.1=k then (e.1,av v) else e).map (fun e=>(some e.1,e.2)):=by
  intro kvs
  induction kvs with
  |nil=>intro es h;induction es with
   |nil=>exact ⟨rfl,rfl⟩
   |cons _ _=>cases h
  |cons e r ih=>intro es h;induction es with
   |nil=>cases h
   |cons f r'=>
    simp only [List.map_cons,List.cons.injEq,Prod.mk.injEq] at h
    refine nn fun hC=>?_
    obtain ⟨⟨h1,h2⟩,h3⟩:=h
    obtain ⟨i1,i2⟩:=ih r' h3
    refine hC ?_
    simp only [List.any_cons,List.map_cons,i1]
    by_cases q:e.1=x
    ·have:f.1=k:=by rw [q,hx] at h1;exact (Option.some.inj h1).symm
     refine ⟨by simp [q,this],?_⟩
     rw [if_pos q,if_pos this,i2];simp [h1]
    ·have:f.1≠k:=fun z=>q (nmOf_inj (h1.trans (congrArg some z)) hx)
     refine ⟨by simp [q,this],?_⟩
     rw [if_neg q,if_neg this,i2];simp [h1,h2]
 obtain ⟨i1,i2⟩:=key kvs es h
 unfold stored put
 by_cases q:(kvs.any fun e=>decide (e.1=x))=true
 ·rw [if_pos q,if_pos (i1▸q)];exact i2
 ·rw [if_neg q,if_neg (i1▸q),List.map_append,List.map_append,h];simp [hx]
section
variable{c:Cx}{B:Bs}{H:AH}{s:Shared}{A:Around}{E:Value→Shared→Prop}{Q:V→AH→Prop}
theorem dct_len{a:Addr}{kvs:List (Int×Value)}{es:List (Int×V)}(h:kvs.map (fun e=>(e.1,av e.2))=es):kvs.length=es.length:=by rw [←h,List.length_map]
theorem att_len{kvs:List (Str×Value)}{es:List (Nat×V)}(h:kvs.map (fun e=>(nmOf e.1,av e.2))=es.map (fun e=>(some e.1,e.2))):kvs.length=es.length:=by
 have:=congrArg List.length h;simpa using this
theorem plain_mapSeq{h:Heap}{a:Addr}{xs:Array Value}{n:Nat}(p:h.get? a=some {cls:= .type "list",data:= .seq xs n})(f:Array Value→Array Value):
  (h.update a (Obj.mapSeq f)).PlainList a (f xs):=
 ⟨if (f xs).size==xs.size then n else n+1,Heap.get?_update_self (Obj.mapSeq f) p rfl⟩
theorem setItem_plain{l:Addr}{items:Array Value}{k:Int}{t:Tok}{v:Value}{Q:Unit→Shared→Prop}(hl:s.heap.PlainList l items)
  (h0:0≤k) (hfit:k<2^63) (hn:k<items.size)
  (hQ:∀h',h'.PlainList l (items.setIfInBounds k.toNat v)→Heap.SameBut l s.heap h'→Q () {s with heap:=h'}):
  wpAny (model c.prog c.w) A (setItem (.ref l) (.int k t) v) Q E s:=by
 have hl':=plainL hl
 obtain ⟨ne,ho⟩:=id hl
 unfold setItem
 try with_reducible refine wpAny_holding ?_
 first|refine wpAny_bind (wpAny_pure ?_)|skip
 refine wpAny_bind (wpAny_sequenceKey hl'.typeIs (by decide) ?_)
 refine wpAny_bind (wpAny_callSpecial?_slot (name:=Str.ofString "__setitem__") hl'.typeIs slot_list_setitem
  (wpAny_call_entry slot_list_setitem hl'.typeIs entry_list_setitem ?_ (args_list_setitem _ _ _)))
 show wpAny _ _ (Builtin.List.listSubscript? (.int k t)>>=_) _ _ s
 refine wpAny_bind (wpAny_listSubscript_int (fitsIndex_of h0 hfit) ?_)
 clear hfit
 obtain ⟨j,rfl⟩:=Int.eq_ofNat_of_zero_le h0
 have hj:j<items.size:=by lia
 have hx':items[j]?=some items[j]:=Array.getElem?_eq_getElem hj
 show wpAny _ _ ((seqItemAt l j>>=fun r=>pure (r.map (j,·)))>>=_) _ _ s
 refine wpAny_bind (wpAny_bind (wpAny_seqItemAt ho rfl (wpAny_pure ?_)))
 rw [hx']
 show wpAny _ _ (setSeqItemAt l j v>>=_) _ _ s
 have hfin:(s.heap.update l (Obj.mapSeq (·.setIfInBounds j v))).PlainList l (items.setIfInBounds j v):=
  plain_mapSeq ho _
 refine wpAny_bind (wpAny_setSeqItemAt ho rfl ?_)
 first
  |exact wpAny_bind (wpAny_pure (wpAny_pure ⟨.none,rfl,wpAny_pure (hQ _ hfin (Heap.SameBut.update ..))⟩))
  |exact wpAny_pure ⟨.none,rfl,wpAny_pure (hQ _ hfin (Heap.SameBut.update ..))⟩
theorem o_setItem{v k x:Value}{P:AH→Prop}(R:Hp c B H s)(h:setIW H (av v) (av k) (av x) P):
  wpAny (model c.prog c.w) A (setItem v k x) (fun _ s'=>∃H',Hp c B H' s'∧P H') E s:=by
 obtain ⟨a,h1,h⟩:=zh h
 obtain ⟨o,e,h⟩:=zh h
 rw [vm (V.r_eq h1)]
 clear h1
 induction o with
 |lst l=>
  obtain ⟨n,hk,h⟩:=zh h
  obtain ⟨i,q,h⟩:=zh h
  obtain ⟨t,rfl⟩:=vq (V.i_eq hk)
  obtain ⟨xs,p,e1,e2⟩:=R.real _ _ e
  have hsz:=map_av e1
  obtain ⟨q',rfl⟩:=gdP_eq q
  have:=sz63 e2
  refine setItem_plain p q'.1 (by lia) (by lia) fun h' p' hs=>⟨_,R.upd (t:=s.toks) e hs ?_,h⟩
  exact ⟨_,p',by rw [Array.toList_setIfInBounds,List.map_set,e1],by simpa using e2⟩
 |dct es=>
  obtain ⟨n,hk,h⟩:=zh h
  obtain ⟨t,rfl⟩:=vq (V.i_eq hk)
  obtain ⟨kvs,p,e1,e2⟩:=R.real _ _ e
  have hl:=dct_len (a:=a) e1
  refine wpAny_setItem_pairs (intKind_is _ _ _ _) p (fun h' p' hs=>⟨_,R.upd e hs ?_,h.2⟩) (wx (by lia))
  have:=put_length es n (av x)
  exact ⟨_,p',by rw [map_stored,e1],by lia⟩
 |att es=>
  obtain ⟨n,hk,hh⟩:=zh h
  clear h
  obtain ⟨y,t,rfl,hy⟩:=av_str (V.s_eq hk)
  obtain ⟨kvs,p,e1,e2⟩:=R.real _ _ e
  have hl:=att_len e1
  refine wpAny_setItem_pairs (strKind_is _ _ _ _) p (fun h' p' hs=>⟨_,R.upd e hs ?_,hh.2⟩) (wx (by unfold sz;lia))
  have:=put_length es n (av x)
  exact ⟨_,p',att_put e1 hy x,by lia⟩
 |_=>exact h.elim
theorem o_append{a:Addr}{v:Value}{l:List V}(R:Hp c B H s)(e:H a=some (.lst l))(hl:l.length<sz)(q:Q .none (H.set a (.lst (l++[av v])))):
  wpAny (model c.prog c.w) A (call (.builtin "list.append") [.ref a,v]) (PH c B Q) E s:=by
 refine nn fun hC=>?_
 obtain ⟨xs,p,e1,e2⟩:=R.real _ _ e
 refine hC ?_
 have hsz:=map_av e1
 refine wpAny_list_append_plain p (fun h' p' hs=>⟨_,R.upd (t:=s.toks) e hs ?_,q⟩) (wx (by lia))
 exact ⟨_,p',by rw [Array.toList_push,List.map_append,e1];rfl,by simp;assumption⟩
theorem o_pop{a:Addr}{l:List V}{v:V}(R:Hp c B H s)(e:H a=some (.lst l))(hv:l.getLast?=some v)(q:Q v (H.set a (.lst l.dropLast))):
  wpAny (model c.prog c.w) A (call (.builtin "list.pop") [.ref a]) (PH c B Q) E s:=by
 obtain ⟨xs,⟨n,p⟩,e1,e2⟩:=R.real _ _ e
 have hsz:=map_av e1
 rw [List.getLast?_eq_getElem?] at hv
 obtain ⟨y,b1,b2⟩:=map_av_get e1 hv
 rw [←hsz] at b1
 refine call_meetsIn PySem.F.slot_list_pop ⟨_,p,rfl⟩ PySem.F.entry_list_pop (PySem.F.args_list_pop_1 _) ((PySem.MeetsSeq.list_pop_last a xs n y b1 (wx (by lia))).inModel _ _) ⟨p,?_⟩
 refine ⟨_,R.upd (t:=s.toks) e (Heap.SameBut.update ..) ?_,by rw [b2];exact q⟩
 refine ⟨xs.eraseIdxIfInBounds (xs.size-1),plain_mapSeq p _,?_,by rw [List.length_dropLast];exact Nat.le_trans (Nat.sub_le ..) (by assumption)⟩
 ·rw [←e1]
  obtain ⟨zs⟩:=xs
  simp only [List.eraseIdxIfInBounds_toArray,List.size_toArray]
  rw [List.eraseIdx_length_sub_one,List.map_dropLast]
theorem o_extend{a b:Addr}{l r:List V}(R:Hp c B H s)(e:H a=some (.lst l))(e':H.see b=some (.lst r))(hab:a≠b)(hl:l.length+r.length≤sz)
  (q:Q .none (H.set a (.lst (l++r)))):wpAny (model c.prog c.w) A (call (.builtin "list.extend") [.ref a,.ref b]) (PH c B Q) E s:=by
 refine nn fun hC=>?_
 obtain ⟨xs,⟨n,p⟩,e1,e2⟩:=R.real _ _ e
 obtain ⟨ys,⟨n',p'⟩,e1',e2'⟩:=R.see e'
 refine hC ?_
 have hsz:=map_av e1
 have hsz':=map_av e1'
 refine wpAny_call (codeAny_call_builtin PySem.F.slot_list_extend.plain PySem.F.entry_list_extend (PySem.F.slot_list_extend.check _ _ _ _ _ _ _ _ ⟨_,p,rfl⟩ (PySem.F.args_list_extend_2 _ _) ?_))
 show wpAny _ A.in1 (Builtin.List.listExtendWith (.ref a) (.ref b) .none) _ _ s
 unfold Builtin.List.listExtendWith
 refine wpAny_bind (wpAny_typeOf ⟨_,p',rfl⟩ ?_)
 simp only [beq_self_eq_true,Bool.or_true,Bool.true_or,if_true]
 refine wpAny_bind ?_
 unfold Builtin.List.listItems
 refine wpAny_bind (wpAny_seqItems p' rfl (wpAny_pure ?_))
 refine wpAny_bind ?_
 refine wpAny_bind (wpAny_seqItems p rfl (wpAny_pure ?_))
 have hlong:Builtin.List.listTooLong (xs.size+ys.size)=false:=by
  unfold Builtin.List.listTooLong
  simp only [decide_eq_false_iff_not,gt_iff_lt,Nat.not_lt]
  have:= @wx (xs.size+ys.size) (by lia)
  assumption
 show wpAny _ A.in1 (if (!xs.isEmpty&&Builtin.List.listTooLong (xs.size+ys.size))=true then _ else _) _ _ s
 rw [hlong,Bool.and_false,if_neg Bool.false_ne_true]
 have hz:(xs++ys).size≤sizeLine+1:=by rw [Array.size_append];have:= @wx (xs.size+ys.size) (by lia);exact Nat.le_succ_of_le ‹_›
 show wpAny _ A.in1 (updateSeq a (·++ys)>>=fun _=>ret .none) _ _ s
 refine wpAny_bind (wpAny_updateSeq p rfl (wpAny_pure ?_) (hz:=wx (by lia)) (_hz':=hz))
 refine ⟨_,R.upd (t:=s.toks) e (Heap.SameBut.update ..) ?_,q⟩
 exact ⟨xs++ys,plain_mapSeq p _,by rw [Array.toList_append,List.map_append,e1,e1'],by rw [List.length_append];exact hl⟩
end
end Mine
end
section
open PySem PySem.W PyProof.Rows
set_option tactic.hygienic false
namespace Mine
section
variable{c:Cx}{B:Bs}{H:AH}{s:Shared}{A:Around}{E:Value→Shared→Prop}{Q:V→AH→Prop}
structure Gd(c:Cx):Prop where
 kin:c.K.In c.h₀
 nolimit:c.h₀.NoLimit
 mods:∃o,c.h₀.get? sysModules=some o
 mg:∃mg,c.h₀.Ns mainGlobals mg
 mb:∃mb,c.h₀.Ns builtinsNs mb∧∀x:Str,x≠"__name__"→mb x=bootBuiltins x
theorem Hp.h0(R:Hp c B H s):∀b o,c.h₀.get? b=some o→s.heap.get? b=some o:=fun b o e=>R.keep _ _ (R.base _ _ e)
theorem Hp.noMods(G:Gd c)(R:Hp c B H s){a:Addr}{x:O}(h:H.see a=some x):(a==sysModules)=false:=by
 obtain ⟨o,ho⟩:=G.mods
 exact beq_eq_false_iff_ne.mpr (R.base_ne h ho)
theorem see_of{a:Addr}{es:List (Int×V)}(e:H a=some (.dct es)):H.see a=some (.dct es):=congrArg (Option.map O.un) e
theorem o_dget1(G:Gd c){a:Addr}{k:Int}{t:Tok}{es:List (Int×V)}(R:Hp c B H s)(e:H.see a=some (.dct es))(q:Q ((get es k).getD .none) H):
  wpAny (model c.prog c.w) A (call (.builtin "dict.get") [.ref a,.int k t]) (PH c B Q) E s:=by
 refine nn fun hC=>?_
 obtain ⟨kvs,p,e1,e2⟩:=R.see e
 refine hC ?_
 refine call_meetsIn PySem.F.slot_dict_get p.typeIs PySem.F.entry_dict_get (PySem.F.args_dict_get_2 _ _) (meets_dict_get (intKind _ _) a (intKind_is _ _ _ _) (R.noMods G e)) ⟨_,p.mapOf,?_⟩
 refine ⟨H,R.tok,?_⟩
 rw [←e1,vu] at q
 generalize hv:valueAt kvs k=zq;induction zq with
 |none=>rw [hv] at q;exact q
 |some v=>rw [hv] at q;exact q
theorem o_dget2(G:Gd c){a:Addr}{k:Int}{t:Tok}{d:Value}{es:List (Int×V)}(R:Hp c B H s)(e:H.see a=some (.dct es))(q:Q ((get es k).getD (av d)) H):
  wpAny (model c.prog c.w) A (call (.builtin "dict.get") [.ref a,.int k t,d]) (PH c B Q) E s:=by
 obtain ⟨kvs,p,e1,e2⟩:=R.see e
 refine call_meetsIn PySem.F.slot_dict_get p.typeIs PySem.F.entry_dict_get (PySem.F.args_dict_get_3 _ _ _) (meets_dict_get_default (intKind _ _) a (intKind_is _ _ _ _) (R.noMods G e) d) ⟨_,p.mapOf,?_⟩
 refine ⟨H,R.tok,?_⟩
 rw [←e1,vu] at q
 generalize hv:valueAt kvs k=zq;induction zq with
 |none=>rw [hv] at q;exact q
 |some v=>rw [hv] at q;exact q
theorem o_dpop(G:Gd c){a:Addr}{k:Int}{t:Tok}{rest:List Value}{es:List (Int×V)}{v:V}(R:Hp c B H s)(hr:rest=[]∨∃d,rest=[d])(e:H a=some (.dct es))(hv:get es k=some v)
  (q:Q v (H.set a (.dct (rem es k)))):wpAny (model c.prog c.w) A (call (.builtin "dict.pop") (.ref a:: .int k t::rest)) (PH c B Q) E s:=by
 obtain ⟨kvs,p,e1,e2⟩:=R.real _ _ e
 have hl:=dct_len (a:=a) e1
 rw [←e1,vu] at hv
 obtain ⟨y,b1,b2⟩:=Option.map_eq_some_iff.mp hv
 have args:argsOk "dict.pop" ⟨.ref a:: .int k t::rest,[]⟩:=by
  rcases hr with rfl|⟨d,rfl⟩
  ·exact PySem.F.args_dict_pop_2 _ _
  ·exact PySem.F.args_dict_pop_3 _ _ _
 refine call_meetsIn PySem.F.slot_dict_pop p.typeIs PySem.F.entry_dict_pop args (meets_dict_pop_there (intKind _ _) a (intKind_is _ _ _ _) rest hr rfl)
  ⟨kvs,y,p,wx (by lia),b1,fun h' p' hs=>⟨_,R.upd e hs ?_,by rw [b2];exact q⟩⟩
 have:=rem_length es k
 exact ⟨_,p',by rw [map_without,e1],by exact Nat.le_trans ‹_› ‹_›⟩
theorem o_dpop2_none(G:Gd c){a:Addr}{k:Int}{t:Tok}{d:Value}{es:List (Int×V)}(R:Hp c B H s)(e:H a=some (.dct es))(hv:get es k=none)(q:Q (av d) H):
  wpAny (model c.prog c.w) A (call (.builtin "dict.pop") [.ref a,.int k t,d]) (PH c B Q) E s:=by
 obtain ⟨kvs,p,e1,e2⟩:=R.real _ _ e
 have hl:=dct_len (a:=a) e1
 rw [←e1,vu] at hv
 have hv':valueAt kvs k=none:=by generalize q:valueAt kvs k=zq;induction zq with
  |none=>rfl
  |some y=>rw [q] at hv;cases hv
 refine wpAny_call (codeAny_call_builtin PySem.F.slot_dict_pop.plain PySem.F.entry_dict_pop (PySem.F.slot_dict_pop.check _ _ _ _ _ _ _ _ p.typeIs (PySem.F.args_dict_pop_3 _ _ _) ?_))
 unfold Builtin.«dict.pop»
 refine wpAny_bind ?_
 unfold Builtin.Dict.keyAndDefault
 refine wpAny_bind (wpAny_notOrdered_dict p.typeIs ?_)
 show wpAny _ _ (pure (a,Value.int k t,some d)) _ _ s
 refine wpAny_pure ?_
 have hpart:(keyPart (.int k t)).isSome=true:=rfl
 simp only [hpart,if_true]
 refine wpAny_bind (wpAny_pure ?_)
 simp only [Bool.false_eq_true,if_false]
 refine wpAny_bind (wpAny_takeOut_pairs (hsz:=wx (by lia)) (intKind_is _ _ _ _) p (fun _=>?_) fun e h1 h2=>by rw [hv'] at h2;cases h2)
 simp only [Option.isNone_none,if_true]
 exact wpAny_bind (wpAny_missedRemoval_other (R.noMods G (see_of e)) (wpAny_bind (wpAny_rule (wpAny_pure ⟨H,R.tok,q⟩))))
theorem dictSetDefault_pairs{K:Type} [DecidableEq K]{prog:Program}{w:World}{knd:KeyKind prog w K}{d:Addr}{kvs:List (K×Value)}{k:K}{key dflt:Value}{Q:Value→Shared→Prop}(hkey:knd.is k key=true)(hm:s.heap.DictOf knd d kvs)
  (hthere:∀v,valueAt kvs k=some v→Q v {s with toks:=s.toks+1})
  (hnew:valueAt kvs k=none→∀h',h'.DictOf knd d (stored kvs k dflt)→Heap.SameBut d s.heap h'→Q dflt {s with heap:=h',toks:=s.toks+1})
  (hsz:kvs.length≤sizeLine):
  wpAny (model prog w) A (dictSetDefault d key dflt) Q E s:=by
 refine nn fun hC=>?_
 obtain ⟨o,es,ep,ho,hc,hd,hk,hp,hn⟩:=id hm
 refine hC ?_
 have hes:es.size≤sizeLine:=by
  have e1:=hp.length
  have e2:es.toList.length=es.size:=by simp
  lia
 have hf:∀x,findBy knd.is es x=valueAt kvs x:=fun x=>by
  rw [←hp.find x];unfold findBy;rw [←Array.find?_toList]
 have hidx:(es.findIdx? fun e=>knd.is k e.key)=kvs.findIdx? fun kv=>decide (kv.1=k):=by
  rw [←hp.findIdx k];obtain ⟨l⟩:=es;simp
 unfold dictSetDefault
 try with_reducible refine wpAny_holding ?_
 refine wpAny_bind (knd.pyHash hkey ?_)
 refine wpAny_bind (wpAny_dictFind_of (s:={s with toks:=s.toks+1}) hkey ho hd hk ?_)
 cases hi:es.findIdx? fun e=>knd.is k e.key with
 |some i=>
  have hfk:valueAt kvs k=(es[i]?).map (·.val):=by rw [←hf k,findBy_of_findIdx?,hi]
  refine wpAny_bind (wpAny_dictEntries (s:={s with toks:=s.toks+1}) ho hd ?_)
  generalize he:es[i]?=zq;induction zq with
  |none=>
   exfalso
   have:=Array.findIdx?_eq_some_iff_findIdx_eq.mp hi
   have hlt:i<es.size:=this.1
   rw [Array.getElem?_eq_getElem hlt] at he
   exact nomatch he
  |some e=>
   rw [he] at hfk
   exact wpAny_bind (wpAny_rule (wpAny_pure (hthere e.val hfk)))
 |none=>
  have hfk:valueAt kvs k=none:=by rw [←hf k,findBy_of_findIdx?,hi]
  have hnot:k∉kvs.map (·.1):=not_mem_of_findIdx_none (hidx▸hi)
  have hany:¬(kvs.any fun kv=>decide (kv.1=k))=true:=by
   rw [List.any_eq_true];rintro ⟨kv,hkv,he⟩
   exact hnot (List.mem_map.mpr ⟨kv,hkv,of_decide_eq_true he⟩)
  refine wpAny_bind (wpAny_rule (wpAny_bind (wpAny_updateDictKeys (hz:=hes) (s:={s with toks:=s.toks+1}) ho hd (wpAny_pure (hnew hfk _ ⟨_,_,ep+1,Heap.get?_update_self _ ho (Obj.isFreed_of_dict (Obj.data_mapDictKeys hd _)),
   hc.mapDictKeys _,Obj.data_mapDictKeys hd _,hk.push hkey _,?_,?_⟩ (Heap.SameBut.update ..))))))
  ·rw [stored,if_neg hany]
   have:=hp.append hkey (knd.hash k) dflt
   obtain ⟨l⟩:=es
   simpa using this
  ·rw [stored,if_neg hany,List.map_append,List.nodup_append]
   refine ⟨hn,by simp,?_⟩
   intro a ha b hb
   simp only [List.map_cons,List.map_nil,List.mem_singleton] at hb
   subst hb
   exact fun e=>hnot (e▸ha)
theorem o_setdef(G:Gd c){a:Addr}{k:Int}{t:Tok}{d:Value}{es:List (Int×V)}(R:Hp c B H s)(e:H a=some (.dct es))
  (q:match get es k with|some v=>Q v H|none=>es.length<sz∧Q (av d) (H.set a (.dct (put es k (av d))))):
  wpAny (model c.prog c.w) A (call (.builtin "dict.setdefault") [.ref a,.int k t,d]) (PH c B Q) E s:=by
 refine nn fun hC=>?_
 obtain ⟨kvs,p,e1,e2⟩:=R.real _ _ e
 refine hC ?_
 have hl:=dct_len (a:=a) e1
 have hg:get es k=(valueAt kvs k).map av:=by rw [←e1,vu]
 refine wpAny_call (codeAny_call_builtin PySem.F.slot_dict_setdefault.plain PySem.F.entry_dict_setdefault (PySem.F.slot_dict_setdefault.check _ _ _ _ _ _ _ _ p.typeIs (PySem.F.args_dict_setdefault_3 _ _ _) ?_))
 unfold Builtin.«dict.setdefault»
 refine wpAny_bind ?_
 unfold Builtin.Dict.keyAndDefault
 refine wpAny_bind (wpAny_notOrdered_dict p.typeIs ?_)
 show wpAny _ _ (pure (a,Value.int k t,some d)) _ _ s
 refine wpAny_pure ?_
 show wpAny _ _ (if (a==sysModules)=true then _ else (dictSetDefault a (.int k t) d>>=_)) _ _ s
 rw [if_neg (by rw [R.noMods G (see_of e)];exact Bool.false_ne_true)]
 refine wpAny_bind (dictSetDefault_pairs (intKind_is _ _ _ _) p (fun v hv=>wpAny_pure ?_) (fun hn h' p' hs=>wpAny_pure ?_) (wx (by lia)))
 ·rw [hg,hv] at q;exact ⟨H,R.tok,q⟩
 ·rw [hg,hn] at q
  obtain ⟨q1,q2⟩:=q
  refine ⟨_,R.upd e hs ?_,q2⟩
  have:=put_length es k (av d)
  exact ⟨_,p',by rw [map_stored,e1],by exact Nat.le_trans ‹_› ‹_›⟩
theorem o_update(G:Gd c){a b:Addr}{es fs:List (Int×V)}(R:Hp c B H s)(e:H a=some (.dct es))(e':H.see b=some (.dct fs))(hab:a≠b)(hl:es.length+fs.length≤sz)
  (q:Q .none (H.set a (.dct (putAll es fs)))):wpAny (model c.prog c.w) A (call (.builtin "dict.update") [.ref a,.ref b]) (PH c B Q) E s:=by
 refine nn fun hC=>?_
 obtain ⟨kvs,p,e1,e2⟩:=R.real _ _ e
 obtain ⟨more,p',e1',e2'⟩:=R.see e'
 refine hC ?_
 have l1:=dct_len (a:=a) e1
 have l2:=dct_len (a:=a) e1'
 refine call_meetsIn PySem.F.slot_dict_update p.typeIs PySem.F.entry_dict_update (PySem.F.args_dict_update_2 _ _) (meets_dict_update (intKind _ _) a b hab (R.noMods G e'))
  ⟨kvs,more,p,p',wx (by lia),fun h' p'' _ hs=>⟨_,R.upd (t:=s.toks) e hs ?_,q⟩⟩
 have:=putAll_length es fs
 exact ⟨_,p'',by rw [map_merged,e1,e1'],by exact Nat.le_trans ‹_› ‹_›⟩
end
end Mine
end
section
open PySem PySem.W PyProof.Rows
namespace Mine
theorem allSome_map{α β:Type}{f:α→Option β}:∀{l:List α} {r:List β},wv (l.map f)=some r→r.length=l.length∧∀(i:Nat) (x:α),l[i]?=some x→∃y,f x=some y∧r[i]?=some y
 |[],r,h=>by cases h;exact ⟨rfl,fun i x e=>by simp at e⟩
 |a::l,r,h=>by
  simp only [List.map_cons] at h
  generalize q:f a=zq;induction zq with
  |none=>rw [q] at h;cases h
  |some y=>
   rw [q] at h
   obtain ⟨r',h',rfl⟩:=Option.map_eq_some_iff.mp h
   obtain ⟨h1,h2⟩:=allSome_map h'
   refine ⟨by simp [h1],fun i x e=>?_⟩
   induction i with
   |zero=>simp at e;subst e;exact ⟨y,q,rfl⟩
   |succ i=>simp at e;obtain ⟨z,a,b⟩:=h2 i x e;exact ⟨z,a,by simpa using b⟩
section
variable{c:Cx}{B:Bs}{H:AH}{s:Shared}{A:Around}{E:Value→Shared→Prop}{Q:V→AH→Prop}
noncomputable def RdOK(s:Shared)(n:Nat)(v:Value)(d:PyData):Prop:=An3 (∃as,Reads s.heap v d as) (d.canLay0=true) (d.depth≤n)
theorem lit_reads{n:Nat}{v:Value}{d:PyData}(h:litV (av v)=some d):RdOK s n v d:=by
 generalize hv:av v=zq;induction zq with
 |none=>rw [hv] at h;cases h;rw [av_none hv];exact ⟨⟨_,.none⟩,rfl,Nat.zero_le n⟩
 |bool b=>rw [hv] at h;cases h;rw [av_bool hv];exact ⟨⟨_,.bool b⟩,rfl,Nat.zero_le n⟩
 |int i=>rw [hv] at h;cases h;obtain ⟨t,rfl⟩:=vq hv;exact ⟨⟨_,.int i t⟩,rfl,Nat.zero_le n⟩
 |_=>rw [hv] at h;exact nsm h
theorem all_reads{n:Nat}(ih:∀v d,rd H n (av v)=some d→RdOK s n v d):∀(xs:List Value) (ds:List PyData),wv ((xs.map av).map (rd H n))=some ds→An3 (∃as,ReadsAll s.heap xs ds as) (PyData.canLayAll0 ds=true) (PyData.depthAll ds≤n)
 |[],ds,h=>by cases h;exact ⟨⟨_,.nil⟩,by simp [PyData.canLayAll0],by simp [PyData.depthAll]⟩
 |x::r,ds,h=>by
  simp only [List.map_cons] at h
  generalize q:rd H n (av x)=zq;induction zq with
  |none=>rw [q] at h;exact nsm h
  |some y=>
   rw [q] at h
   obtain ⟨ds',h',rfl⟩:=wj h
   obtain ⟨⟨as,a1⟩,a2,a3⟩:=all_reads ih r ds' h'
   obtain ⟨⟨bs,b1⟩,b2,b3⟩:=ih x y q
   refine ⟨⟨_,.cons b1 a1⟩,?_,?_⟩
   ·simp only [PyData.canLayAll0];rw [b2,a2];rfl
   ·simp only [PyData.depthAll];exact Nat.max_le.mpr ⟨‹_›,‹_›⟩
theorem rd_reads(R:Hp c B H s):∀(n:Nat) (v:Value) (d:PyData),rd H n (av v)=some d→RdOK s n v d
 |0,v,d,h=>lit_reads h
 |n+1,v,d,h=>by
  have h:(av v).r?.elim (litV (av v)) (fun a=>(H.see a).bind (seqD fun l=>wv (l.map (rd H n))))=some d:=h
  generalize hr:(av v).r?=zq;induction zq with
  |none=>rw [hr] at h;exact lit_reads h
  |some a=>
   rw [hr] at h
   rw [vm (V.r_eq hr)]
   obtain ⟨o,e,h⟩:=zd h
   induction o with
   |lst l=>
    obtain ⟨ds,h',rfl⟩:=wj h
    obtain ⟨xs,⟨k,p⟩,e1,e2⟩:=R.see e
    rw [←e1] at h'
    obtain ⟨⟨as,a1⟩,a2,a3⟩:=all_reads (rd_reads R n) _ _ h'
    exact ⟨⟨_,Reads.list p rfl rfl a1⟩,by simp only [PyData.canLay0];exact a2,by simp only [PyData.depth];exact Nat.lt_succ_of_le ‹_›⟩
   |tup l=>
    obtain ⟨ds,h',rfl⟩:=wj h
    obtain ⟨xs,k,p,e1,e2⟩:=R.see e
    rw [←e1] at h'
    obtain ⟨⟨as,a1⟩,a2,a3⟩:=all_reads (rd_reads R n) _ _ h'
    exact ⟨⟨_,Reads.tuple p rfl rfl a1⟩,by simp only [PyData.canLay0];exact a2,by simp only [PyData.depth];exact Nat.lt_succ_of_le ‹_›⟩
   |_=>exact nsm h
theorem rd_shaped{d:PyData}{n:Nat}(h1:d.canLay0=true)(h2:d.depth≤n)(hn:n≤64):SeqAt.shaped d=true:=by
 unfold SeqAt.shaped;rw [h1,Bool.true_and];exact decide_eq_true (Nat.le_trans h2 hn)
theorem o_eq{v w:Value}{b:Bool}(R:Hp c B H s)(hu:A.units+80<cLine)(h:eqV H (av v) (av w)=some b)(q:Q (.bool b) H):
  wpAny (model c.prog c.w) A (compareOp .Eq v w) (PH c B Q) E s:=by
 obtain ⟨d,h1,h⟩:=zd h
 obtain ⟨e,h2,rfl⟩:=wj h
 obtain ⟨⟨as,a1⟩,a2,a3⟩:=rd_reads R _ _ _ h1
 obtain ⟨⟨bs,b1⟩,b2,b3⟩:=rd_reads R _ _ _ h2
 exact eq_dataH a1 b1 (rd_shaped a2 a3 (by decide)) (rd_shaped b2 b3 (by decide)) (by lia) ⟨H,R,q⟩
theorem o_ne{v w:Value}{b:Bool}(R:Hp c B H s)(hu:A.units+80<cLine)(h:eqV H (av v) (av w)=some b)(q:Q (.bool (!b)) H):
  wpAny (model c.prog c.w) A (compareOp .NotEq v w) (PH c B Q) E s:=by
 obtain ⟨d,h1,h⟩:=zd h
 obtain ⟨e,h2,rfl⟩:=wj h
 obtain ⟨⟨as,a1⟩,a2,a3⟩:=rd_reads R _ _ _ h1
 obtain ⟨⟨bs,b1⟩,b2,b3⟩:=rd_reads R _ _ _ h2
 exact ne_dataH a1 b1 (rd_shaped a2 a3 (by decide)) (rd_shaped b2 b3 (by decide)) (by lia) ⟨H,R,q⟩
inductive MemR(c:Cx)(H:AH)(s:Shared)(v w:Value)(b:Bool):Prop
 |lst (a:Addr) (ds:List PyData) (d:PyData) (as bs:List Addr) (ew:w= .ref a) (h1:Reads s.heap (.ref a) (.list ds) as) (h2:Reads s.heap v d bs) (h3:PyData.canLayAll0 ds=true) (h4:d.canLay0=true) (h5:d.depth≤2) (hb:(ds.any fun y=>PyData.eqv y d)=b)
 |tup (a:Addr) (ds:List PyData) (d:PyData) (as bs:List Addr) (ew:w= .ref a) (h1:Reads s.heap (.ref a) (.tuple ds) as) (h2:Reads s.heap v d bs) (h3:PyData.canLayAll0 ds=true) (h4:d.canLay0=true) (h5:d.depth≤2) (hb:(ds.any fun y=>PyData.eqv y d)=b)
 |dct (a:Addr) (i:Int) (t:Tok) (es:List (Int×V)) (ew:w= .ref a) (ev:v= .int i t) (e:H.see a=some (.dct es)) (hb:(get es i).isSome=b)
theorem mem_r{v w:Value}{b:Bool}(R:Hp c B H s)(h:memV H (av v) (av w)=some b):MemR c H s v w b:=by
 obtain ⟨a,h1,h⟩:=zd h
 obtain ⟨o,e,h⟩:=zd h
 have hw:=vm (V.r_eq h1)
 clear h1
 induction o with
 |lst l=>
  obtain ⟨ds,h2,h⟩:=zd (show (wv (l.map (rd H 2))).bind _=_ from h)
  obtain ⟨d,h3,rfl⟩:=wj h
  obtain ⟨xs,⟨k,p⟩,e1,e2⟩:=R.see e
  obtain ⟨⟨as,a1⟩,a2,a3⟩:=rd_reads R _ _ _ h3
  rw [←e1] at h2
  obtain ⟨⟨bs,b1⟩,b2,b3⟩:=all_reads (rd_reads R 2) _ _ h2
  exact .lst a ds d _ _ hw (Reads.list p rfl rfl b1) a1 b2 a2 a3 rfl
 |tup l=>
  obtain ⟨ds,h2,h⟩:=zd (show (wv (l.map (rd H 2))).bind _=_ from h)
  obtain ⟨d,h3,rfl⟩:=wj h
  obtain ⟨xs,k,p,e1,e2⟩:=R.see e
  obtain ⟨⟨as,a1⟩,a2,a3⟩:=rd_reads R _ _ _ h3
  rw [←e1] at h2
  obtain ⟨⟨bs,b1⟩,b2,b3⟩:=all_reads (rd_reads R 2) _ _ h2
  exact .tup a ds d _ _ hw (Reads.tuple p rfl rfl b1) a1 b2 a2 a3 rfl
 |dct es=>
  obtain ⟨i,h2,h3⟩:=wj (show (av v).i?.map _=_ from h)
  obtain ⟨t,ht⟩:=vq (V.i_eq h2)
  exact .dct a i t es hw ht e h3
 |_=>exact nsm h
theorem o_mem(G:Gd c){v w:Value}{b:Bool}(R:Hp c B H s)(hu:A.units+80<cLine)(h:memV H (av v) (av w)=some b)(q:Q (.bool b) H):
  wpAny (model c.prog c.w) A (compareOp .In v w) (PH c B Q) E s:=by
 induction mem_r R h with
 |lst a ds d as bs ew h1 h2 h3 h4 h5 hb=>
  have dmin:=Nat.min_le_right (PyData.depthAll ds) d.depth
  rw [ew]
  exact SeqAt.in_list_reads h1 h2 h3 h4 (by lia) ⟨H,R,by rw [hb];exact q⟩
 |tup a ds d as bs ew h1 h2 h3 h4 h5 hb=>
  have dmin:=Nat.min_le_right (PyData.depthAll ds) d.depth
  rw [ew]
  exact SeqAt.in_tuple_reads h1 h2 h3 h4 (by lia) ⟨H,R,by rw [hb];exact q⟩
 |dct a i t es ew ev e hb=>
  obtain ⟨kvs,p,e1,e2⟩:=R.see e
  rw [ew,ev]
  refine wpAny_in_of (intKind_is _ _ _ _) (R.noMods G e) p.mapOf ⟨H,R.tok,?_⟩
  rw [←hb,←e1,vu] at q
  simpa [av] using q
theorem o_notMem(G:Gd c){v w:Value}{b:Bool}(R:Hp c B H s)(hu:A.units+80<cLine)(h:memV H (av v) (av w)=some b)(q:Q (.bool (!b)) H):
  wpAny (model c.prog c.w) A (compareOp .NotIn v w) (PH c B Q) E s:=by
 induction mem_r R h with
 |lst a ds d as bs ew h1 h2 h3 h4 h5 hb=>
  have dmin:=Nat.min_le_right (PyData.depthAll ds) d.depth
  rw [ew]
  exact SeqAt.notIn_list_reads h1 h2 h3 h4 (by lia) ⟨H,R,by rw [hb];exact q⟩
 |tup a ds d as bs ew h1 h2 h3 h4 h5 hb=>
  have dmin:=Nat.min_le_right (PyData.depthAll ds) d.depth
  rw [ew]
  exact SeqAt.notIn_tuple_reads h1 h2 h3 h4 (by lia) ⟨H,R,by rw [hb];exact q⟩
 |dct a i t es ew ev e hb=>
  obtain ⟨kvs,p,e1,e2⟩:=R.see e
  rw [ew,ev]
  refine wpAny_notIn_of (intKind_is _ _ _ _) (R.noMods G e) p.mapOf ⟨H,R.tok,?_⟩
  rw [←hb,←e1,vu] at q
  simpa [av] using q
inductive LtR(v w:Value)(b:Bool):Prop
 |mk (i j:Int) (t u:Tok) (e1:v= .int i t) (e2:w= .int j u) (e:decide (i<j)=b)
theorem lt_r{v w:Value}{b:Bool}(h:ltV (av v) (av w)=some b):LtR v w b:=by
 unfold ltV at h
 generalize h1:(av v).i?=zq;induction zq with
 |none=>rw [h1] at h;exact nsm h
 |some i=>
  rw [h1] at h
  generalize h2:(av w).i?=zq;induction zq with
  |none=>rw [h2] at h;exact nsm h
  |some j=>
   rw [h2] at h
   obtain ⟨t,e1⟩:=vq (V.i_eq h1)
   obtain ⟨u,e2⟩:=vq (V.i_eq h2)
   exact ⟨i,j,t,u,e1,e2,Option.some.inj h⟩
theorem o_lt{v w:Value}{b:Bool}(R:Hp c B H s)(h:ltV (av v) (av w)=some b)(q:Q (.bool b) H):wpAny (model c.prog c.w) A (compareOp .Lt v w) (PH c B Q) E s:=by
 obtain ⟨i,j,t,u,rfl,rfl,rfl⟩:=lt_r h
 exact lt_int ⟨H,R,q⟩
theorem nlt{i j:Int}:decide (i≥j)=!decide (i<j):=by by_cases z:i<j<;>simp [z]<;>lia
theorem o_ge{v w:Value}{b:Bool}(R:Hp c B H s)(h:ltV (av v) (av w)=some b)(q:Q (.bool (!b)) H):wpAny (model c.prog c.w) A (compareOp .GtE v w) (PH c B Q) E s:=by
 obtain ⟨i,j,t,u,rfl,rfl,rfl⟩:=lt_r h
 exact ge_int ⟨H,R,by rw [nlt];exact q⟩
theorem o_le{v w:Value}{b:Bool}(R:Hp c B H s)(h:ltV (av w) (av v)=some b)(q:Q (.bool (!b)) H):wpAny (model c.prog c.w) A (compareOp .LtE v w) (PH c B Q) E s:=by
 obtain ⟨i,j,t,u,rfl,rfl,rfl⟩:=lt_r h
 exact le_int ⟨H,R,by rw [show decide (j≤i)=_ from nlt];exact q⟩
inductive IsR(v w:Value)(b:Bool):Prop
 |mk (hw:w= .none) (hv:plainIs v .none=true) (hb:(v==Value.none)=b)
theorem is_r{v w:Value}{b:Bool}(h:isV (av v) (av w)=some b):IsR v w b:=by
 generalize hw:av w=zq;induction zq with
 |none=>
  rw [hw] at h
  obtain ⟨u,h1,rfl⟩:=wj h
  obtain ⟨rfl,h2⟩:=nun_eq h1
  refine ⟨av_none hw,?_,?_⟩
  ·induction v<;>first|rfl|(exact absurd rfl h2)
  ·by_cases z:av v= .none
   ·rw [av_none z];rfl
   ·rw [decide_eq_false z];exact beq_eq_false_iff_ne.mpr fun e=>z (by rw [e];rfl)
 |_=>rw [hw] at h;exact nsm h
theorem o_is{v w:Value}{b:Bool}(R:Hp c B H s)(h:isV (av v) (av w)=some b)(q:Q (.bool b) H):wpAny (model c.prog c.w) A (compareOp .Is v w) (PH c B Q) E s:=by
 obtain ⟨rfl,hv,rfl⟩:=is_r h
 exact wpAny_is_plain hv ⟨H,R,q⟩
theorem o_isNot{v w:Value}{b:Bool}(R:Hp c B H s)(h:isV (av v) (av w)=some b)(q:Q (.bool (!b)) H):wpAny (model c.prog c.w) A (compareOp .IsNot v w) (PH c B Q) E s:=by
 obtain ⟨rfl,hv,rfl⟩:=is_r h
 exact wpAny_isNot_plain hv ⟨H,R,q⟩
end
section
variable{c:Cx}{B:Bs}{H:AH}{s:Shared}{A:Around}{E:Value→Shared→Prop}{Q:V→AH→Prop}
theorem bits_big{a:Int}(h: -big≤a∧a≤big):Builtin.Int.intBits a≤64:=by
 unfold Builtin.Int.intBits
 obtain ⟨h1,h2⟩:=h
 have:a.natAbs≤4611686018427387904:=by unfold big at h1 h2;lia
 split
 ·exact Nat.zero_le _
 ·rename_i hz
  have h3:a.natAbs<2^63:=by lia
  have hz':a.natAbs≠0:=by simpa using hz
  have:=(Nat.log2_lt hz').mpr h3
  exact Nat.lt_succ_of_lt ‹_›
noncomputable def opOf:Op→Operator
 | .add=> .Add
 | .sub=> .Sub
 | .mul=> .Mult
 | .fdiv=> .FloorDiv
 | .mod=> .Mod
 | .pow _=> .Pow
theorem o_int{op:Op}{a b r:Int}{t u:Tok}(R:Hp c B H s)(h:intBin op a b=some r)(q:Q (.int r) H):
  wpAny (model c.prog c.w) A (binaryOp (opOf op) (.int a t) (.int b u)) (PH c B Q) E s:=by
 cases op with
 |add=>cases h;exact add_int ⟨H,R.tok,q⟩
 |sub=>cases h;exact sub_int ⟨H,R.tok,q⟩
 |mul=>
  obtain ⟨hb,rfl⟩:=gdP_eq h
  exact mul_int ⟨H,R.tok,q⟩ (IntMulOk.of_left (bits_big ⟨hb.1,hb.2.1⟩))
 |fdiv=>
  obtain ⟨hb,rfl⟩:=gdP_eq h
  refine floordiv_int (by lia) ⟨H,R.tok,?_⟩ (Or.inl (PyProof.noPylong_small (by lia)))
  rw [Int.fdiv_eq_ediv_of_nonneg _ (by lia)];exact q
 |mod=>
  obtain ⟨hb,rfl⟩:=gdP_eq h
  refine mod_int' (by lia) ⟨H,R.tok,?_⟩
  rw [Int.fmod_eq_emod_of_nonneg _ (by lia)];exact q
 |pow=>
  obtain ⟨hb,rfl⟩:=gdP_eq h
  obtain ⟨rfl,h0,h1⟩:=hb
  by_cases hz:b=0
  ·subst hz
   exact PySem.AutoIntOps.pow_0 (by decide) rfl ⟨H,R.tok,q⟩
  ·refine PySem.AutoIntOps.pow_4 h0 (by simpa using hz) (by decide) (by decide) ?_ ⟨H,R.tok,q⟩
   unfold Builtin.Int.intTooBig bitsLine
   have:Builtin.Int.intBits 2=2:=by decide+kernel
   rw [this]
   simp only [decide_eq_true_eq,gt_iff_lt,Int.not_lt]
   lia
theorem set_self{a:Addr}{x:O}(h:H a=some x):H.set a x=H:=by
 funext b
 unfold AH.set
 split
 ·rename_i e;rw [e,h]
 ·rfl
theorem o_addT{a b:Addr}{l r:List V}(R:Hp c B H s)(ha:H a=some (.tup l))(hb:H b=some (.tup r))(h1:l.length+r.length≤sz)(h2:∀x,H x=none∨H x=some (.tup (l++r))→Q (.ref x) (H.set x (.tup (l++r)))):
  wpAny (model c.prog c.w) A (binaryOp .Add (.ref a) (.ref b)) (PH c B Q) E s:=by
 obtain ⟨xs,n,p,e1,e2⟩:=R.real _ _ ha
 obtain ⟨ys,n',p',e1',e2'⟩:=R.real _ _ hb
 have s1:=map_av e1
 have s2:=map_av e1'
 by_cases z1:xs.isEmpty=true
 ·have zl:l=[]:=by
   have:xs.size=0:=by simpa using z1
   exact List.eq_nil_of_length_eq_zero (by lia)
  subst zl
  have hx:xs= #[]:=by simpa using z1
  subst hx
  have q:=h2 b (.inr hb)
  rw [List.nil_append,set_self hb] at q
  exact concat_meets ⟨_,p,rfl⟩ ⟨_,p',rfl⟩ noFill_tuple_add seq_tuple_add PySem.F.slot_tuple_add PySem.F.entry_tuple_add (PySem.F.args_tuple_add_2 _ _) (tuple_addW0 a b #[] ys n n' none none #[] #[] rfl) ⟨p,p',⟨H,R,q⟩⟩
 ·by_cases z2:ys.isEmpty=true
  ·have zr:r=[]:=by
    have:ys.size=0:=by simpa using z2
    exact List.eq_nil_of_length_eq_zero (by lia)
   subst zr
   have hy:ys= #[]:=by simpa using z2
   subst hy
   have q:=h2 a (.inr (by rw [List.append_nil];exact ha))
   rw [List.append_nil,set_self ha] at q
   exact concat_meets ⟨_,p,rfl⟩ ⟨_,p',rfl⟩ noFill_tuple_add seq_tuple_add PySem.F.slot_tuple_add PySem.F.entry_tuple_add (PySem.F.args_tuple_add_2 _ _) (tuple_addW1 a b xs #[] n n' none none #[] #[] z1 rfl) ⟨p,p',⟨H,R,q⟩⟩
  ·refine PySem.P.add_tuple p p' z1 z2 (R.push (t:=s.toks) (x:= .tup (l++r)) ⟨xs++ys,0,Heap.get?_push_size _ rfl,?_,by rw [List.length_append];exact h1⟩ fun a q=>h2 a (.inl q)) (wx (by lia))
   rw [Array.toList_append,List.map_append,e1,e1']
theorem o_mulL{a:Addr}{l:List V}{k:Int}{u:Tok}(R:Hp c B H s)(ha:H a=some (.lst l))(hk:k=0∨k=1)(q:∀x,H x=none→Q (.ref x) (H.set x (.lst (if k=0 then [] else l)))):
  wpAny (model c.prog c.w) A (binaryOp .Mult (.ref a) (.int k u)) (PH c B Q) E s:=by
 obtain ⟨xs,⟨n,ho⟩,e1,e2⟩:=R.real _ _ ha
 have s1:=map_av e1
 have hz:xs.size*k.toNat≤sizeLine:=wx (Nat.le_trans (Nat.le_trans (Nat.mul_le_mul_left _ (show k.toNat≤1 by rcases hk with rfl|rfl<;>decide)) (Nat.le_of_eq (Nat.mul_one _))) (by lia))
 refine wpAny_binaryOp_repeat_ref (T:="list") (U:="int") rfl ⟨_,ho,rfl⟩ (fun s'=>typeIs_int s' k u) noFill_list_mul F.fills_int_mul F.slot_int_rmul repeat_list F.slot_int_index.lookup
  (call_meets F.slot_int_rmul (typeIs_int s k u) F.entry_int_rmul (F.args_int_rmul_2 _ _) (lm_int_rmul_list_any k u a xs n none #[])
   ⟨ho,rfl,⟨_,ho,rfl⟩,call_meets F.slot_list_mul ⟨_,ho,rfl⟩ F.entry_list_mul (F.args_list_mul_2 _ _)
    (lm_list_mul_any a xs n none #[] k u (by rcases hk with rfl|rfl<;>decide) (fun h=>absurd hz (Nat.not_le.mpr (Nat.lt_trans (by decide) h))) (by show ¬decide (_>sizeLine)=true;rw [decide_eq_true_eq];exact Nat.not_lt.mpr hz))
    ⟨ho,?_⟩⟩)
 refine R.push (t:=s.toks) (x:= .lst (if k=0 then [] else l)) ⟨_,⟨0,Heap.get?_push_size _ rfl⟩,?_,?_⟩ q
 ·rcases hk with rfl|rfl
  ·cases xs.isEmpty<;>rfl
  ·cases hx:xs.isEmpty with
   |false=>simp [e1]
   |true=>rw [←e1];simp [Array.isEmpty_iff.mp hx]
 ·rcases hk with rfl|rfl
  ·exact Nat.zero_le _
  ·exact e2
theorem o_bin{op:Op}{v w:Value}(R:Hp c B H s)(h:binW H op (av v) (av w) Q):wpAny (model c.prog c.w) A (binaryOp (opOf op) v w) (PH c B Q) E s:=by
 unfold binW at h
 cases hv:(av v).i? with
 |some a=>
  rw [hv] at h
  obtain ⟨b,hw,h⟩:=zh h
  obtain ⟨r,q,h⟩:=zh h
  obtain ⟨t,e⟩:=vq (V.i_eq hv)
  obtain ⟨u,e'⟩:=vq (V.i_eq hw)
  rw [e,e']
  exact o_int R q h
 |none=>
  rw [hv] at h
  cases op with
  |add=>
   obtain ⟨a,h1,h⟩:=zh (show addR H (av v) (av w) Q from h)
   obtain ⟨b,h2,h⟩:=zh h
   obtain ⟨o,ha,h⟩:=zh h
   obtain ⟨o',hb,h⟩:=zh h
   rw [vm (V.r_eq h1),vm (V.r_eq h2)]
   cases o with
   |lst l=>
    obtain ⟨r,q,h⟩:=zh h
    rw [O.l_eq q] at hb
    obtain ⟨xs,⟨n,p⟩,e1,e2⟩:=R.real _ _ ha
    obtain ⟨ys,⟨n',p'⟩,e1',e2'⟩:=R.real _ _ hb
    have s1:=map_av e1
    have s2:=map_av e1'
    refine PySem.P.add_list p p' (R.push (t:=s.toks) (x:= .lst (l++r)) ⟨xs++ys,⟨0,Heap.get?_push_size _ rfl⟩,?_,by rw [List.length_append];exact h.1⟩ h.2) (wx (by lia))
    rw [Array.toList_append,List.map_append,e1,e1']
   |tup l=>
    obtain ⟨r,q,h⟩:=zh h
    rw [O.t_eq q] at hb
    exact o_addT R ha hb h.1 h.2
   |_=>exact h.elim
  |mul=>
   obtain ⟨a,h1,h⟩:=zh (show mulR H (av v) (av w) Q from h)
   obtain ⟨k,h2,h⟩:=zh h
   obtain ⟨o,ha,h⟩:=zh h
   obtain ⟨l,q,h⟩:=zh h
   rw [O.l_eq q] at ha
   obtain ⟨u,e'⟩:=vq (V.i_eq h2)
   rw [vm (V.r_eq h1),e']
   exact o_mulL R ha h.1 h.2
  |_=>exact h.elim
theorem clip_of{n i:Nat}{j:Int}(h:clip n j=some i):(clipAt n) j=i∧i≤n:=by
 obtain ⟨h0,rfl⟩:=gdP_eq h
 obtain ⟨k,rfl⟩:=Int.eq_ofNat_of_zero_le h0
 exact ⟨by simp [clipAt_nat],Nat.min_le_right ..⟩
theorem isPart_of{v:Value}{n i:Nat}(h:clampLo n (av v)=some i):∃k,IsPart v k∧k.elim 0 (clipAt n)=i:=by
 cases e:av v with
 |none=>rw [e] at h;cases h;rw [av_none e];exact ⟨none,.none,rfl⟩
 |int j=>rw [e] at h;obtain ⟨t,rfl⟩:=vq e;exact ⟨some j,.int _ _,(clip_of h).1⟩
 |_=>rw [e] at h;exact nsm h
theorem isPart_of'{v:Value}{n i:Nat}(h:clampHi n (av v)=some i):∃k,An3 (IsPart v k) (k.elim n (clipAt n)=i) (i≤n):=by
 cases e:av v with
 |none=>rw [e] at h;cases h;rw [av_none e];exact ⟨none,.none,rfl,Nat.le_refl _⟩
 |int j=>rw [e] at h;obtain ⟨t,rfl⟩:=vq e;exact ⟨some j,.int _ _,(clip_of h).1,(clip_of h).2⟩
 |_=>rw [e] at h;exact nsm h
theorem drop_take_swap{α:Type}(l:List α)(i j:Nat):(l.drop i).take (j-i)=(l.take j).drop i:=by
 rw [List.drop_take]
theorem o_slice{a sl:Addr}{vl vh:Value}{xs:List V}{i j:Nat}(R:Hp c B H s)(e:H.see a=some (.lst xs))(hs:s.heap.IsSliceOf sl vl vh .none)
  (h1:clampLo xs.length (av vl)=some i) (h2:clampHi xs.length (av vh)=some j) (q:∀x,H x=none→Q (.ref x) (H.set x (.lst ((xs.take j).drop i)))):
  wpAny (model c.prog c.w) A (getItem (.ref a) (.ref sl)) (PH c B Q) E s:=by
 refine nn fun hC=>?_
 obtain ⟨ys,p,e1,e2⟩:=R.see e
 refine hC ?_
 have s1:=map_av e1
 rw [←s1] at h1 h2
 refine nn fun hC=>?_
 obtain ⟨k1,p1,r1⟩:=isPart_of h1
 obtain ⟨k2,p2,r2,r3⟩:=isPart_of' h2
 refine hC ?_
 refine wpAny_getItem_list_slice (plainL p) hs p1 p2 .none (by simp) (R.push (t:=s.toks) (x:= .lst ((xs.take j).drop i)) ⟨_,⟨0,Heap.get?_push_size _ rfl⟩,?_,?_⟩ q) (wx (by lia))
 ·rw [slicePick_plain,r1,r2]
  show List.map av (((ys.toList.drop i).take (j-i)))=_
  rw [drop_take_swap,List.map_drop,List.map_take,e1]
 ·rw [List.length_drop,List.length_take];exact Nat.le_trans (Nat.sub_le ..) (Nat.le_trans (Nat.min_le_right ..) (by assumption))
theorem o_rev{a sl:Addr}{vk:Value}{xs:List V}(R:Hp c B H s)(e:H.see a=some (.lst xs))(hs:s.heap.IsSliceOf sl .none .none vk)(hk:∃t,vk= .int (-1) t)
  (q:∀x,H x=none→Q (.ref x) (H.set x (.lst xs.reverse))):
  wpAny (model c.prog c.w) A (getItem (.ref a) (.ref sl)) (PH c B Q) E s:=by
 refine nn fun hC=>?_
 obtain ⟨ys,p,e1,e2⟩:=R.see e
 refine hC ?_
 have s1:=map_av e1
 obtain ⟨t,rfl⟩:=hk
 refine wpAny_getItem_list_slice (st:=some (-1)) (plainL p) hs .none .none (.int _ _) (by decide) (R.push (t:=s.toks) (x:= .lst xs.reverse) ⟨_,⟨0,Heap.get?_push_size _ rfl⟩,?_,?_⟩ q) (wx (by lia))
 ·rw [krv_pick]
  show List.map av ys.toList.reverse=_
  rw [List.map_reverse,e1]
 ·rw [List.length_reverse];exact e2
end
section
variable{c:Cx}{B:Bs}{H:AH}{s:Shared}{A:Around}{E:Value→Shared→Prop}{Q:V→AH→Prop}
theorem o_abs{i:Int}{t:Tok}(R:Hp c B H s)(q:Q (.int i.natAbs) H):wpAny (model c.prog c.w) A (call (.builtin "abs") [.int i t]) (PH c B Q) E s:=by
 refine call_abs_int fun u tk=>⟨H,R.tok,?_⟩
 have:(if i<0 then-i else i)=(i.natAbs:Int):=by split<;>lia
 rw [this];exact q
theorem o_len(G:Gd c){a:Addr}(R:Hp c B H s)(h:biW .len [.ref a] H Q):wpAny (model c.prog c.w) A (call (.builtin "len") [.ref a]) (PH c B Q) E s:=by
 refine nn fun hC=>?_
 obtain ⟨o,e,h⟩:=zh (show ifS (H.see a) _ from h)
 obtain ⟨n,e3,h⟩:=zh h
 refine hC ?_
 cases o<;>cases e3
 ·obtain ⟨xs,p,e1,e2⟩:=R.see e
  have hs:=map_av e1
  have:=sz63 e2
  exact len_list (plainL p) (by lia) ⟨H,R.tok,by rw [hs];exact h⟩
 ·obtain ⟨xs,n,p,e1,e2⟩:=R.see e
  have hs:=map_av e1
  have:=sz63 e2
  exact len_tuple (tupI p) (by lia) ⟨H,R.tok,by rw [hs];exact h⟩
 ·obtain ⟨kvs,p,e1,e2⟩:=R.see e
  have hs:=dct_len (a:=a) e1
  have:=sz63 e2
  refine Calls.call_function_entry kind_len plain_len entry_len (args_len1 _) (wpAny_len_body_dict (R.noMods G e) p (by lia) ⟨H,R.tok,?_⟩)
  rw [hs];exact h
theorem o_toList{v:Value}{l:List V}(R:Hp c B H s)(hl:seqOf H (av v)=some l)(q:∀x,H x=none→Q (.ref x) (H.set x (.lst l))):
  wpAny (model c.prog c.w) A (call (.type "list") [v]) (PH c B Q) E s:=by
 obtain ⟨a,hv,h2⟩:=zd hl
 obtain ⟨o,e,h3⟩:=zd h2
 clear hl h2
 rw [vm (V.r_eq hv)]
 clear hv
 cases o with
  |lst l'=>
   cases h3
   obtain ⟨xs,⟨n,p⟩,e1,e2⟩:=R.see e
   have hs:=map_av e1
   refine call_list_seq a (.inl rfl) p rfl rfl (fun h' c' hk hn=>⟨_,R.add (t:=s.toks) hk (freshA s) (x:= .lst l) ?_,q _ (R.fresh (freshA s))⟩) (wx (by lia))
   exact ⟨xs,⟨_,hn⟩,e1,e2⟩
  |tup l'=>
   cases h3
   obtain ⟨xs,n,p,e1,e2⟩:=R.see e
   have hs:=map_av e1
   refine call_list_seq a (.inr rfl) p rfl rfl (fun h' c' hk hn=>⟨_,R.add (t:=s.toks) hk (freshA s) (x:= .lst l) ?_,q _ (R.fresh (freshA s))⟩) (wx (by lia))
   exact ⟨xs,⟨_,hn⟩,e1,e2⟩
  |_=>exact nsm h3
theorem o_toTuple{a:Addr}{l:List V}(R:Hp c B H s)(e:H.see a=some (.lst l))(q:∀x,H x=none→Q (.ref x) (H.set x (.tup l))):
  wpAny (model c.prog c.w) A (call (.type "tuple") [.ref a]) (PH c B Q) E s:=by
 refine nn fun hC=>?_
 obtain ⟨xs,p,e1,e2⟩:=R.see e
 refine hC ?_
 have hs:=map_av e1
 refine call_tuple_list (plainL p) (fun h' hk=>?_) (wx (by lia))
 have hn:s.heap.get? h'.objs.size=none:=by
  cases q:s.heap.get? h'.objs.size with
  |none=>rfl
  |some o=>exact absurd (Heap.lt_size (hk _ _ q)) (Nat.lt_irrefl _)
 refine ⟨_,R.add (t:=s.toks) (fun b o e=>Heap.get?_push_of_some _ (hk b o e)) hn (x:= .tup l) ⟨xs,0,Heap.get?_push_size _ rfl,e1,e2⟩,q _ (R.fresh hn)⟩
theorem o_toInt{i:Int}{t:Tok}(R:Hp c B H s)(q:Q (.int i) H):wpAny (model c.prog c.w) A (call (.type "int") [.int i t]) (PH c B Q) E s:=call_int_int ⟨H,R,q⟩
theorem o_toIntB{b:Bool}(R:Hp c B H s)(q:Q (.int (if b then 1 else 0)) H):wpAny (model c.prog c.w) A (call (.type "int") [.bool b]) (PH c B Q) E s:=call_int_bool ⟨H,R.tok,q⟩
theorem o_isBool{b:Bool}(R:Hp c B H s)(q:Q (.bool true) H):wpAny (model c.prog c.w) A (call (.builtin "isinstance") [.bool b,.type "bool"]) (PH c B Q) E s:=
 call_isinstance_yes (Tx:="bool") rfl (by show typeOf _=_;with_unfolding_all rfl) (by rw [isSubtype_type];kernel_rfl) ⟨H,R,q⟩
theorem eqb_int{a b:Int}{t u:Tok}{Q:Bool→Shared→Prop}(h:Q (a==b) s):wpAny (model c.prog c.w) A (eqBool (.int a t) (.int b u)) Q E s:=wpAny_eqBool_int (by
 first|exact h|(rw [←Bool.beq_eq_decide_eq];exact h)|simpa using h)
theorem two_of{xs:List Value}{p q:Int}(h:xs.map av=[.int p,.int q]):∃t u,xs=[.int p t,.int q u]:=by
 cases xs with
 |nil=>simp at h
 |cons x r=>cases r with
  |nil=>simp at h
  |cons y r=>cases r with
   |nil=>
    simp only [List.map_cons,List.map_nil,List.cons.injEq,and_true] at h
    obtain ⟨t,rfl⟩:=vq h.1
    obtain ⟨u,rfl⟩:=vq h.2
    exact ⟨t,u,rfl⟩
   |cons z r=>simp at h
theorem gt_tup{a b:Addr}{p q' r s':Int}{t1 t2 t3 t4:Tok}{n n':Nat}(P:s.heap.get? a=some (seqObj "tuple" (List.toArray [.int p t1,.int q' t2]) n))(P':s.heap.get? b=some (seqObj "tuple" (List.toArray [.int r t3,.int s' t4]) n'))(hu:A.units+80<cLine)
  {k:Value→Shared→Prop} (q:k (.bool (decide (r<p∨(p=r∧s'<q')))) s):wpAny (model c.prog c.w) A (compareOp .Gt (.ref a) (.ref b)) k E s:=by
 show wpAny _ _ (richCompare .Gt (.ref a) (.ref b)) _ _ _
 refine wpAny_richCompare_same_room (op:= .Gt) (T:="tuple") ⟨_,P,rfl⟩ ⟨_,P',rfl⟩ PySem.F.slot_tuple_gt
  (wpAny_call_entry PySem.F.slot_tuple_gt ⟨_,P,rfl⟩ PySem.F.entry_tuple_gt ?_ (PySem.F.args_tuple_gt_2 _ _)) (by lia)
 show wpAny _ _ (isInstance (.ref b) (.type "tuple")>>=_) _ _ s
 refine wpAny_bind (wpAny_isInstance ⟨_,P',rfl⟩ isSubtype_tuple_tuple ?_)
 simp only [Bool.not_true,Bool.false_eq_true,if_false]
 refine wpAny_bind (wpAny_tupleItemsOf P rfl ?_)
 refine wpAny_bind (wpAny_tupleItemsOf P' rfl ?_)
 simp only [List.zip_cons_cons,List.zip_nil_right,List.forIn_cons,List.forIn_nil]
 refine wpAny_bind (wpAny_bind (wpAny_bind (eqb_int ?_)))
 by_cases k1:p=r
 ·subst k1
  simp only [beq_self_eq_true,Bool.not_true,Bool.false_eq_true,if_false]
  refine wpAny_pure ?_
  refine wpAny_bind (wpAny_bind (eqb_int ?_))
  by_cases k2:q'=s'
  ·subst k2
   simp only [beq_self_eq_true,Bool.not_true,Bool.false_eq_true,if_false]
   refine wpAny_pure (wpAny_pure (wpAny_pure ?_))
   refine ⟨_,rfl,by simp [Builtin.Tuple.tupleCompareSizes],?_⟩
   simpa [Builtin.Tuple.tupleCompareSizes] using q
  ·have:(q'==s')=false:=by simpa using k2
   rw [this]
   simp only [Bool.not_false,if_true]
   refine wpAny_bind (wpAny_rule (wpAny_bind (gt_int ?_)))
   refine wpAny_bind (wpAny_pure (wpAny_pure (wpAny_pure (wpAny_pure ?_))))
   refine ⟨_,rfl,by simp,?_⟩
   simpa using q
 ·have:(p==r)=false:=by simpa using k1
  rw [this]
  simp only [Bool.not_false,if_true]
  refine wpAny_bind (wpAny_rule (wpAny_bind (gt_int ?_)))
  refine wpAny_bind (wpAny_pure (wpAny_pure (wpAny_pure ?_)))
  refine wpAny_pure ?_
  refine ⟨_,rfl,by simp,?_⟩
  simpa [k1] using q
theorem p_see{a:Addr}{p q':Int}(R:Hp c B H s)(e:H.see a=some (.tup [.int p,.int q'])):Ex3 fun (t1 t2:Tok) (n:Nat)=>s.heap.get? a=some (seqObj "tuple" (List.toArray [.int p t1,.int q' t2]) n):=by
 obtain ⟨xs,n,P,e1,e2⟩:=R.see e
 obtain ⟨xs⟩:=xs
 obtain ⟨t1,t2,rfl⟩:=two_of e1
 exact ⟨t1,t2,n,P⟩
theorem o_gt{v w:Value}{b:Bool}(R:Hp c B H s)(hu:A.units+80<cLine)(h:gtV H (av v) (av w)=some b)(q:Q (.bool b) H):wpAny (model c.prog c.w) A (compareOp .Gt v w) (PH c B Q) E s:=by
 unfold gtV at h
 cases hv:(av v).i? with
 |some a=>
  rw [hv] at h
  obtain ⟨b',hw,rfl⟩:=wj h
  obtain ⟨t,rfl⟩:=vq (V.i_eq hv)
  obtain ⟨u,rfl⟩:=vq (V.i_eq hw)
  exact gt_int ⟨H,R,q⟩
 |none=>
  rw [hv] at h
  clear hv
  obtain ⟨a,h1,h⟩:=zd h
  obtain ⟨a',h2,h⟩:=zd h
  obtain ⟨o,h3,h⟩:=zd h
  obtain ⟨o',h4,h⟩:=zd h
  obtain ⟨p,h5,h⟩:=zd h
  obtain ⟨p',h6,h⟩:=zd h
  obtain ⟨i1,k1,h⟩:=zd h
  obtain ⟨i2,k2,h⟩:=zd h
  obtain ⟨i3,k3,h⟩:=zd h
  obtain ⟨i4,k4,h⟩:=wj h
  rw [O.p_eq h5,V.i_eq k1,V.i_eq k2] at h3
  rw [O.p_eq h6,V.i_eq k3,V.i_eq k4] at h4
  obtain ⟨t1,t2,n,P⟩:=p_see R h3
  obtain ⟨t3,t4,n',P'⟩:=p_see R h4
  rw [vm (V.r_eq h1),vm (V.r_eq h2)]
  refine gt_tup P P' hu ⟨H,R,?_⟩
  rw [←h] at q
  exact q
end
noncomputable def attrChk(K:Frag)(C:Addr):Bool:=
 hasDictIn K C&&plainOver K C&&(findIn K (.ref C) "__setattr__"==some (some (.builtin "object.__setattr__")))&&
 nmT.all fun f=>plainGet K C f&&(findIn K (.ref C) f==some none)&&(takerIn K C f==some none)
theorem nmOf_mem{f:Str}{k:Nat}(h:nmOf f=some k):f∈nmT:=by
 unfold nmOf List.idxOf? at h
 rw [List.findIdx?_eq_some_iff_getElem] at h
 obtain ⟨a,b,_⟩:=h
 rw [←beq_iff_eq.mp b]
 exact List.getElem_mem a
section
variable{c:Cx}{B:Bs}{H:AH}{s:Shared}{A:Around}{E:Value→Shared→Prop}{Q:V→AH→Prop}
theorem Hp.kin(G:Gd c)(R:Hp c B H s):c.K.In s.heap:=fun a o e=>R.h0 _ _ (G.kin a o e)
theorem dictOf_obj{K:Type} [DecidableEq K]{prog:Program}{w:World}{knd:KeyKind prog w K}{h:Heap}{a:Addr}{kvs:List (K×Value)}(p:h.DictOf knd a kvs):
  Ex2 fun es n=>An4 (h.get? a=some (dictOf es n)) (KeysOf knd es.toArray) (Pairs knd es kvs) ((kvs.map (·.1)).Nodup):=by
 refine nn fun hC=>?_
 obtain ⟨o,es,ep,ho,⟨h1,h2,h3⟩,hd,hk,hp,hn⟩:=p
 obtain ⟨oc,od,oda,osl⟩:=o
 refine hC ?_
 dsimp only at h1 h2 h3 hd
 subst h1 h2 h3 hd
 exact ⟨es.toList,ep,by simpa [dictOf] using ho,by simpa using hk,hp,hn⟩
theorem getL_of{prog:Program}{w:World}{es:List DictEntry}{kvs:List (Str×Value)}(hk:KeysOf (strKind prog w) es.toArray)(hp:Pairs (strKind prog w) es kvs)(f:Str):
  getL f es=some (valueAt kvs f):=by
 have e:(fun x:DictEntry=>x.key.isStr f)=fun x=>(strKind prog w).is f x.key:=funext fun x=>isStr_of f x.key
 have hf:=hp.find f
 unfold getL
 rw [e]
 cases q:es.find? fun x=>(strKind prog w).is f x.key with
 |some y=>rw [q] at hf;rw [←hf];rfl
 |none=>
  rw [q] at hf
  rw [←hf]
  dsimp only
  rw [if_neg]
  ·rfl
  ·intro z
   obtain ⟨y,hy,hr⟩:=List.any_eq_true.mp z
   obtain ⟨k,h1,_⟩:=hk y (by simpa using hy)
   obtain ⟨t,h2⟩:=Value.isStrOf_shape h1
   simp [DictEntry.refKey,h2] at hr
theorem handed_av{v:Value}(h:av v≠ .un):handedIn v=true:=by
 induction v<;>first|rfl|(exact absurd rfl h)
theorem inst_at{a d:Addr}{es:List (Nat×V)}(R:Hp c B H s)(ha:H a=some (.inst d))(hd:H d=some (.att es)):
  Ex3 fun l n kvs=>An7 (InstAt s.heap a (instObj c.C d) c.C (some (dictOf l n))) (s.heap.get? d=some (dictOf l n)) (KeysOf (strKind c.prog c.w) l.toArray) (Pairs (strKind c.prog c.w) l kvs) ((kvs.map (·.1)).Nodup) (kvs.map (fun e=>(nmOf e.1,av e.2))=es.map (fun e=>(some e.1,e.2))) (es.length≤900):=by
 have hi:s.heap.get? a=some (instObj c.C d):=R.real _ _ ha
 refine nn fun hC=>?_
 obtain ⟨kvs,p,e1,e2⟩:=R.real _ _ hd
 obtain ⟨l,n,ho,hk,hp,hn⟩:=dictOf_obj p
 refine hC ?_
 exact ⟨l,n,kvs,⟨hi,rfl,rfl,ho⟩,ho,hk,hp,hn,e1,e2⟩
theorem o_attr(G:Gd c)(hK:attrChk c.K c.C=true){v:Value}{f:Str}{k:Nat}{x:V}{ex:Bool}(R:Hp c B H s)(hf:nmOf f=some k)(h:attrV H (av v) k=some x)(q:Q x H):
  wpAny (model c.prog c.w) A (getAttr v f ex) (PH c B Q) E s:=by
 unfold attrChk at hK
 simp only [Bool.and_eq_true,List.all_eq_true] at hK
 refine nn fun hC=>?_
 obtain ⟨⟨⟨k1,k2⟩,k3⟩,k4⟩:=hK
 obtain ⟨⟨k5,k6⟩,k7⟩:=k4 f (nmOf_mem hf)
 refine hC ?_
 obtain ⟨p,h1,h⟩:=zd h
 obtain ⟨u,h2,h⟩:=zd h
 obtain ⟨a,hv,ha,hd⟩:=insV_eq h1
 obtain ⟨rfl,hne⟩:=nun_eq h
 rw [vm hv]
 refine nn fun hC=>?_
 obtain ⟨l,n,kvs,I,ho,hk,hp,hn,e1,e2⟩:=inst_at R ha hd
 rw [att_get e1 hf] at h2
 obtain ⟨y,h3,rfl⟩:=wj h2
 refine hC ?_
 exact get_value (R.kin G) I (plainGet_of k5).1 (findObj_own k1 (beq_iff_eq.mp k6) (by rfl) (show lookIn f (dictOf l n)=some (some y) by rw [lookIn_dict,getL_of hk hp,h3])) (handed_av hne) ⟨H,R.tok,q⟩
theorem putL_stored{prog:Program}{w:World}{l:List DictEntry}{kvs:List (Str×Value)}{f:Str}{v:Value}{t:Tok}(hk:KeysOf (strKind prog w) l.toArray)(hp:Pairs (strKind prog w) l kvs)(hn:(kvs.map (·.1)).Nodup):
  KeysOf (strKind prog w) (putL f (PyData.keyHash w.params f) (.str f t) v l).toArray∧Pairs (strKind prog w) (putL f (PyData.keyHash w.params f) (.str f t) v l) (stored kvs f v)∧((stored kvs f v).map (·.1)).Nodup:=by
 have hkey:=strKind_is prog w f t
 have hidx:=hp.findIdx f
 have e:(fun x:DictEntry=>x.key.isStr f)=fun x=>(strKind prog w).is f x.key:=funext fun x=>isStr_of f x.key
 rw [←putL_find,e]
 cases hi:l.findIdx? fun x=>(strKind prog w).is f x.key with
 |some i=>
  rw [hidx] at hi
  dsimp only
  rw [stored,if_pos (any_of_findIdx_some hi)]
  refine ⟨?_,hp.modify hn (hidx.trans hi) v,by rw [keys_map_store];exact hn⟩
  have:=hk.modify i v
  simpa using this
 |none=>
  rw [hidx] at hi
  have hnot:f∉kvs.map (·.1):=not_mem_of_findIdx_none hi
  have hany:¬(kvs.any fun kv=>decide (kv.1=f))=true:=by
   rw [List.any_eq_true];rintro ⟨kv,hkv,he⟩
   exact hnot (List.mem_map.mpr ⟨kv,hkv,of_decide_eq_true he⟩)
  dsimp only
  rw [stored,if_neg hany]
  refine ⟨?_,hp.append hkey _ v,?_⟩
  ·have:=hk.push hkey v
   rw [List.push_toArray] at this
   exact this
  ·rw [List.map_append,List.nodup_append]
   refine ⟨hn,by simp,?_⟩
   intro a ha b hb
   simp only [List.map_cons,List.map_nil,List.mem_singleton] at hb
   subst hb
   exact fun e=>hnot (e▸ha)
theorem o_setA_code(G:Gd c)(hK:attrChk c.K c.C=true){v:Value}{f:Str}{k:Nat}{a d:Addr}{es:List (Nat×V)}{tk:Tok}{RR:Result→Shared→Prop}(R:Hp c B H s)(hf:nmOf f=some k)(ha:H a=some (.inst d))
  (hd:H d=some (.att es)) (hl:es.length<900) (q:∀s',Hp c B (H.set d (.att (put es k (av v)))) s'→RR (.ok (.ret .none)) s'):
  codeAny (model c.prog c.w) A (.call (.builtin "object.__setattr__") ⟨[.ref a,.str f tk,v],[]⟩) RR s:=by
 unfold attrChk at hK
 simp only [Bool.and_eq_true,List.all_eq_true] at hK
 refine nn fun hC=>?_
 obtain ⟨⟨⟨k1,k2⟩,k3⟩,k4⟩:=hK
 obtain ⟨⟨k5,k6⟩,k7⟩:=k4 f (nmOf_mem hf)
 obtain ⟨l,n,kvs,I,ho,hk,hp,hn,e1,e2⟩:=inst_at R ha hd
 refine hC ?_
 have X:=R.kin G
 refine osa_open X I k2 (beq_iff_eq.mp k7) fun b=>?_
 obtain ⟨cd,hc,hd'⟩:=any_some k1
 have hi:s.heap.get? a=some (instObj c.C d):=R.real _ _ ha
 refine wpAny_bind (wpAny_pure (wpAny_bind (wpAny_bind (wpAny_loadPart hi (wpAny_bind ((looks_clsIn X hc).here ?_))))))
 rw [hd']
 refine wpAny_pure (a:=some d) (wpAny_bind (wpAny_pure (wpAny_bind ?_)))
 unfold nsSet
 refine wpAny_bind (wpAny_bind (wpAny_askSetting (wpAny_pure (wpAny_bind (wpAny_mkText (wpAny_bind (wpAny_loadPart ho ?_)))))))
 dsimp only
 have cc:(!l.toArray.any (·.key.isStr f)&&l.toArray.any (·.refKey))=false:=by
  have:l.any (·.refKey)=false:=by
   rw [List.any_eq_false]
   intro y hy
   obtain ⟨k,h1,_⟩:=hk y (by simpa using hy)
   obtain ⟨t,h2⟩:=Value.isStrOf_shape h1
   simp [DictEntry.refKey,h2]
  simp [this]
 rw [aRefKeyMayBeTheName_at,cc]
 have len:=hp.length
 have len2:=att_len e1
 obtain ⟨p1,p2,p3⟩:=putL_stored (v:=v) (f:=f) (t:=s.toks) hk hp hn
 have len3:=p2.length
 have len4:=stored_length_le kvs f v
 have he:=putName_dict f (PyData.keyHash c.w.params f) (.str f s.toks) v l n
 have g:(s.heap.update d (Obj.putName f (PyData.keyHash c.w.params f) (.str f s.toks) v)).get? d=some (dictOf (putL f (PyData.keyHash c.w.params f) (.str f s.toks) v l) (putN f l n)):=by
  rw [←he];exact Heap.get?_update_self _ ho (by rw [he];rfl)
 refine wpAny_updatePart ho ?_
 refine wpAny_bind (wpAny_lookBehind g (pastItsLine_dict (by rw [List.size_toArray,sizeLine_eq];lia)) ?_)
 refine wpAny_pure (q _ (R.upd hd (Heap.SameBut.update ..) ?_))
 refine ⟨stored kvs f v,⟨_,_,_,g,⟨rfl,rfl,rfl⟩,rfl,p1,by simpa using p2,p3⟩,att_put e1 hf v,?_⟩
 have:=put_length es k (av v)
 exact Nat.le_trans ‹_› ‹_›
theorem o_setA(G:Gd c)(hK:attrChk c.K c.C=true){v:Value}{f:Str}{k:Nat}{a d:Addr}{es:List (Nat×V)}{P:AH→Prop}(R:Hp c B H s)(hf:nmOf f=some k)(ha:H a=some (.inst d))
  (hd:H d=some (.att es)) (hl:es.length<900) (q:P (H.set d (.att (put es k (av v))))):
  wpAny (model c.prog c.w) A (setAttr (.ref a) f v) (fun _ s'=>∃H',Hp c B H' s'∧P H') E s:=by
 have hK':=hK
 unfold attrChk at hK
 simp only [Bool.and_eq_true,List.all_eq_true] at hK
 refine nn fun hC=>?_
 obtain ⟨l,n,kvs,I,ho,hk,hp,hn,e1,e2⟩:=inst_at R ha hd
 refine hC ?_
 exact set_plain (R.kin G) I (beq_iff_eq.mp hK.1.2) (o_setA_code G hK' R.tok hf ha hd hl fun s' R'=>⟨_,R',q⟩)
noncomputable def methChk(K:Frag)(C:Addr)(f:Str)(a:Addr):Bool:=
 plainGet K C f&&(findIn K (.ref C) f==some (some (.ref a)))&&isFn K (.ref a)&&(nmOf f).isNone
theorem o_meth(G:Gd c){f:Str}{a d g:Addr}{pl:Sem Bool}{es:List (Nat×V)}{P:Value×List Value→Shared→Prop}(hM:methChk c.K c.C f g=true)(R:Hp c B H s)(ha:H a=some (.inst d))(hd:H d=some (.att es))
  (q:P (.ref g,[.ref a]) s):wpAny (model c.prog c.w) A (getMethod (.ref a) f pl) P E s:=by
 unfold methChk at hM
 simp only [Bool.and_eq_true] at hM
 refine nn fun hC=>?_
 obtain ⟨⟨⟨k1,k2⟩,k3⟩,k4⟩:=hM
 obtain ⟨l,n,kvs,I,ho,hk,hp,hn,e1,e2⟩:=inst_at R ha hd
 refine hC ?_
 refine method_fn (R.kin G) I (plainGet_of k1).1 (plainGet_of k1).2 (beq_iff_eq.mp k2) (beq_iff_eq.mp k3) ?_ q
 show (lookIn f (dictOf l n)).map _=_
 rw [lookIn_dict,getL_of hk hp]
 have:valueAt kvs f=none:=by
  generalize hv:valueAt kvs f=zq;induction zq with
  |none=>rfl
  |some y=>
   exfalso
   have hm:f∈kvs.map (·.1):=by
    unfold valueAt at hv
    obtain ⟨x,hx,_⟩:=Option.map_eq_some_iff.mp hv
    exact List.mem_map.mpr ⟨x,List.mem_of_find?_eq_some hx,by simpa using List.find?_some hx⟩
   obtain ⟨x,hx,rfl⟩:=List.mem_map.mp hm
   have:(nmOf x.1,av x.2)∈es.map (fun e=>(some e.1,e.2)):=e1▸List.mem_map.mpr ⟨x,hx,rfl⟩
   obtain ⟨y,_,hy⟩:=List.mem_map.mp this
   have:=congrArg Prod.fst hy
   simp only at this
   rw [←this] at k4;cases k4
 rw [this];rfl
end
end Mine
end
section
open PySem PySem.W PyProof.Rows
set_option tactic.hygienic false
namespace Mine
theorem zip_lookup:∀{ns:List Str} {vs:List Value},ns.Nodup→vs.length=ns.length→(ns.filterMap fun n=>((ns.zip vs).lookup n).map (n,·))=ns.zip vs:=by
 have key:∀(ns:List Str) (vs:List Value) (l:List (Str×Value)),ns.Nodup→vs.length=ns.length→(∀n v,(n,v)∈ns.zip vs→l.lookup n=some v)→
   (ns.filterMap fun n=>(l.lookup n).map (n,·))=ns.zip vs:=by
  intro ns
  induction ns with
  |nil=>intro vs l _ _ _;rfl
  |cons n ns ih=>
   intro vs l hn hl h
   induction vs with
   |nil=>simp at hl
   |cons v vs=>
    rw [List.nodup_cons] at hn
    rw [List.filterMap_cons,h n v (by simp)]
    simp only [Option.map_some,List.zip_cons_cons]
    rw [ih vs l hn.2 (by simpa using hl) fun n' v' hm=>h n' v' (by simp [hm])]
 intro ns vs hn hl
 refine key ns vs _ hn hl ?_
 clear key
 induction ns generalizing vs with
 |nil=>intro n v h;simp at h
 |cons n ns ih=>
  intro n' v' h
  induction vs with
  |nil=>simp at hl
  |cons v vs=>
   rw [List.nodup_cons] at hn
   simp only [List.zip_cons_cons,List.mem_cons,Prod.mk.injEq] at h
   rw [List.zip_cons_cons,List.lookup_cons]
   rcases h with ⟨rfl,rfl⟩|h
   ·simp
   ·have hm:n'∈ns:=(List.of_mem_zip h).1
    have:(n'==n)=false:=beq_eq_false_iff_ne.mpr fun e=>hn.1 (e▸hm)
    rw [this]
    exact ih hn.2 (by simpa using hl) n' v' h
theorem ifP{α:Type}{c:Prop} [Decidable c]{x y z:α}(h:¬c)(h':y=z):(if c then x else y)=z:=(if_neg h).trans h'
theorem forP{α β γ:Type}{l:List α}{b:β}{f:α→β→Sem (ForInStep β)}{k:β→Sem γ}{z:Sem γ}(h:l=[])(h':k b=z):(forIn l b f>>=k)=z:=by rw [h];exact h'
theorem zip_look:∀{ns:List Str} {vs:List Value},vs.length=ns.length→∀n∈ns,((ns.zip vs).lookup n).isNone=false
 |n::ns,v::vs,hl,n',h=>by
  rw [List.zip_cons_cons,List.lookup_cons]
  by_cases e:n'=n
  ·rw [e,beq_self_eq_true];rfl
  ·rw [beq_eq_false_iff_ne.mpr e]
   exact zip_look (Nat.succ.inj hl) n' ((List.mem_cons.mp h).resolve_left e)
theorem bind_plain{fd:FuncData}{ps:List Arg}{vals:List Value}(h:fd.params=⟨[],ps,none,[],[],none,[]⟩)(hd:fd.defaults= .none)(hk:fd.kwdefaults= .none)
  (hn:(ps.map (·.arg)).Nodup) (hl:vals.length=ps.length):bindArgs fd ⟨vals,[]⟩=pure ((ps.map (·.arg)).zip vals):=by
 have hl':vals.length=(ps.map (·.arg)).length:=by rw [List.length_map];exact hl
 obtain ⟨f1,f2,f3,f4,f5,f6,f7,f8,f9,f10,f11,f12,f13,f14,f15⟩:=fd
 dsimp only at h hd hk
 subst h hd hk
 refine ifP (α:=Sem (List (Str×Value))) (fun q=>?_) (ifP (α:=Sem (List (Str×Value))) (fun q=>?_) (forP (by show List.zip _ (List.drop _ [])=[];rw [List.drop_nil,List.zip_nil_right]) ?_))
 ·have q:(decide (vals.length>(ps.map (·.arg)).length)&&true)=true:=q
  rw [hl',decide_eq_false (Nat.lt_irrefl _)] at q;cases q
 ·have q:(!((((ps.map (·.arg)).take ((ps.map (·.arg)).length-(List.drop (0-(ps.map (·.arg)).length) ([]:List Value)).length)).filter fun n=>(((ps.map (·.arg)).zip vals).lookup n).isNone).isEmpty))=true:=q
  rw [List.drop_nil,List.length_nil,Nat.sub_zero,List.take_length,List.filter_eq_nil_iff.mpr fun n hm z=>by rw [zip_look hl' n hm] at z;cases z] at q
  cases q
 ·show pure ((ps.map (fun x:Arg=>x.arg)++[]).filterMap fun n=>(((ps.map (fun x:Arg=>x.arg)).zip vals).lookup n).map (n,·))=(pure _:Sem (List (Str×Value)))
  rw [List.append_nil,zip_lookup hn hl']
structure Fn where
 addr:Addr
 obj:Obj
 fd:FuncData
 body:List Stmt
 ps:List Arg
 code:S
noncomputable def zm(sc:Scope):Sl:=(sc.names.filter fun x=>x.2== .local||x.2== .cell).map fun x=>some x.1
noncomputable def vp(sc:Scope):List Str:=(sc.names.filter fun x=>x.2== .local||x.2== .cell).map fun x=>x.1
noncomputable def scopeChk(sc:Scope):Bool:=sc.kind== .function&&!sc.isGenerator&&!sc.isCoroutine&&decide (sc.names.map (·.1)).Nodup
noncomputable def fdChk(fd:FuncData)(ps:List Arg):Bool:=
 scopeChk fd.scope&&decide (ps.map (·.arg)).Nodup&&(fd.defaults== .none)&&(fd.kwdefaults== .none)&&(fd.globals==mainGlobals)&&(fd.builtins==builtinsNs)&&
 ((zm fd.scope).take ps.length==ps.map fun a=>some a.arg)
noncomputable def cloChk(K:Frag)(fd:FuncData):Bool:=
 (fd.closure.isEmpty&&fd.scope.names.all (fun x=>x.2 != .free))||
 (fd.scope.names.all (fun x=>x.2 != .cell&&(x.2 != .free||(fd.closure.lookup x.1).isSome))&&fd.closure.all (fun x=>(K.lookup x.2).isSome&&fd.scope.names.lookup x.1==some .free)&&decide (fd.closure.map (·.2)).Nodup)
structure FnOK(c:Cx)(f:Fn):Prop where
 look:c.K.lookup f.addr=some f.obj
 data:f.obj.data= .func f.fd
 body:f.fd.body= .stmts f.body
 params:f.fd.params=⟨[],f.ps,none,[],[],none,[]⟩
 code:codeIn c.K f.fd.code f.fd.qualname=true
 chk:fdChk f.fd f.ps=true
 clo:cloChk c.K f.fd=true
theorem bindL_other{ko:Str→Option NameKind}:∀{bs:List (Str×Value)} {m:Str→Option Value} {n:Str},n∉bs.map (·.1)→bindL ko bs m n=m n
 |[],m,n,_=>rfl
 |(k,v)::r,m,n,h=>by
  simp only [List.map_cons,List.mem_cons,not_or] at h
  unfold bindL
  rw [bindL_other h.2]
  split
  ·exact if_neg h.1
  ·rfl
theorem bindL_at{ko:Str→Option NameKind}:∀{bs:List (Str×Value)} {m:Str→Option Value} {n:Str} {v:Value},(bs.map (·.1)).Nodup→(n,v)∈bs→ko n=some .local→bindL ko bs m n=some v
 |(k,x)::r,m,n,v,hn,hm,hk=>by
  simp only [List.map_cons,List.nodup_cons] at hn
  unfold bindL
  rcases List.mem_cons.mp hm with e|hm
  ·cases e
   rw [bindL_other hn.1,if_pos hk];exact if_pos rfl
  ·exact bindL_at hn.2 hm hk
theorem bindC_other{ko:Str→Option NameKind}:∀{bs:List (Str×Value)} {m:Str→Option Value} {n:Str},n∉bs.map (·.1)→bindC ko bs m n=m n
 |[],m,n,_=>rfl
 |(k,v)::r,m,n,h=>by
  simp only [List.map_cons,List.mem_cons,not_or] at h
  unfold bindC
  rw [bindC_other h.2]
  split
  ·rfl
  ·exact if_neg h.1
theorem bindC_at{ko:Str→Option NameKind}:∀{bs:List (Str×Value)} {m:Str→Option Value} {n:Str} {v:Value},(bs.map (·.1)).Nodup→(n,v)∈bs→ko n≠some .local→bindC ko bs m n=some v
 |(k,x)::r,m,n,v,hn,hm,hk=>by
  simp only [List.map_cons,List.nodup_cons] at hn
  unfold bindC
  rcases List.mem_cons.mp hm with e|hm
  ·cases e
   rw [bindC_other hn.1,if_neg hk];exact if_pos rfl
  ·exact bindC_at hn.2 hm hk
theorem cellsFrom_keeps:∀{names:List (Str×NameKind)} {n:Nat} {acc:List (Str×Addr)} {x:Str},(acc.lookup x).isSome=true→((cellsFrom n names acc).lookup x).isSome=true
 |[],_,_,_,h=>h
 |(name,kind)::r,n,acc,x,h=>by
  unfold cellsFrom
  split
  ·refine cellsFrom_keeps ?_
   rw [List.lookup_cons]
   split
   ·rfl
   ·exact h
  ·exact cellsFrom_keeps h
theorem cellsFrom_has:∀{names:List (Str×NameKind)} {n:Nat} {acc:List (Str×Addr)} {x:Str},(x,NameKind.cell)∈names→((cellsFrom n names acc).lookup x).isSome=true
 |(name,kind)::r,n,acc,x,h=>by
  unfold cellsFrom
  rcases List.mem_cons.mp h with e|h
  ·cases e
   simp only [beq_self_eq_true,if_true]
   exact cellsFrom_keeps (by simp)
  ·split
   ·exact cellsFrom_has h
   ·exact cellsFrom_has h
theorem lookup_mem{α:Type}:∀{l:List (Str×α)} {n:Str} {c:α},l.lookup n=some c→(n,c)∈l:=mem_of_lookup
section
variable{c:Cx}{B:Bs}{H:AH}{s:Shared}{A:Around}{E:Value→Shared→Prop}{Q:V→AH→Prop}
noncomputable def m0(sc:Scope)(vals:List V):List V:=vals++List.replicate ((zm sc).length-vals.length) .un
theorem read_param{fd:FuncData}{ps:List Arg}(hc:fdChk fd ps=true){vals:List Value}(hl:vals.length=ps.length){i:Nat}{n:Str}{v:V}(h1:(zm fd.scope)[i]?=some (some n))
  (h2:(m0 fd.scope (vals.map av))[i]?=some v) (h3:v≠ .un):∃x,(n,x)∈(ps.map (·.arg)).zip vals∧av x=v:=by
 unfold fdChk at hc
 simp only [Bool.and_eq_true,beq_iff_eq] at hc
 have ht:=hc.2
 unfold m0 at h2
 rw [List.getElem?_append] at h2
 split at h2
 ·rename_i hi
  rw [List.length_map] at hi
  rw [List.getElem?_map] at h2
  obtain ⟨x,hx,rfl⟩:=Option.map_eq_some_iff.mp h2
  refine ⟨x,?_,rfl⟩
  have e:((zm fd.scope).take ps.length)[i]?=some (some n):=by rw [List.getElem?_take,if_pos (by lia)];exact h1
  rw [ht,List.getElem?_map] at e
  obtain ⟨a,ha,hn⟩:=Option.map_eq_some_iff.mp e
  have hz:((ps.map (·.arg)).zip vals)[i]?=some (n,x):=by
   rw [List.getElem?_zip_eq_some]
   exact ⟨by rw [List.getElem?_map,ha];simpa using hn,hx⟩
  exact List.mem_of_getElem? hz
 ·rename_i hi
  exfalso
  have:=List.mem_of_getElem? h2
  exact h3 (List.eq_of_mem_replicate this)
theorem own_of{sc:Scope}{n:Str}(h:n∈vp sc):∃k,(n,k)∈sc.names∧(k= .local∨k= .cell):=by
 unfold vp at h
 obtain ⟨x,hx,rfl⟩:=List.mem_map.mp h
 obtain ⟨h1,h2⟩:=List.mem_filter.mp hx
 simp only [Bool.or_eq_true,beq_iff_eq] at h2
 exact ⟨x.2,h1,h2⟩
theorem vz{α:Type}{l:List (Str×α)}(hn:(l.map (·.1)).Nodup){n:Str}{k:α}(h:(n,k)∈l):l.lookup n=some k:=by
 induction l with
 |nil=>cases h
 |cons x r ih=>
  obtain ⟨a,b⟩:=x
  simp only [List.map_cons,List.nodup_cons] at hn
  rw [List.lookup_cons]
  rcases List.mem_cons.mp h with e|h
  ·cases e;simp
  ·have:(n==a)=false:=beq_eq_false_iff_ne.mpr fun e=>hn.1 (e▸List.mem_map.mpr ⟨_,h,rfl⟩)
   rw [this]
   exact ih hn.2 h
noncomputable abbrev LvE(c:Cx)(A:Around)(env:Env)(RR:Result→Shared→Prop):Value→Shared→Prop:=fun e s'=>wpAny (model c.prog c.w) (A.deeper env) (leaving env e) (fun _ s''=>RR (.error e) s'') (fun e' s''=>RR (.error e') s'') s'
theorem code_fnG(G:Gd c){f:Fn}(F:FnOK c f)(hroom:A.depth<recursionLimit){vals:List Value}{RR:Result→Shared→Prop}(R:Hp c B H s)(hl:vals.length=f.ps.length)
  (h:(∀env' s₁,env'.scope=f.fd.scope→env'.frame=some env'.locals→Rep c (wz s.heap H) env' (vp f.fd.scope) (zm f.fd.scope) (m0 f.fd.scope (vals.map av)) H s₁→
   wpAny (model c.prog c.w) (A.deeper env') (execs f.body env') (fun fl s'=>RR (.ok (.ret (match fl with| .ret v=>v|_=> .none))) s') (LvE c A env' RR) s₁)∨
   (f.fd.closure.isEmpty=false∧∀s₁,Rep c (wz s.heap H) (callEnv f.fd s.heap.objs.size f.addr) (vp f.fd.scope) (zm f.fd.scope) (m0 f.fd.scope (vals.map av)) H s₁→
   _root_.PySem.wpAt (model c.prog c.w) (A.deeper (callEnv f.fd s.heap.objs.size f.addr)) (.func f.body (callEnv f.fd s.heap.objs.size f.addr)) (execs f.body (callEnv f.fd s.heap.objs.size f.addr)) (fun fl s'=>RR (.ok (.ret (match fl with| .ret v=>v|_=> .none))) s') (LvE c A (callEnv f.fd s.heap.objs.size f.addr) RR) s₁)):
  codeAny (model c.prog c.w) A (.call (.ref f.addr) ⟨vals,[]⟩) RR s:=by
 have X:=R.kin G
 have hc:=F.chk
 have hc':=hc
 unfold fdChk at hc'
 simp only [Bool.and_eq_true,beq_iff_eq,decide_eq_true_eq] at hc'
 refine nn fun hC=>?_
 obtain ⟨⟨⟨⟨⟨⟨c1,c2⟩,c3⟩,c4⟩,c5⟩,c6⟩,c7⟩:=hc'
 refine hC ?_
 unfold scopeChk at c1
 simp only [Bool.and_eq_true,beq_iff_eq,decide_eq_true_eq,Bool.not_eq_true'] at c1
 refine nn fun hC=>?_
 obtain ⟨⟨⟨d1,d2⟩,d3⟩,d4⟩:=c1
 refine hC ?_
 have hbind:=bind_plain F.params c3 c4 c2 hl
 have hkeys:((f.ps.map (·.arg)).zip vals).map (·.1)=f.ps.map (·.arg):=by
  rw [List.map_fst_zip];simp [hl]
 have hB:∀a,s.heap.get? a=none→wz s.heap H a=none∧H a=none:=fun a ha=>by
  have:=R.fresh ha
  exact ⟨by unfold wz;rw [this];exact ha,this⟩
 have hW:=R.whole
 have pslot:∀n∈f.ps.map (·.arg),n∈vp f.fd.scope:=fun n hn=>by
  have:(some n)∈(zm f.fd.scope).take f.ps.length:=by
   rw [c7];obtain ⟨a,ha,rfl⟩:=List.mem_map.mp hn;exact List.mem_map.mpr ⟨a,ha,rfl⟩
  have:=List.mem_of_mem_take this
  unfold zm at this
  obtain ⟨x,hx,e⟩:=List.mem_map.mp this
  unfold vp
  cases e
  exact List.mem_map.mpr ⟨x,hx,rfl⟩
 have pkind:∀x∈(f.ps.map (·.arg)).zip vals,f.fd.scope.names.lookup x.1=some .local∨f.fd.scope.names.lookup x.1=some .cell:=fun x hx=>by
  have hx':x.1∈f.ps.map (·.arg):=by rw [←hkeys];exact List.mem_map.mpr ⟨x,hx,rfl⟩
  obtain ⟨k,h1,h2⟩:=own_of (pslot _ hx')
  rw [vz d4 h1]
  rcases h2 with rfl|rfl
  ·exact .inl rfl
  ·exact .inr rfl
 have hlen0:(m0 f.fd.scope (vals.map av)).length=(zm f.fd.scope).length:=by
  have:=congrArg List.length c7
  rw [List.length_take,List.length_map] at this
  unfold m0
  rw [List.length_append,List.length_replicate,List.length_map]
  exact Nat.add_sub_cancel' (Nat.le_trans (Nat.le_of_eq (hl.trans this.symm)) (Nat.min_le_right ..))
 have nd:∀(i j:Nat) (n:Str),(zm f.fd.scope)[i]?=some (some n)→(zm f.fd.scope)[j]?=some (some n)→i=j:=fun i j n h1 h2=>by
  have hn:(zm f.fd.scope).Nodup:=by
   have e:zm f.fd.scope=((f.fd.scope.names.filter fun x=>x.2== .local||x.2== .cell).map (·.1)).map some:=by unfold zm;rw [List.map_map];rfl
   rw [e]
   exact List.Pairwise.map _ (fun a b q z=>q (Option.some.inj z)) (d4.sublist ((List.filter_sublist ..).map _))
  obtain ⟨a1,a2⟩:=List.getElem?_eq_some_iff.mp h1
  obtain ⟨b1,b2⟩:=List.getElem?_eq_some_iff.mp h2
  rcases Nat.lt_trichotomy i j with q|q|q
  ·exact absurd (a2.trans b2.symm) (List.pairwise_iff_getElem.mp hn i j a1 b1 q)
  ·exact q
  ·exact absurd (b2.trans a2.symm) (List.pairwise_iff_getElem.mp hn j i b1 a1 q)
 have ownK:∀n,n∈vp f.fd.scope→f.fd.scope.names.lookup n=some .local∨f.fd.scope.names.lookup n=some .cell:=fun n hn=>by
  obtain ⟨k,h1,h2⟩:=own_of hn
  rw [vz d4 h1]
  rcases h2 with rfl|rfl
  ·exact .inl rfl
  ·exact .inr rfl
 have hclo:=F.clo
 unfold cloChk at hclo
 rw [Bool.or_eq_true] at hclo
 rcases hclo with hclo|hclo
 ·simp only [Bool.and_eq_true,List.isEmpty_iff,List.all_eq_true,bne_iff_ne,ne_eq] at hclo
  obtain ⟨k1,k2⟩:=hclo
  rcases h with h|h
  rotate_left
  ·rw [k1] at h;exact Bool.noConfusion h.1
  have nofree:∀n,f.fd.scope.names.lookup n≠some .free:=fun n hn=>k2 _ (lookup_mem hn) rfl
  refine codeAny_call_cells hroom (X _ _ F.look) F.data ((G.nolimit).keeps R.h0) (codeRec_of X F.code) F.body hbind k1 (fun x hx=>?_) (fun s₁ I=>?_) d3 d2 d1
  ·rcases pkind x hx with e|e
   ·exact .inl e
   ·exact .inr ⟨e,cellsFrom_has (lookup_mem e)⟩
  ·refine h (callEnvC f.fd s.heap.objs.size f.addr) _ rfl rfl ?_
   obtain ⟨⟨⟨h',tk,rfl⟩,hns,hkp,hfr⟩,hcell,hap,hab⟩:=I
   have up:∀n a,(callEnvC f.fd s.heap.objs.size f.addr).cells.lookup n=some a→s.heap.get? a=none:=fun n a e=>by
    have:=hab n a (mem_of_lookup e)
    generalize q:s.heap.get? a=zq;induction zq with
    |none=>rfl
    |some o=>
     exact absurd (Nat.lt_trans this (Heap.lt_size q)) (Nat.lt_irrefl s.heap.objs.size)
   have upL:s.heap.get? (callEnvC f.fd s.heap.objs.size f.addr).locals=none:=freshA s
   refine ⟨hW.grow hkp,⟨⟨d1,c5,c6,fun n n' a e e'=>name_of_addr hap (mem_of_lookup e) (mem_of_lookup e'),fun n a e=>?_,fun n hk=>?_⟩,hlen0,nd,ownK,⟨_,hns⟩,(hB _ upL).1,(hB _ upL).2,
    fun n a e=>(hB _ (up n a e)).2,fun n a e=>let ⟨o,ho,_⟩:=hcell n a e;⟨o,ho⟩,fun n a _ e=>(hB _ (up n a e)).1,fun n hn hk=>?_,fun i n v h1 h2 h3=>?_⟩⟩
   ·have:=hab n a (mem_of_lookup e);exact Ne.symm (Nat.ne_of_lt this)
   ·rcases kd_cel.mp hk with e|e
    ·exact Option.isSome_iff_exists.mp (cellsFrom_has (n:=s.heap.objs.size+1) (acc:=[]) (lookup_mem e))
    ·exact absurd e (nofree n)
   ·rcases kd_cel.mp hk with e|e
    ·obtain ⟨a,ha⟩:=Option.isSome_iff_exists.mp (cellsFrom_has (n:=s.heap.objs.size+1) (acc:=[]) (lookup_mem e))
     exact ⟨a,_,ha,hcell n a ha⟩
    ·exact absurd e (nofree n)
   ·obtain ⟨x,hx,rfl⟩:=read_param hc hl h1 h2 h3
    rcases pkind _ hx with e|e
    ·exact .loc (kd_loc.mpr e) x _ hns (bindL_at (by rw [hkeys];exact c2) hx e) rfl
    ·obtain ⟨a,ha⟩:=Option.isSome_iff_exists.mp (cellsFrom_has (n:=s.heap.objs.size+1) (acc:=[]) (lookup_mem e))
     have hv:=hcell n a ha
     have e':(callEnvC f.fd s.heap.objs.size f.addr).kindOf n=some .cell:=e
     rw [bindC_at (by rw [hkeys];exact c2) hx (by rw [e'];simp)] at hv
     exact .cel (kd_cel.mpr (.inl e)) a x ha hv rfl
 ·simp only [Bool.and_eq_true,List.all_eq_true,bne_iff_ne,ne_eq,beq_iff_eq,decide_eq_true_eq] at hclo
  obtain ⟨⟨k1,k2⟩,k3⟩:=hclo
  have nocell:∀n,f.fd.scope.names.lookup n≠some .cell:=fun n hn=>(k1 _ (lookup_mem hn)).1 rfl
  have pl:∀x∈(f.ps.map (·.arg)).zip vals,f.fd.scope.names.lookup x.1=some .local:=fun x hx=>(pkind x hx).resolve_right (nocell _)
  refine ks_codeAny_call_defAt hroom (X _ _ F.look) F.data ((G.nolimit).keeps R.h0) (codeRec_of X F.code) F.body (BindsTo.of_eq hbind) (fun x hx=>(k1 x hx).1) pl (fun h₀ hns hkp=>?_) d3 d2 d1
  have both:Rep c (wz s.heap H) (callEnv f.fd s.heap.objs.size f.addr) (vp f.fd.scope) (zm f.fd.scope) (m0 f.fd.scope (vals.map av)) H {s with heap:=h₀,toks:=s.toks+((f.ps.map (·.arg)).zip vals).length}→
    _root_.PySem.wpAt (model c.prog c.w) (A.deeper (callEnv f.fd s.heap.objs.size f.addr)) (.func f.body (callEnv f.fd s.heap.objs.size f.addr)) (execs f.body (callEnv f.fd s.heap.objs.size f.addr))
     (fun fl s'=>RR (.ok (.ret (match fl with| .ret v=>v|_=> .none))) s') (LvE c A (callEnv f.fd s.heap.objs.size f.addr) RR)
     {s with heap:=h₀,toks:=s.toks+((f.ps.map (·.arg)).zip vals).length}:=fun Re=>by
   rcases h with h|h
   ·exact wpAt_of_wpAny (h (callEnv f.fd s.heap.objs.size f.addr) _ rfl rfl Re)
   ·exact h.2 _ Re
  refine both ?_
  have inK:∀n a,(callEnv f.fd s.heap.objs.size f.addr).cells.lookup n=some a→∃o,c.h₀.get? a=some o:=fun n a e=>by
   obtain ⟨o,ho⟩:=Option.isSome_iff_exists.mp (k2 _ (mem_of_lookup e)).1
   exact ⟨o,G.kin _ _ ho⟩
  have notown:∀n a,n∈vp f.fd.scope→(callEnv f.fd s.heap.objs.size f.addr).cells.lookup n=some a→False:=fun n a hn e=>by
   obtain ⟨k,h1,h2⟩:=own_of hn
   have e1:=(k2 _ (mem_of_lookup e)).2
   simp only at e1
   rw [vz d4 h1] at e1
   cases e1
   rcases h2 with h2|h2<;>cases h2
  have upL:s.heap.get? (callEnv f.fd s.heap.objs.size f.addr).locals=none:=freshA s
  have hinj:∀{l:List (Str×Addr)} {n n':Str} {a:Addr},(l.map (·.2)).Nodup→(n,a)∈l→(n',a)∈l→n=n':=by
   intro l
   induction l with
   |nil=>intro n n' a _ h _;cases h
   |cons x r ih=>
    intro n n' a hn h h'
    simp only [List.map_cons,List.nodup_cons] at hn
    rcases List.mem_cons.mp h with e|h<;>rcases List.mem_cons.mp h' with e'|h'
    ·rw [←e'] at e;exact (Prod.mk.inj e).1
    ·exact absurd (List.mem_map.mpr ⟨_,h',by rw [←e]⟩) hn.1
    ·exact absurd (List.mem_map.mpr ⟨_,h,by rw [←e']⟩) hn.1
    ·exact ih hn.2 h h'
  refine ⟨hW.grow hkp,⟨⟨d1,c5,c6,fun n n' a e e'=>hinj k3 (mem_of_lookup e) (mem_of_lookup e'),fun n a e=>?_,fun n hk=>?_⟩,hlen0,nd,ownK,⟨_,hns⟩,(hB _ upL).1,(hB _ upL).2,
   fun n a e=>?_,fun n a e=>?_,fun n a hn e=>(notown n a hn e).elim,fun n hn hk=>?_,fun i n v h1 h2 h3=>?_⟩⟩
  ·obtain ⟨o,ho⟩:=inK n a e
   rintro rfl
   rw [R.h0 _ _ ho] at upL;cases upL
  ·rcases kd_cel.mp hk with e|e
   ·exact absurd e (nocell n)
   ·have:=(k1 _ (lookup_mem e)).2
    simp only [not_true_eq_false,false_or] at this
    exact Option.isSome_iff_exists.mp this
  ·obtain ⟨o,ho⟩:=inK n a e
   generalize q:H a=zq;induction zq with
   |none=>rfl
   |some y=>have:=R.apart _ _ q;rw [R.base _ _ ho] at this;cases this
  ·obtain ⟨o,ho⟩:=inK n a e
   exact ⟨o,hkp _ _ (R.h0 _ _ ho)⟩
  ·obtain ⟨k,h1,h2⟩:=own_of hn
   have e1:=vz d4 h1
   rcases h2 with rfl|rfl
   ·have:=kd_loc.mpr e1
    rw [show (callEnv f.fd s.heap.objs.size f.addr).scope=f.fd.scope from rfl,this] at hk;cases hk
   ·exact absurd e1 (nocell n)
  ·obtain ⟨x,hx,rfl⟩:=read_param hc hl h1 h2 h3
   refine .loc (kd_loc.mpr (pl _ hx)) x _ hns ?_ rfl
   have hn:(((f.ps.map (·.arg)).zip vals).reverse.map (·.1)).Nodup:=by rw [List.map_reverse,hkeys];exact (List.reverse_perm _).nodup_iff.mpr c2
   exact vz hn (List.mem_reverse.mpr hx)
theorem code_fn(G:Gd c){f:Fn}(F:FnOK c f)(hroom:A.depth<recursionLimit){vals:List Value}(R:Hp c B H s)(hl:vals.length=f.ps.length)
  (h:(∀env' s₁,env'.scope=f.fd.scope→Rep c (wz s.heap H) env' (vp f.fd.scope) (zm f.fd.scope) (m0 f.fd.scope (vals.map av)) H s₁→
   wpAny (model c.prog c.w) (A.deeper env') (execs f.body env') (fun fl s'=>PH c (wz s.heap H) Q (match fl with| .ret v=>v|_=> .none) s') (fun _ _=>False) s₁)∨
   (f.fd.closure.isEmpty=false∧∀s₁,Rep c (wz s.heap H) (callEnv f.fd s.heap.objs.size f.addr) (vp f.fd.scope) (zm f.fd.scope) (m0 f.fd.scope (vals.map av)) H s₁→
   _root_.PySem.wpAt (model c.prog c.w) (A.deeper (callEnv f.fd s.heap.objs.size f.addr)) (.func f.body (callEnv f.fd s.heap.objs.size f.addr)) (execs f.body (callEnv f.fd s.heap.objs.size f.addr)) (fun fl s'=>PH c (wz s.heap H) Q (match fl with| .ret v=>v|_=> .none) s') (fun _ _=>False) s₁)):
  codeAny (model c.prog c.w) A (.call (.ref f.addr) ⟨vals,[]⟩) (fun r s'=>∃v,r= .ok (.ret v)∧PH c B Q v s') s:=
 code_fnG G F hroom R hl (h.imp (fun h env' s₁ he _ Re=>wpAny_mono (h env' s₁ he Re) (fun fl s' ⟨H',x,y⟩=>⟨_,rfl,H',R.back x,y⟩) fun _ _ x=>x.elim) fun h=>⟨h.1,fun s₁ Re=>ks_wpAt_mono (h.2 s₁ Re) (fun fl s' ⟨H',x,y⟩=>⟨_,rfl,H',R.back x,y⟩) fun _ _ x=>x.elim⟩)
end
section
variable{c:Cx}{B:Bs}{env:Env}{own:List Str}{sl:Sl}{m:List V}{H:AH}{s:Shared}{A:Around}{E:Value→Shared→Prop}
theorem slot_spec{n:Str}{i:Nat}(h:slot sl n=some i):sl[i]?=some (some n)∧(n==("__classdict__":Str))=false∧(n==("__debug__":Str))=false:=by
 unfold slot at h
 split at h
 ·cases h
 ·rename_i q
  rw [Bool.or_eq_true,not_or] at q
  refine ⟨?_,Bool.eq_false_iff.mpr q.1,Bool.eq_false_iff.mpr q.2⟩
  unfold List.idxOf? at h
  rw [List.findIdx?_eq_some_iff_getElem] at h
  obtain ⟨a,b,_⟩:=h
  rw [List.getElem?_eq_getElem a]
  exact congrArg some (beq_iff_eq.mp b)
theorem load_ok{n:Str}{i:Nat}{v:V}{Q:Value→Shared→Prop}(R:Rep c B env own sl m H s)(hs:slot sl n=some i)(hv:m[i]?=some v)(hu:v≠ .un)(q:∀x,av x=v→Q x s):
  wpAny (model c.prog c.w) A (loadName env n) Q E s:=by
 obtain ⟨h1,h2,h3⟩:=slot_spec hs
 induction R.fm.read i n v h1 hv hu with
 |loc e x mm a b d=>
  exact wpAny_loadName_local R.fm.eok.kind (kd_loc.mp e) a b (q x d)
 |cel e cc x a b d=>
  rcases kd_cel.mp e with k|k
  ·exact wpAny_loadName_cell R.fm.eok.kind k a b (q x d)
  ·exact wpAny_loadName_free R.fm.eok.kind k a b (q x d) h2
theorem name_ok{n:Str}{pos:Pos}{i:Nat}{v:V}{Q:Value→Shared→Prop}(R:Rep c B env own sl m H s)(hs:slot sl n=some i)(hv:m[i]?=some v)(hu:v≠ .un)(q:∀x,av x=v→Q x s):
  wpAny (model c.prog c.w) A (eval (.Name n pos) env) Q E s:=
 wpAny_Name (load_ok R hs hv hu q) (slot_spec hs).2.2
theorem store_at{n:Str}{i:Nat}{x:Value}{Q:Unit→Shared→Prop}(R:Rep c B env own sl m H s)(h1:sl[i]?=some (some n))(ho:n∈own)
  (q:∀s',Rep c B env own sl (m.set i (av x)) H s'→Q () s'):wpAny (model c.prog c.w) A (bindName env n x) Q E s:=by
 have hk:=R.fm.eok.kind
 unfold bindName
 refine wpAny_bind (wpAny_holding (wpAny_point (wpAny_bind ?_)))
 have other:∀(j:Nat) (n':Str) (v:V),sl[j]?=some (some n')→(m.set i (av x))[j]?=some v→v≠ .un→(j=i∧n'=n∧v=av x)∨(n'≠n∧m[j]?=some v):=fun j n' v a b d=>by
  by_cases hj:j=i
  ·subst hj
   rw [h1] at a
   cases a
   rw [List.getElem?_set] at b
   split at b
   ·split at b
    ·cases b;exact .inl ⟨rfl,rfl,rfl⟩
    ·cases b
   ·rename_i z;exact absurd rfl z
  ·rw [List.getElem?_set_ne (Ne.symm hj)] at b
   refine .inr ⟨?_,b⟩
   rintro rfl
   exact hj (R.fm.nd _ _ _ a h1)
 rcases R.fm.ownK n ho with e|e
 ·obtain ⟨mm,hn⟩:=R.fm.ns
  refine wpAny_storeName_local e hn (fun h' hn' hs'=>wpAny_point (q _ ?_)) (by rw [hk];rfl)
  have hL:=R.fm.locH
  have hLB:=R.fm.locB
  have cl:∀n' a,env.cells.lookup n'=some a→a≠env.locals:=fun n' a z=>R.fm.eok.loc n' a z
  refine ⟨⟨R.hp.gens,R.hp.base,fun b o z=>(hs'.2 b (by rintro rfl;rw [hLB] at z;cases z)).trans (R.hp.keep b o z),fun a y z=>(R.hp.real a y z).congr (hs'.2 a (by rintro rfl;rw [hL] at z;cases z)),R.hp.apart⟩,?_⟩
  refine ⟨R.fm.eok,by rw [List.length_set];exact R.fm.len,R.fm.nd,R.fm.ownK,⟨_,hn'⟩,hLB,hL,R.fm.celH,fun n' a z=>?_,R.fm.celB,fun n' z1 z2=>?_,fun j n' v a b d=>?_⟩
  ·obtain ⟨o,ho⟩:=R.fm.celA n' a z
   exact ⟨o,(hs'.2 a (cl n' a z)).trans ho⟩
  ·obtain ⟨a,v,z3,z4⟩:=R.fm.cell n' z1 z2
   exact ⟨a,v,z3,IsCell.keeps z4 (hs'.2 a (cl n' a z3))⟩
  ·rcases other j n' v a b d with ⟨_,rfl,rfl⟩|⟨hne,b'⟩
   ·exact .loc (kd_loc.mpr e) x _ hn' (if_pos rfl) rfl
   ·induction R.fm.read j n' v a b' d with
    |loc e' y mm' p1 p2 p3=>
     refine nn fun hC=>?_
     obtain ⟨o1,es1,ep1,g1,g2,g3,g4⟩:=p1
     obtain ⟨o2,es2,ep2,k1,k2,k3,k4⟩:=hn
     refine hC ?_
     rw [g1] at k1;cases k1
     rw [g2] at k2;cases k2
     refine .loc e' y _ hn' ?_ p3
     show (if n'=n then some x else mm n')=some y
     rw [if_neg hne,←k4 n',g4 n'];exact p2
    |cel e' a' y p1 p2 p3=>exact .cel e' a' y p1 (IsCell.keeps p2 (hs'.2 a' (cl n' a' p1))) p3
 ·have ek:kd env.scope n= .cel:=kd_cel.mpr (.inl e)
  obtain ⟨cc,v0,hc,hv⟩:=R.fm.cell n ho ek
  have cH:=R.fm.celH n cc hc
  have cB:=R.fm.celB n cc ho hc
  have cL:=R.fm.eok.loc n cc hc
  refine wpAny_storeName_cell hk e hc hv fun h' hc' hs'=>wpAny_point (q _ ?_)
  refine ⟨⟨R.hp.gens,R.hp.base,fun b o z=>(hs'.2 b (by rintro rfl;rw [cB] at z;cases z)).trans (R.hp.keep b o z),fun a y z=>(R.hp.real a y z).congr (hs'.2 a (by rintro rfl;rw [cH] at z;cases z)),R.hp.apart⟩,?_⟩
  refine ⟨R.fm.eok,by rw [List.length_set];exact R.fm.len,R.fm.nd,R.fm.ownK,let ⟨mm,hn⟩:=R.fm.ns;⟨mm,hn.sameBut hs' (Ne.symm cL)⟩,R.fm.locB,R.fm.locH,R.fm.celH,fun n' a z=>?_,R.fm.celB,fun n' z1 z2=>?_,fun j n' v a b d=>?_⟩
  ·by_cases hac:a=cc
   ·subst hac;obtain ⟨o,ho,_⟩:=hc';exact ⟨o,ho⟩
   ·obtain ⟨o,ho⟩:=R.fm.celA n' a z
    exact ⟨o,(hs'.2 a hac).trans ho⟩
  ·obtain ⟨a,v,z3,z4⟩:=R.fm.cell n' z1 z2
   by_cases hac:a=cc
   ·subst hac;exact ⟨a,_,z3,hc'⟩
   ·exact ⟨a,v,z3,IsCell.keeps z4 (hs'.2 a hac)⟩
  ·rcases other j n' v a b d with ⟨_,rfl,rfl⟩|⟨hne,b'⟩
   ·exact .cel ek cc x hc hc' rfl
   ·have r:=R.fm.read j n' v a b' d
    refine r.mono (hs'.2 _ (Ne.symm cL)) fun a' p1=>hs'.2 a' ?_
    rintro rfl
    exact hne (R.fm.eok.inj _ _ _ p1 hc)
theorem store_ok{n:Str}{i:Nat}{x:Value}{Q:Unit→Shared→Prop}(R:Rep c B env own sl m H s)(hs:slot sl n=some i)(ho:n∈own)
  (q:∀s',Rep c B env own sl (m.set i (av x)) H s'→Q () s'):wpAny (model c.prog c.w) A (bindName env n x) Q E s:=store_at R (slot_spec hs).1 ho q
end
end Mine
end
section
open PySem PySem.W PyProof.Rows
namespace Mine
section
variable{c:Cx}{B:Bs}{env:Env}{own:List Str}{sl:Sl}{m:List V}{H:AH}{s:Shared}{A:Around}{E:Value→Shared→Prop}
structure Out(B:Bs)(env:Env)(H:AH)(a:Addr):Prop where
 b:B a=none
 h:H a=none
 l:a≠env.locals
 c:∀n d,env.cells.lookup n=some d→d≠a
theorem Rep.out(R:Rep c B env own sl m H s){a:Addr}(ha:s.heap.get? a=none):Out B env H a:=by
 refine ⟨R.hp.freshB ha,R.hp.fresh ha,?_,fun n d e=>?_⟩
 ·rintro rfl;obtain ⟨o,ho⟩:=R.fm.alive;rw [ha] at ho;cases ho
 ·rintro rfl;obtain ⟨o,ho⟩:=R.fm.celA n d e;rw [ha] at ho;cases ho
theorem Rep.grow(R:Rep c B env own sl m H s){h':Heap}{t:Nat}(k:∀b o,s.heap.get? b=some o→h'.get? b=some o):Rep c B env own sl m H {s with heap:=h',toks:=t}:=by
 refine ⟨R.hp.grow k,R.fm.keep ?_ (fun n a e=>?_) R.fm.locH R.fm.celH⟩
 ·obtain ⟨o,ho⟩:=R.fm.alive;exact (k _ _ ho).trans ho.symm
 ·obtain ⟨o,ho⟩:=R.fm.celA n a e;exact (k _ _ ho).trans ho.symm
theorem Rep.away(R:Rep c B env own sl m H s){a:Addr}{h':Heap}{t:Nat}(o:Out B env H a)(hs:Heap.ExtBut a s.heap h'):Rep c B env own sl m H {s with heap:=h',toks:=t}:=by
 refine ⟨⟨R.hp.gens,R.hp.base,fun b x e=>hs b x (by rintro rfl;rw [o.b] at e;cases e) (R.hp.keep b x e),fun b x e=>?_,R.hp.apart⟩,R.fm.keep ?_ (fun n d e=>?_) R.fm.locH R.fm.celH⟩
 ·obtain ⟨y,hy⟩:=(R.hp.real b x e).get
  exact (R.hp.real b x e).congr ((hs b y (by rintro rfl;rw [o.h] at e;cases e) hy).trans hy.symm)
 ·obtain ⟨y,hy⟩:=R.fm.alive;exact (hs _ _ (Ne.symm o.l) hy).trans hy.symm
 ·obtain ⟨y,hy⟩:=R.fm.celA n d e;exact (hs _ _ (o.c n d e) hy).trans hy.symm
noncomputable def hold(B:Bs)(h:Heap)(as:List Addr):Bs:=fun b=>if b∈as then h.get? b else B b
theorem Rep.hold(R:Rep c B env own sl m H s){as:List Addr}(o:∀a∈as,Out B env H a):Rep c (hold B s.heap as) env own sl m H s:=by
 refine ⟨⟨R.hp.gens,fun b x e=>?_,fun b x e=>?_,R.hp.real,fun a x e=>?_⟩,⟨R.fm.eok,R.fm.len,R.fm.nd,R.fm.ownK,R.fm.ns,?_,R.fm.locH,R.fm.celH,R.fm.celA,fun n d hn e=>?_,R.fm.cell,R.fm.read⟩⟩
 ·unfold Mine.hold;split
  ·exact R.hp.keep _ _ (R.hp.base _ _ e)
  ·exact R.hp.base _ _ e
 ·unfold Mine.hold at e;split at e
  ·exact e
  ·exact R.hp.keep _ _ e
 ·unfold Mine.hold;split
  ·rename_i q;have:=(o _ q).h;rw [e] at this;cases this
  ·exact R.hp.apart _ _ e
 ·unfold Mine.hold;split
  ·rename_i q;exact absurd rfl (o _ q).l
  ·exact R.fm.locB
 ·unfold Mine.hold;split
  ·rename_i q;exact absurd rfl ((o _ q).c n d e)
  ·exact R.fm.celB n d hn e
theorem Rep.unhold(R:Rep c B env own sl m H s){as:List Addr}{own':List Str}{sl':Sl}{m':List V}{H':AH}{s':Shared}(R':Rep c (Mine.hold B s.heap as) env own' sl' m' H' s')(o:∀a∈as,Out B env H a):
  Rep c B env own' sl' m' H' s'∧∀a∈as,∀x,s.heap.get? a=some x→s'.heap.get? a=some x∧Out B env H' a:=by
 have inB:∀b x,B b=some x→Mine.hold B s.heap as b=some x:=fun b x e=>by
  unfold Mine.hold;split
  ·rename_i q;rw [(o _ q).b] at e;cases e
  ·exact e
 refine ⟨⟨⟨R'.hp.gens,R.hp.base,fun b x e=>R'.hp.keep _ _ (inB _ _ e),R'.hp.real,fun a x e=>?_⟩,⟨R'.fm.eok,R'.fm.len,R'.fm.nd,R'.fm.ownK,R'.fm.ns,R.fm.locB,R'.fm.locH,R'.fm.celH,R'.fm.celA,fun n d hn e=>?_,R'.fm.cell,R'.fm.read⟩⟩,fun a ha x e=>?_⟩
 ·generalize q:B a=zq;induction zq with
  |none=>rfl
  |some y=>have:=R'.hp.apart _ _ e;rw [inB _ _ q] at this;cases this
 ·generalize q:B d=zq;induction zq with
  |none=>rfl
  |some y=>have:=R'.fm.celB n d hn e;rw [inB _ _ q] at this;cases this
 ·have hb:Mine.hold B s.heap as a=some x:=by unfold Mine.hold;rw [if_pos ha];exact e
  refine ⟨R'.hp.keep _ _ hb,(o a ha).b,?_,(o a ha).l,(o a ha).c⟩
  generalize q:H' a=zq;induction zq with
  |none=>rfl
  |some y=>have:=R'.hp.apart _ _ q;rw [hb] at this;cases this
structure Iter(c:Cx)(A:Around)(it:Addr)(items:List V)(chk:AH→Prop)(St:Nat→Heap→Prop):Prop where
 item:∀{i:Nat} {v:V} {s:Shared} {H:AH} {B:Bs} {Q:Option Value→Shared→Prop} {E:Value→Shared→Prop},items[i]?=some v→St i s.heap→Hp c B H s→chk H→
  (∀x h' tk,av x=v→St (i+1) h'→Heap.SameBut it s.heap h'→Q (some x) {s with heap:=h',toks:=tk})→wpAny (model c.prog c.w) A (pyNext (.ref it)) Q E s
 done:∀{s:Shared} {H:AH} {B:Bs} {Q:Option Value→Shared→Prop} {E:Value→Shared→Prop},St items.length s.heap→Hp c B H s→chk H→
  (∀h' tk,Heap.ExtBut it s.heap h'→Q none {s with heap:=h',toks:=tk})→wpAny (model c.prog c.w) A (pyNext (.ref it)) Q E s
 frame:∀{i:Nat} {h h':Heap},St i h→h'.get? it=h.get? it→St i h'
 self:∀{i:Nat} {s:Shared} {Q:Value→Shared→Prop} {E:Value→Shared→Prop},St i s.heap→Q (.ref it) s→wpAny (model c.prog c.w) A (pyIter (.ref it)) Q E s
 live:∀{i:Nat} {h:Heap},St i h→∃o,h.get? it=some o
theorem Iter.list(hh:A.handled=none){it a:Addr}{l:List V}:Iter c A it l (fun H=>H.see a=some (.lst l)) (fun i h=>h.IsListIter it a i) where
 item:=fun {i v s H B Q E} hv st R ck k=>by
  obtain ⟨xs,p,e1,e2⟩:=R.see ck
  obtain ⟨y,b1,b2⟩:=map_av_get e1 hv
  exact wpAny_pyNext_list_item st (plainL p) b1 fun h' st' hs=>k y h' s.toks b2 st' hs
 done:=fun {s H B Q E} st R ck k=>by
  obtain ⟨xs,p,e1,e2⟩:=R.see ck
  refine wpAny_pyNext_list_end hh st (plainL p) ?_ fun h' he=>k h' s.toks he
  rw [Array.getElem?_eq_none];rw [map_av e1];exact Nat.le_refl _
 frame:=fun ⟨o,ho,r⟩ e=>⟨o,e.trans ho,r⟩
 self:=fun st q=>wpAny_pyIter_listiter st q
 live:=fun ⟨o,ho,_⟩=>⟨o,ho⟩
theorem Iter.tuple(hh:A.handled=none){it a:Addr}{l:List V}:Iter c A it l (fun H=>H.see a=some (.tup l)) (fun i h=>h.IsTupleIter it a i) where
 item:=fun {i v s H B Q E} hv st R ck k=>by
  obtain ⟨xs,n,p,e1,e2⟩:=R.see ck
  obtain ⟨y,b1,b2⟩:=map_av_get e1 hv
  exact wpAny_pyNext_tuple_item st (tupI p) b1 fun h' st' hs=>k y h' s.toks b2 st' hs
 done:=fun {s H B Q E} st R ck k=>by
  obtain ⟨xs,n,p,e1,e2⟩:=R.see ck
  refine wpAny_pyNext_tuple_end hh st (tupI p) ?_ fun h' he=>k h' s.toks he
  rw [Array.getElem?_eq_none];rw [map_av e1];exact Nat.le_refl _
 frame:=fun ⟨o,ho,r⟩ e=>⟨o,e.trans ho,r⟩
 self:=fun st q=>wpAny_pyIter_tupleiter st q
 live:=fun ⟨o,ho,_⟩=>⟨o,ho⟩
theorem Iter.dict(hh:A.handled=none){it a:Addr}{es:List (Int×V)}{o:Obj}{kvs:List (Int×Value)}{ep:Nat}(ho:∀h:Heap,h.get? a=some o→h.DictAt (intKind c.prog c.w) a kvs ep)(he:kvs.map (fun e=>(e.1,av e.2))=es):
  Iter c A it (keysOf es) (fun H=>H a=some (.froz (.dct es) o)) (fun i h=>h.IsKeyIter it a i kvs.length ep) where
 item:=fun {i v s H B Q E} hv st R ck k=>by
  have hm:=ho _ (R.real _ _ ck).1
  unfold keysOf at hv
  rw [←he,List.map_map,List.getElem?_map] at hv
  obtain ⟨y,b1,b2⟩:=Option.map_eq_some_iff.mp hv
  refine wpAny_pyNext_dict_item st hm (k:=y.1) (v:=y.2) b1 fun key h' hk st' hs=>k key h' s.toks ?_ st' hs
  obtain ⟨t,rfl⟩:=Value.isInt_shape hk
  exact b2
 done:=fun {s H B Q E} st R ck k=>by
  have hm:=ho _ (R.real _ _ ck).1
  refine wpAny_pyNext_dict_end hh st hm ?_ fun h' he=>k h' s.toks he
  rw [List.getElem?_eq_none]
  unfold keysOf;rw [←he];simp
 frame:=fun ⟨o,ho,r⟩ e=>⟨o,e.trans ho,r⟩
 self:=fun st q=>wpAny_pyIter_keyiter st q
 live:=fun ⟨o,ho,_⟩=>⟨o,ho⟩
theorem Iter.range(hh:A.handled=none){it:Addr}{a b:Int}:Iter c A it (rngL a b) (fun _=>True) (fun i h=>IsRangeIter h it (a+(i:Nat)) (((b-a).toNat:Int)-(i:Nat)) 1) where
 item:=fun {i v s H B Q E} hv st R ck k=>by
  unfold rngL at hv
  rw [List.getElem?_map] at hv
  obtain ⟨y,b1,b2⟩:=Option.map_eq_some_iff.mp hv
  obtain ⟨h1,h2⟩:=List.getElem?_eq_some_iff.mp b1
  rw [List.length_range] at h1
  simp only [List.getElem_range] at h2
  refine wpAny_pyNext_range_item st (by lia) fun h' st' hs=>k _ h' _ ?_ ?_ hs
  ·rw [←b2,←h2];rfl
  ·have e1:a+((i+1:Nat):Int)=a+(i:Nat)+1:=by lia
   have e2:((b-a).toNat:Int)-((i+1:Nat):Int)=((b-a).toNat:Int)-(i:Nat)-1:=by lia
   rw [e1,e2];exact st'
 done:=fun {s H B Q E} st R ck k=>by
  refine wpAny_pyNext_range_end hh st ?_ fun h' he=>k h' s.toks he
  unfold rngL;simp
 frame:=fun st e=>e.trans st
 self:=fun st q=>wpAny_pyIter_rangeiter st q
 live:=fun st=>⟨_,st⟩
noncomputable def Thaw(c:Cx)(chk:AH→Prop)(thaw:AH→AH):Prop:=(∀B H s,Hp c B H s→chk H→Hp c B (thaw H) s)∧∀H a,chk H→H a=none→thaw H a=none
structure IterPost(c:Cx)(A:Around)(B:Bs)(env:Env)(own:List Str)(sl:Sl)(m:List V)(K:List V→(AH→Prop)→(AH→AH)→AH→Prop)(I:Addr)(items:List V)(chk:AH→Prop)(thaw:AH→AH)(H':AH)(St:Nat→Heap→Prop)(s':Shared):Prop where
 it:Iter c A I items chk St
 st:St 0 s'.heap
 rep:Rep c B env own sl m H' s'
 out:Out B env H' I
 live:∃o,s'.heap.get? I=some o
 tw:Thaw c chk thaw
 k:K items chk thaw H'
noncomputable abbrev PI(c:Cx)(A:Around)(B:Bs)(env:Env)(own:List Str)(sl:Sl)(m:List V)(K:List V→(AH→Prop)→(AH→AH)→AH→Prop)(v:Value)(s':Shared):Prop:=
 Ex6 fun I items chk thaw H' St=>v= .ref I∧IterPost c A B env own sl m K I items chk thaw H' St s'
theorem Hp.frz(R:Hp c B H s){a:Addr}{x y:O}(e:H a=some x)(h:Real c.prog c.w c.C s.heap a x→Real c.prog c.w c.C s.heap a y):Hp c B (H.set a y) s:=by
 refine ⟨R.gens,R.base,R.keep,fun b z q=>?_,fun b z q=>?_⟩
 ·unfold AH.set at q
  by_cases hb:b=a
  ·subst hb;rw [if_pos rfl] at q;cases q;exact h (R.real _ _ e)
  ·rw [if_neg hb] at q;exact R.real _ _ q
 ·unfold AH.set at q
  by_cases hb:b=a
  ·subst hb;exact R.apart _ _ e
  ·rw [if_neg hb] at q;exact R.apart _ _ q
theorem o_iter(G:Gd c)(hh:A.handled=none){v:Value}{K:List V→(AH→Prop)→(AH→AH)→AH→Prop}(R:Rep c B env own sl m H s)(h:itW H (av v) K):
  wpAny (model c.prog c.w) A (pyIter v) (PI c A B env own sl m K) E s:=by
 have kp:∀(o:Obj) b x,s.heap.get? b=some x→(s.heap.push o).get? b=some x:=fun o b x e=>Heap.get?_push_of_some _ e
 obtain ⟨a,hv,h⟩:=zh h
 obtain ⟨o,e,h⟩:=zh h
 rw [vm (V.r_eq hv)]
 clear hv
 have lst:∀{l:List V},H.see a=some (.lst l)→K l (fun H=>H.see a=some (.lst l)) (fun H=>H) H→wpAny (model c.prog c.w) A (pyIter (.ref a)) (PI c A B env own sl m K) E s:=fun e' h=>by
  obtain ⟨xs,p,e1,e2⟩:=R.hp.see e'
  exact wpAny_pyIter_list (plainL p) ⟨_,_,_,_,H,_,rfl,Iter.list hh,⟨_,Heap.get?_push_size _ rfl,rfl,rfl⟩,R.grow (t:=s.toks) (kp _),R.out (freshA s),⟨_,Heap.get?_push_size _ rfl⟩,⟨fun B H s R _=>R,fun _ _ _ e=>e⟩,h⟩
 induction o with
  |lst l=>exact lst (congrArg (Option.map O.un) e) h
  |tup l=>
   obtain ⟨xs,n,p,e1,e2⟩:=R.hp.see (x:= .tup l) (congrArg (Option.map O.un) e)
   exact wpAny_pyIter_tuple (tupI p) ⟨_,_,_,_,H,_,rfl,Iter.tuple hh,⟨_,Heap.get?_push_size _ rfl,rfl,rfl⟩,R.grow (t:=s.toks) (kp _),R.out (freshA s),⟨_,Heap.get?_push_size _ rfl⟩,⟨fun B H s R _=>R,fun _ _ _ e=>e⟩,h⟩
  |dct es=>
   refine nn fun hC=>?_
   obtain ⟨kvs,p,e1,e2⟩:=R.hp.real _ _ e
   obtain ⟨ep,o,x1,ho,x2⟩:=p.dictAt
   refine hC ?_
   refine wpAny_pyIter_dict (R.hp.noMods G (see_of e)) ⟨o,x1,ho,x2⟩ ?_
   have R2:Rep c B env own sl m (H.set a (.froz (.dct es) o)) s:=R.back (R.hp.whole.frz e (fun q=>⟨ho,kvs,⟨_,_,_,ho,x2⟩,e1,e2⟩))
   exact ⟨_,_,_,fun H=>H.set a (.dct es),H.set a (.froz (.dct es) o),_,rfl,Iter.dict hh (fun h q=>⟨o,x1,q,x2⟩) e1,⟨_,Heap.get?_push_size _ rfl,rfl,rfl⟩,R2.grow (t:=s.toks) (kp _),R2.out (freshA s),⟨_,Heap.get?_push_size _ rfl⟩,⟨fun B H s R ck=>R.frz ck And.right,fun H b ck z=>(if_neg (by rintro rfl;rw [ck] at z;cases z)).trans z⟩,h o⟩
  |froz x o=>
   obtain ⟨l,q,h⟩:=zh h
   cases O.l_eq q
   exact lst (congrArg (Option.map O.un) e) h
  |_=>exact h.elim
theorem o_range_at(hh:A.handled=none){r:Addr}{a b:Int}{t u v:Tok}{K:List V→(AH→Prop)→(AH→AH)→AH→Prop}(R:Rep c B env own sl m H s)(hr:IsRange s.heap r a b 1 t u v)
  (h1: -big≤a) (h2:a<big) (h3: -big≤b) (h4:b<big) (h:K (rngL a b) (fun _=>True) (fun H=>H) H):
  wpAny (model c.prog c.w) A (pyIter (.ref r)) (PI c A B env own sl m K) E s:=by
 have hb:big=2^62:=by decide
 refine wpAny_pyIter_range hr (small_one (by assumption) (by assumption) (by assumption) (by assumption)) ?_
 refine ⟨_,_,_,_,H,_,rfl,Iter.range hh (a:=a) (b:=b),?_,R.grow (t:=s.toks) (fun b x e=>Heap.get?_push_of_some _ e),R.out (freshA s),⟨_,Heap.get?_push_size _ rfl⟩,⟨fun B H s R _=>R,fun _ _ _ e=>e⟩,h⟩
 show IsRangeIter _ _ _ _ _
 rw [rangeSize_nat]
 have e1:a+((0:Nat):Int)=a:=by lia
 have e2:((b-a).toNat:Int)-((0:Nat):Int)=((b-a).toNat:Int):=by lia
 rw [e1,e2]
 exact Heap.get?_push_size _ rfl
theorem o_range2(hh:A.handled=none){a b:Int}{t u:Tok}{K:List V→(AH→Prop)→(AH→AH)→AH→Prop}(R:Rep c B env own sl m H s)
  (h1: -big≤a) (h2:a<big) (h3: -big≤b) (h4:b<big) (h:K (rngL a b) (fun _=>True) (fun H=>H) H):
  wpAny (model c.prog c.w) A (call (.type "range") [.int a t,.int b u]) (fun v s'=>wpAny (model c.prog c.w) A (pyIter v) (PI c A B env own sl m K) E s') E s:=
 call_range_2 (o_range_at hh (R.grow (fun b x e=>Heap.get?_push_of_some _ e)) (IsRange.new ..) h1 h2 h3 h4 h)
theorem o_range1(hh:A.handled=none){b:Int}{u:Tok}{K:List V→(AH→Prop)→(AH→AH)→AH→Prop}(R:Rep c B env own sl m H s)
  (h3: -big≤b) (h4:b<big) (h:K (rngL 0 b) (fun _=>True) (fun H=>H) H):
  wpAny (model c.prog c.w) A (call (.type "range") [.int b u]) (fun v s'=>wpAny (model c.prog c.w) A (pyIter v) (PI c A B env own sl m K) E s') E s:=
 call_range_1 (o_range_at hh (R.grow (fun b x e=>Heap.get?_push_of_some _ e)) (IsRange.new ..) (by decide) (by decide) h3 h4 h)
end
noncomputable def vy(env:Env):List (Str×NameKind)→List (Str×Addr)→List (Str×Addr)
 |[],acc=>acc
 |(n,k)::r,acc=>if k== .free then (match env.cells.lookup n with
   |some a=>vy env r ((n,a)::acc)
   |none=>vy env r acc) else vy env r acc
theorem cloFrom_cons{env:Env}{n:Str}{k:NameKind}{r:List (Str×NameKind)}{acc:List (Str×Addr)}:vy env ((n,k)::r) acc=if k== .free then (match env.cells.lookup n with
   |some a=>vy env r ((n,a)::acc)
   |none=>vy env r acc) else vy env r acc:=rfl
theorem closureFor_from{sc:Scope}{env:Env}(h:∀x∈sc.names,x.2= .free→∃a,env.cells.lookup x.1=some a):closureFor sc env=pure (vy env sc.names []):=by
 unfold closureFor
 have key:∀(names:List (Str×NameKind)) (acc:List (Str×Addr)),(∀x∈names,x.2= .free→∃a,env.cells.lookup x.1=some a)→
   (forIn names acc fun x r=>match x with
    |(name,kind)=>if (kind==NameKind.free)=true then do let a ←cellOf env name;pure (ForInStep.yield ((name,a)::r)) else pure (ForInStep.yield r):Sem _)=pure (vy env names acc):=by
  intro names
  induction names with
  |nil=>intro acc _;rfl
  |cons x r ih=>
   intro acc h
   obtain ⟨n,k⟩:=x
   rw [List.forIn_cons]
   have hr:=fun y hy=>h y (List.mem_cons_of_mem _ hy)
   rw [cloFrom_cons]
   by_cases hk:(k==NameKind.free)=true
   ·obtain ⟨a,ha⟩:=h (n,k) List.mem_cons_self (beq_iff_eq.mp hk)
    simp only at ha
    simp only [hk,if_true,cellOf,ha,pure_bind]
    exact ih _ hr
   ·simp only [hk,Bool.false_eq_true,if_false,pure_bind]
    exact ih _ hr
 have:=key sc.names [] h
 rw [bind_congr (fun _=>rfl)]
 simpa using this
theorem cloFrom_lookup{env:Env}:∀{names:List (Str×NameKind)} {acc:List (Str×Addr)} {n:Str},(∀x∈names,x.2= .free→∃a,env.cells.lookup x.1=some a)→
  (vy env names acc).lookup n=if (n,NameKind.free)∈names then env.cells.lookup n else acc.lookup n
 |[],acc,n,_=>(if_neg List.not_mem_nil).symm
 |(k,kk)::r,acc,n,h=>by
  have hr:=fun y hy=>h y (List.mem_cons_of_mem _ hy)
  rw [cloFrom_cons]
  by_cases hk:(kk==NameKind.free)=true
  ·obtain rfl:=beq_iff_eq.mp hk
   obtain ⟨a,ha⟩:=h (k,.free) List.mem_cons_self rfl
   simp only at ha
   simp only [hk,if_true,ha]
   rw [cloFrom_lookup hr]
   by_cases hm:(n,NameKind.free)∈r
   ·rw [if_pos hm,if_pos (List.mem_cons_of_mem _ hm)]
   ·rw [if_neg hm,List.lookup_cons]
    by_cases hn:n=k
    ·subst hn;simp [ha]
    ·have:(n==k)=false:=beq_eq_false_iff_ne.mpr hn
     rw [this,if_neg]
     simp [hn,hm]
  ·rw [if_neg hk,cloFrom_lookup hr]
   have:((n,NameKind.free)∈(k,kk)::r)↔(n,NameKind.free)∈r:=by
    constructor
    ·intro hm
     rcases List.mem_cons.mp hm with e|hm
     ·cases e;simp at hk
     ·exact hm
    ·exact List.mem_cons_of_mem _
   simp only [this]
theorem cloFrom_mem{env:Env}:∀{names:List (Str×NameKind)} {acc:List (Str×Addr)} {n:Str} {a:Addr},(n,a)∈vy env names acc→(n,a)∈acc∨((n,NameKind.free)∈names∧env.cells.lookup n=some a)
 |[],acc,n,a,h=> .inl h
 |(k,kk)::r,acc,n,a,h=>by
  rw [cloFrom_cons] at h
  split at h
  ·rename_i hk
   obtain rfl:=beq_iff_eq.mp hk
   split at h
   ·rename_i b hb
    rcases cloFrom_mem h with h|h
    ·rcases List.mem_cons.mp h with e|h
     ·cases e;exact .inr ⟨List.mem_cons_self,hb⟩
     ·exact .inl h
    ·exact .inr ⟨List.mem_cons_of_mem _ h.1,h.2⟩
   ·rcases cloFrom_mem h with h|h
    ·exact .inl h
    ·exact .inr ⟨List.mem_cons_of_mem _ h.1,h.2⟩
  ·rcases cloFrom_mem h with h|h
   ·exact .inl h
   ·exact .inr ⟨List.mem_cons_of_mem _ h.1,h.2⟩
theorem cloFrom_apart{env:Env}(inj:∀n n' a,env.cells.lookup n=some a→env.cells.lookup n'=some a→n=n'):∀{names:List (Str×NameKind)} {acc:List (Str×Addr)},(names.map (·.1)).Nodup→
  acc.Pairwise (fun x y=>x.2≠y.2)→(∀p∈acc,env.cells.lookup p.1=some p.2∧p.1∉names.map (·.1))→(vy env names acc).Pairwise (fun x y=>x.2≠y.2)
 |[],acc,_,h,_=>h
 |(k,kk)::r,acc,hn,h,hp=>by
  simp only [List.map_cons,List.nodup_cons] at hn
  have hp':∀p∈acc,env.cells.lookup p.1=some p.2∧p.1∉r.map (·.1):=fun p hm=>⟨(hp p hm).1,fun q=>(hp p hm).2 (by simp only [List.map_cons];exact List.mem_cons_of_mem _ q)⟩
  rw [cloFrom_cons]
  split
  ·split
   ·rename_i b hb
    refine cloFrom_apart inj hn.2 (List.pairwise_cons.mpr ⟨fun y hy e=>?_,h⟩) fun p hm=>?_
    ·have:=inj _ _ _ (hp y hy).1 (hb.trans (congrArg some e))
     exact (hp y hy).2 (by rw [this];simp)
    ·rcases List.mem_cons.mp hm with rfl|hm
     ·exact ⟨hb,hn.1⟩
     ·exact hp' p hm
   ·exact cloFrom_apart inj hn.2 h hp'
  ·exact cloFrom_apart inj hn.2 h hp'
theorem cellsFrom_other:∀{names:List (Str×NameKind)} {n:Nat} {acc:List (Str×Addr)} {x:Str},(x,NameKind.cell)∉names→(cellsFrom n names acc).lookup x=acc.lookup x
 |[],_,_,_,_=>rfl
 |(k,kk)::r,n,acc,x,h=>by
  have hr:(x,NameKind.cell)∉r:=fun q=>h (List.mem_cons_of_mem _ q)
  unfold cellsFrom
  split
  ·rename_i hk
   obtain rfl:=beq_iff_eq.mp hk
   rw [cellsFrom_other hr,List.lookup_cons]
   have:(x==k)=false:=beq_eq_false_iff_ne.mpr fun e=>h (by rw [e];exact List.mem_cons_self)
   rw [this]
  ·exact cellsFrom_other hr
theorem cellsFrom_mem:∀{names:List (Str×NameKind)} {h:Heap} {acc:List (Str×Addr)} {x:Str} {a:Addr},(x,a)∈cellsFrom h.objs.size names acc→
  (x,a)∈acc∨((x,NameKind.cell)∈names∧h.objs.size≤a∧(pushCells h names).IsCell a none)
 |[],_,_,_,_,m=> .inl m
 |(k,kk)::r,h,acc,x,a,m=>by
  unfold cellsFrom at m
  unfold pushCells
  split at m
  ·rename_i hk
   obtain rfl:=beq_iff_eq.mp hk
   rw [if_pos hk]
   have e:h.objs.size+1=(h.push {cls:= .type "cell",data:= .cell none}).objs.size:=(Heap.size_push ..).symm
   rw [e] at m
   rcases cellsFrom_mem m with m|⟨m1,m2,m3⟩
   ·rcases List.mem_cons.mp m with e|m
    ·cases e
     exact .inr ⟨List.mem_cons_self,Nat.le_refl _,_,pushCells_keeps _ _ _ _ (Heap.get?_push_size _ rfl),rfl⟩
    ·exact .inl m
   ·rw [Heap.size_push] at m2
    exact .inr ⟨List.mem_cons_of_mem _ m1,by exact Nat.le_of_lt ‹_›,m3⟩
  ·rename_i hk
   rw [if_neg hk]
   rcases cellsFrom_mem m with m|⟨m1,m2,m3⟩
   ·exact .inl m
   ·exact .inr ⟨List.mem_cons_of_mem _ m1,m2,m3⟩
theorem cellsFrom_apart:∀{names:List (Str×NameKind)} {n:Nat} {acc:List (Str×Addr)},acc.Pairwise (fun x y=>x.2≠y.2)→(∀p∈acc,p.2<n)→(cellsFrom n names acc).Pairwise (fun x y=>x.2≠y.2)
 |[],_,_,h,_=>h
 |(k,kk)::r,n,acc,h,hp=>by
  unfold cellsFrom
  split
  ·refine cellsFrom_apart (List.pairwise_cons.mpr ⟨fun y hy e=>?_,h⟩) fun p hm=>?_
   ·have h1:=hp y hy
    have h2:y.2=n:=Eq.symm e
    have h3:n<n:=Nat.lt_of_le_of_lt (Nat.le_of_eq h2.symm) h1
    exact Nat.lt_irrefl n h3
   ·rcases List.mem_cons.mp hm with rfl|hm
    ·exact Nat.lt_succ_self _
    ·exact Nat.lt_succ_of_lt (hp p hm)
  ·exact cellsFrom_apart h hp
theorem lookup_relabel{env:Env}{sc:Scope}{n:Str}:(relabel sc env).names.lookup n=(sc.names.lookup n).map fun k=>if (k== .free&&env.scope.kind== .function&&env.kindOf n==some .cell) then .cell else k:=by
 unfold relabel
 dsimp only
 generalize sc.names=l
 induction l with
 |nil=>rfl
 |cons x r ih=>
  obtain ⟨k,kk⟩:=x
  have e:(if (kk==NameKind.free&&env.scope.kind== .function&&env.kindOf k==some .cell)=true then (k,NameKind.cell) else (k,kk))=
   (k,if (kk==NameKind.free&&env.scope.kind== .function&&env.kindOf k==some .cell)=true then NameKind.cell else kk):=by split<;>rfl
  simp only [List.map_cons]
  rw [e,List.lookup_cons,List.lookup_cons]
  by_cases hn:n=k
  ·subst hn
   rw [beq_self_eq_true];rfl
  ·rw [beq_eq_false_iff_ne.mpr hn];exact ih
theorem kd_relabel{env:Env}{sc:Scope}{n:Str}:kd (relabel sc env) n=kd sc n:=by
 unfold kd
 rw [lookup_relabel]
 generalize h:sc.names.lookup n=zq;induction zq with
 |none=>rfl
 |some k=>
  simp only [Option.map_some]
  generalize hb:(k==NameKind.free&&env.scope.kind== .function&&env.kindOf n==some .cell)=zq;induction zq with
  |false=>simp
  |true=>
   simp only [Bool.and_eq_true,beq_iff_eq] at hb
   rw [hb.1.1];rfl
theorem relabel_own{env:Env}{sc:Scope}{n:Str}(h:sc.names.lookup n=some .local∨sc.names.lookup n=some .cell):(relabel sc env).names.lookup n=sc.names.lookup n:=by
 rw [lookup_relabel]
 rcases h with h|h<;>rw [h]<;>rfl
theorem mask_at{sv:Scope}{sl:Sl}{i:Nat}{b:Bool}(h:(wm sv sl)[i]?=some b):∃o,sl[i]?=some o∧(b=true→∃n,o=some n∧sv.names.lookup n=some .free):=by
 unfold wm at h
 rw [List.getElem?_map] at h
 obtain ⟨o,h1,h2⟩:=Option.map_eq_some_iff.mp h
 refine ⟨o,h1,fun hb=>?_⟩
 subst hb
 induction o with
 |none=>cases h2
 |some n=>
  simp only [Bool.and_eq_true,beq_iff_eq] at h2
  exact ⟨n,rfl,h2.2⟩
theorem slIn_at{sv:Scope}{sl:Sl}{v:Str}{i:Nat}{n:Str}(h:(slIn sv sl v)[i]?=some (some n)):(sl[i]?=some (some n)∧i<sl.length∧(wm sv sl)[i]?=some true∧sv.names.lookup n=some .free)∨(i=sl.length∧n=v):=by
 unfold slIn at h
 have hl:(List.zipWith (fun o b=>if b=true then o else none) sl (wm sv sl)).length=sl.length:=by
  rw [List.length_zipWith];unfold wm;rw [List.length_map];exact Nat.min_self _
 rw [List.getElem?_append] at h
 split at h
 ·rename_i q
  rw [hl] at q
  rw [List.getElem?_zipWith] at h
  have e1:sl[i]?=some sl[i]:=List.getElem?_eq_getElem q
  rw [e1] at h
  generalize e2:(wm sv sl)[i]?=zq;induction zq with
  |none=>rw [e2] at h;cases h
  |some b=>
   rw [e2] at h
   simp only [Option.some.injEq] at h
   induction b with
   |false=>cases h
   |true=>
    obtain ⟨o,h1,h2⟩:=mask_at e2
    rw [e1] at h1
    cases h1
    obtain ⟨n',hn,hf⟩:=h2 rfl
    simp only [if_true] at h
    rw [h] at hn
    cases hn
    exact .inl ⟨by rw [e1,h],q,rfl,hf⟩
 ·rename_i q
  rw [hl] at q h
  have:i-sl.length=0:=by
   rcases Nat.eq_zero_or_pos (i-sl.length) with z|z
   ·exact z
   ·rw [List.getElem?_eq_none (show ([some v]:Sl).length≤i-sl.length from z)] at h;cases h
  rw [this] at h
  simp only [List.getElem?_cons_zero,Option.some.injEq] at h
  exact .inr ⟨by exact Nat.le_antisymm (Nat.le_of_sub_eq_zero ‹_›) (Nat.not_lt.mp ‹_›),h.symm⟩
theorem mskd_at{sv:Scope}{sl:Sl}{m:List V}{y:V}{i:Nat}{v:V}(hl:m.length=sl.length)(h:(mskd m (wm sv sl)++[y])[i]?=some v)(hi:i<sl.length)(hm:(wm sv sl)[i]?=some true):m[i]?=some v:=by
 unfold mskd at h
 have hll:(List.zipWith (fun v b=>if b=true then v else V.un) m (wm sv sl)).length=sl.length:=by
  rw [List.length_zipWith];unfold wm;rw [List.length_map,hl];exact Nat.min_self _
 rw [List.getElem?_append_left (by rw [hll];exact hi),List.getElem?_zipWith,hm] at h
 generalize e:m[i]?=zq;induction zq with
 |none=>rw [e] at h;cases h
 |some x=>rw [e] at h;simpa using h
section
variable{c:Cx}{B:Bs}{env:Env}{own:List Str}{sl:Sl}{m:List V}{H:AH}{s:Shared}{A:Around}{E:Value→Shared→Prop}
structure CompOK(sc sv:Scope)(v:Str):Prop where
 kind:sv.kind= .function
 nd:(sv.names.map (·.1)).Nodup
 free:∀n,(n,NameKind.free)∈sv.names→kd sc n= .cel
 var:sv.names.lookup v=some .local∨sv.names.lookup v=some .cell
theorem compOK_of{sc sv:Scope}{v:Str}(h:compChk sc sv v=true):CompOK sc sv v:=by
 unfold compChk varOK at h
 simp only [Bool.and_eq_true,beq_iff_eq,decide_eq_true_eq,List.all_eq_true,Bool.or_eq_true,bne_iff_ne,ne_eq] at h
 obtain ⟨⟨⟨h1,h2⟩,h3⟩,h4⟩:=h
 exact ⟨h1,h2,fun n hn=>by have:=h3 _ hn;simpa using this,h4⟩
theorem comp_env{sc sv:Scope}{v:Str}{cl:List (Str×Addr)}{Q:Env→Shared→Prop}(C:CompOK sc sv v)(hsc:∀n,kd env.scope n=kd sc n)(R:Rep c B env own sl m H s){B₁:Bs}(R₁:Hp c B₁ H s)(hcl:cl=vy env sv.names [])
  (h:∀cells h',(∀b o,s.heap.get? b=some o→h'.get? b=some o)→(∀n a,cells.lookup n=some a→(∃n',env.cells.lookup n'=some a)∨s.heap.get? a=none)→
   Rep c B₁ (compEnvC sv cells s.heap.objs.size env) (vp sv) (slIn sv sl v) (mskd m (wm sv sl)++[.un]) H {s with heap:=h'}→
   Q {scope:=sv,locals:=s.heap.objs.size,globals:=env.globals,cells:=cells,qual:=env.qual,func:=none,code:=env.code,frame:=env.frame,builtins:=env.builtins} {s with heap:=h'}):
  wpAny (model c.prog c.w) A (newFunctionEnv sv env.globals cl [] env.qual none .none (some env)) Q E s:=by
 subst hcl
 simp only [newFunctionEnv,Option.isSome_some,if_true]
 refine wpAny_bind (wpAny_alloc ?_)
 refine wpAny_bind (wpAny_layCells _ (fun name kind cells=>by cases hkc:kind==NameKind.cell<;>simp [hkc]) _ _ _ _ ?_)
 rw [show ({s with heap:=s.heap.push {cls:= .type "dict",data:= .dict #[]}}:Shared).heap.objs.size=s.heap.objs.size+1 from Heap.size_push ..]
 rw [List.forIn_nil]
 have hk:∀b o,s.heap.get? b=some o→(pushCells (s.heap.push {cls:= .type "dict",data:= .dict #[]}) sv.names).get? b=some o:=fun b o e=>pushCells_keeps _ _ b o (Heap.get?_push_of_some _ e)
 have hcells:∀x∈sv.names,x.2= .free→∃a,env.cells.lookup x.1=some a:=fun x hx e=>R.fm.eok.has _ (by rw [hsc];exact C.free x.1 (by rw [←e];exact hx))
 have fresh:∀a,s.heap.objs.size≤a→s.heap.get? a=none:=fun a ha=>by
  cases e:s.heap.get? a with
  |none=>rfl
  |some o'=>exact absurd (Heap.lt_size e) (Nat.not_lt.mpr ha)
 have freshB:∀a,s.heap.objs.size≤a→B₁ a=none∧H a=none:=fun a ha=>⟨R₁.freshB (fresh a ha),R₁.fresh (fresh a ha)⟩
 have cm:∀{x a},(x,a)∈cellsFrom (s.heap.objs.size+1) sv.names (vy env sv.names [])→((x,NameKind.free)∈sv.names∧env.cells.lookup x=some a)∨
   ((x,NameKind.cell)∈sv.names∧s.heap.objs.size+1≤a∧(pushCells (s.heap.push {cls:= .type "dict",data:= .dict #[]}) sv.names).IsCell a none):=fun {x a} hm=>by
  have e:s.heap.objs.size+1=(s.heap.push {cls:= .type "dict",data:= .dict #[]}).objs.size:=(Heap.size_push ..).symm
  rw [e] at hm⊢
  rcases cellsFrom_mem hm with hm|hm
  ·rcases cloFrom_mem hm with hm|hm
   ·cases hm
   ·exact .inl hm
  ·exact .inr hm
 have cl_lt:∀p∈vy env sv.names [],p.2<s.heap.objs.size+1:=fun p hp=>by
  rcases cloFrom_mem (n:=p.1) (a:=p.2) hp with hp|hp
  ·cases hp
  ·obtain ⟨o,ho⟩:=R.fm.celA _ _ hp.2
   exact Nat.lt_succ_of_lt (Heap.lt_size ho)
 have apart:(cellsFrom (s.heap.objs.size+1) sv.names (vy env sv.names [])).Pairwise (fun x y=>x.2≠y.2):=
  cellsFrom_apart (cloFrom_apart R.fm.eok.inj C.nd List.Pairwise.nil (fun p hp=>nomatch hp)) cl_lt
 have two:∀{n k k'},(n,k)∈sv.names→(n,k')∈sv.names→k=k':=fun {n k k'} a b=>by
  have:=vz C.nd a
  rw [vz C.nd b] at this
  exact (Option.some.inj this).symm
 have free_look:∀{n a},(n,NameKind.free)∈sv.names→env.cells.lookup n=some a→(cellsFrom (s.heap.objs.size+1) sv.names (vy env sv.names [])).lookup n=some a:=fun {n a} hf ha=>by
  rw [cellsFrom_other (fun q=>by have:=two hf q;cases this),cloFrom_lookup hcells,if_pos hf,ha]
 refine wpAny_bind (wpAny_pure (wpAny_pure (h _ _ (fun b o e=>pushCells_keeps _ _ b o (Heap.get?_push_of_some _ e)) ?cells ?_)))
 case cells=>
  intro n a e
  rcases cm (mem_of_lookup e) with ⟨_,q⟩|⟨_,q,_⟩
  ·exact .inl ⟨n,q⟩
  ·exact .inr (fresh a (by exact Nat.le_of_lt ‹_›))
 refine ⟨R₁.grow (t:=s.toks) hk,⟨⟨C.kind,R.fm.eok.glob,R.fm.eok.bi,fun n n' a e e'=>name_of_addr apart (mem_of_lookup e) (mem_of_lookup e'),fun n a e=>?_,fun n hn=>?_⟩,?_,fun i j n e e'=>?_,fun n hn=>?_,
  ⟨_,(Heap.Ns.new s.heap (.type "dict")).keeps (pushCells_keeps _ _)⟩,(freshB _ (Nat.le_refl _)).1,(freshB _ (Nat.le_refl _)).2,fun n a e=>?_,fun n a e=>?_,fun n a hn e=>?_,fun n hn hc=>?_,fun i n x e e' hx=>?_⟩⟩
 ·show a≠s.heap.objs.size
  rcases cm (mem_of_lookup e) with ⟨_,q⟩|⟨_,q,_⟩
  ·obtain ⟨o,ho⟩:=R.fm.celA _ _ q;exact Nat.ne_of_lt (Heap.lt_size ho)
  ·have q':s.heap.objs.size<a:=q
   exact (Nat.ne_of_lt q').symm
 ·show ∃a,(cellsFrom (s.heap.objs.size+1) sv.names (vy env sv.names [])).lookup n=some a
  have hn':kd sv n= .cel:=kd_relabel.symm.trans hn
  rcases kd_cel.mp hn' with q|q
  ·exact Option.isSome_iff_exists.mp (cellsFrom_has (lookup_mem q))
  ·obtain ⟨a,ha⟩:=hcells _ (lookup_mem q) rfl
   exact ⟨a,free_look (lookup_mem q) ha⟩
 ·unfold mskd slIn
  rw [List.length_append,List.length_append,List.length_zipWith,List.length_zipWith,R.fm.len];rfl
 ·rcases slIn_at e with ⟨a1,a2,a3,a4⟩|⟨a1,a2⟩<;>rcases slIn_at e' with ⟨b1,b2,b3,b4⟩|⟨b1,b2⟩
  ·exact R.fm.nd _ _ _ a1 b1
  ·rcases C.var with q|q<;>(rw [←b2,a4] at q;cases q)
  ·rcases C.var with q|q<;>(rw [←a2,b4] at q;cases q)
  ·rw [a1,b1]
 ·obtain ⟨k,h1,h2⟩:=own_of hn
  have e1:=vz C.nd h1
  have e2:sv.names.lookup n=some .local∨sv.names.lookup n=some .cell:=by rcases h2 with rfl|rfl;exact .inl e1;exact .inr e1
  show (relabel sv env).names.lookup n=_∨(relabel sv env).names.lookup n=_
  rw [relabel_own e2];exact e2
 ·rcases cm (mem_of_lookup e) with ⟨_,q⟩|⟨_,q,_⟩
  ·exact R.fm.celH _ _ q
  ·exact (freshB _ (by exact Nat.le_of_lt ‹_›)).2
 ·rcases cm (mem_of_lookup e) with ⟨_,q⟩|⟨_,q,⟨o,ho,_⟩⟩
  ·obtain ⟨o,ho⟩:=R.fm.celA _ _ q;exact ⟨o,hk _ _ ho⟩
  ·exact ⟨o,ho⟩
 ·obtain ⟨k,h1,h2⟩:=own_of hn
  rcases cm (mem_of_lookup e) with ⟨q,_⟩|⟨_,q,_⟩
  ·have:=two q h1;subst this;rcases h2 with h2|h2<;>cases h2
  ·exact (freshB _ (by exact Nat.le_of_lt ‹_›)).1
 ·obtain ⟨k,h1,h2⟩:=own_of hn
  have hc':kd sv n= .cel:=kd_relabel.symm.trans hc
  have hcell:(n,NameKind.cell)∈sv.names:=by
   rcases h2 with rfl|rfl
   ·rw [kd_loc.mpr (vz C.nd h1)] at hc';cases hc'
   ·exact h1
  obtain ⟨a,ha⟩:=Option.isSome_iff_exists.mp (cellsFrom_has (n:=s.heap.objs.size+1) (acc:=vy env sv.names []) hcell)
  rcases cm (mem_of_lookup ha) with ⟨q,_⟩|⟨_,_,q⟩
  ·have:=two q hcell;cases this
  ·exact ⟨a,none,ha,q⟩
 ·rcases slIn_at e with ⟨a1,a2,a3,a4⟩|⟨a1,a2⟩
  ·have hm:=mskd_at R.fm.len e' a2 a3
   have r:=R.fm.read i n x a1 hm hx
   have hkd:kd env.scope n= .cel:=by rw [hsc];exact C.free n (lookup_mem a4)
   refine nn fun hC=>?_
   induction r with
   |loc e'=>rw [hkd] at e';cases e'
   |cel e' a y r1 r2 r3=>
   refine hC ?_
   have:kd (compEnvC sv (cellsFrom (s.heap.objs.size+1) sv.names (vy env sv.names [])) s.heap.objs.size env).scope n= .cel:=kd_relabel.trans (kd_cel.mpr (.inr a4))
   obtain ⟨o,ho,hd⟩:=r2
   exact .cel this a y (free_look (lookup_mem a4) r1) ⟨o,hk _ _ ho,hd⟩ r3
  ·exfalso
   apply hx
   unfold mskd at e'
   have hll:(List.zipWith (fun v b=>if b=true then v else V.un) m (wm sv sl)).length=sl.length:=by
    rw [List.length_zipWith];unfold wm;rw [List.length_map,R.fm.len];exact Nat.min_self _
   rw [List.getElem?_append_right (by rw [hll,a1];exact Nat.le_refl _),hll,a1,Nat.sub_self] at e'
   simpa using e'.symm
end
end Mine
end
section
open PySem PySem.W PyProof.Rows
set_option tactic.hygienic false
namespace Mine
noncomputable def tailL(elt:PySem.Expr)(gens:List Comprehension)(scope:Scope)(pos:Pos)(d:Nat)(acc:Value)(env:Env):Sem Unit:=match gens[d+1]? with
 |some g'=>do
  let x ←eval g'.iter env
  standAt g'.iter.pos
  let x ←foldedSetIterable g'.iter env x
  let _ ←runOwn (.compStart (.ListComp elt gens scope pos) (d+1) (←holding [x] (pyIter x)) acc env) env
 |none=>do let _ ←call (.builtin "list.append") [acc,←eval elt env]
noncomputable def tailD(k v:PySem.Expr)(d:Addr)(env:Env):Sem Unit:=do
 let kv ←eval k env
 let vv ←holding [kv] (eval v env)
 standAt {k.pos with endLine:=v.pos.endLine,endCol:=v.pos.endCol}
 holding [kv,vv] (dictSet d kv vv)
noncomputable abbrev testsOf(ifs:List PySem.Expr)(env:Env):Sem Bool:=forIn ifs true fun c r=>if r=true then do let ok ←isTrue c env (eval c env);pure (ForInStep.yield ok) else pure (ForInStep.yield r)
noncomputable def turnOf(e:PySem.Expr)(target iter:PySem.Expr)(ifs:List PySem.Expr)(tail:Sem Unit)(d:Nat)(it acc:Value)(env:Env):Sem Fin:=
 standAt iter.pos>>=fun _=>pyNext it>>=fun r=>match r with
  |none=>pure (.done .next)
  |some v=>letOwnedTupleGo target it v>>=fun _=>assign target env v>>=fun _=>testsOf ifs env>>=fun ok=>
    if ok=true then tail>>=fun _=>again (.compLoop e d it acc env) else again (.compLoop e d it acc env)
theorem compTurn_gen{elt:PySem.Expr}{gens:List Comprehension}{scope:Scope}{pos:Pos}{d:Nat}{it acc:Value}{env:Env}{target iter:PySem.Expr}{ifs:List PySem.Expr}(hg:gens[d]?=some ⟨target,iter,ifs,0⟩)
  (ha:∀g∈gens,g.is_async=0):
  compTurn (.ListComp elt gens scope pos) d it acc env=turnOf (.ListComp elt gens scope pos) target iter ifs (tailL elt gens scope pos d acc env) d it acc env:=by
 unfold compTurn turnOf tailL testsOf
 simp only [hg]
 generalize h:gens[d+1]?=zq;induction zq with
 |none=>rfl
 |some g=>
  have h0:g.is_async=0:=ha g (List.mem_of_getElem? h)
  simp only [bind_assoc,pure_bind,h0,bne_self_eq_false,Bool.false_eq_true,if_false]
  rfl
theorem compTurn_dct{k v:PySem.Expr}{scope:Scope}{pos:Pos}{it:Value}{D:Addr}{env:Env}{target iter:PySem.Expr}{ifs:List PySem.Expr}:
  compTurn (.DictComp k v [⟨target,iter,ifs,0⟩] scope pos) 0 it (.ref D) env=turnOf (.DictComp k v [⟨target,iter,ifs,0⟩] scope pos) target iter ifs (tailD k v D env) 0 it (.ref D) env:=by
 rfl
section
variable{c:Cx}{B:Bs}{env:Env}{own:List Str}{sl:Sl}{m:List V}{H:AH}{s:Shared}{A:Around}{E:Value→Shared→Prop}
theorem set_last{m:List V}{x0 x:V}{n:Nat}(h:m.length=n):(m++[x0]).set n x=m++[x]:=by
 subst h
 rw [List.set_append_right _ _ (Nat.le_refl _),Nat.sub_self];rfl
theorem comp_loop{α:Type}(mk:α→O){e:PySem.Expr}{d:Nat}{D I:Addr}{v:Str}{pv:Pos}{iter:PySem.Expr}{ifs:List PySem.Expr}{tail:Sem Unit}{items:List V}{chk:AH→Prop}{St:Nat→Heap→Prop}
  (ht:compTurn e d (.ref I) (.ref D) env=turnOf e (.Name v pv) iter ifs tail d (.ref I) (.ref D) env)
  (hu:A.under (.compLoop e d (.ref I) (.ref D) env)=A) (hden:(model c.prog c.w).den (.compLoop e d (.ref I) (.ref D) env)=((compTurn e d (.ref I) (.ref D) env).onRaise (fun x=>do noteFrame x env;theTreesLotGoes x)))
  (it:Iter c A I items chk St) (ho:v∈own) (hDI:D≠I)
  {body:V→AH→α→(α→AH→Prop)→Prop} {Q:α→AH→Prop}
  (hbody:∀(x:V) (B':Bs) (acc:α) (H:AH) (s:Shared) (Q:α→AH→Prop),Rep c B' env own (sl++[some v]) (m++[x]) H s→Real c.prog c.w c.C s.heap D (mk acc)→Out B' env H D→body x H acc Q→
   wpAny (model c.prog c.w) A (testsOf ifs env) (fun ok s₁=>wpAny (model c.prog c.w) A (if ok=true then tail else pure ())
    (fun _ s'=>Ex2 fun H' acc'=>An4 (Rep c B' env own (sl++[some v]) (m++[x]) H' s') (Real c.prog c.w c.C s'.heap D (mk acc')) (Out B' env H' D) (Q acc' H')) (fun _ _=>False) s₁) (fun _ _=>False) s):
  ∀(n i:Nat) (H:AH) (acc:α) (s:Shared) (x0:V),n=items.length-i→i≤items.length→Rep c B env own (sl++[some v]) (m++[x0]) H s→St i s.heap→Out B env H I→(∃o,s.heap.get? I=some o)→Out B env H D→
   Real c.prog c.w c.C s.heap D (mk acc)→cloop chk body (items.drop i) H acc Q→
   codeAny (model c.prog c.w) A (.compLoop e d (.ref I) (.ref D) env) (fun r s'=>r= .ok .next∧Ex3 fun H' acc' x'=>An5 (Rep c B env own (sl++[some v]) (m++[x']) H' s') (chk H') (Real c.prog c.w c.C s'.heap D (mk acc')) (Out B env H' D) (Q acc' H')) s:=by
 intro n i H acc s x0 hn hi R st oI aI oD rD hl
 refine codeAny_loop rfl (fun n s=>Ex4 fun i H acc x0=>An9 (n=items.length-i) (i≤items.length) (Rep c B env own (sl++[some v]) (m++[x0]) H s) (St i s.heap) (Out B env H I) ((∃o,s.heap.get? I=some o)) (Out B env H D) (Real c.prog c.w c.C s.heap D (mk acc)) (cloop chk body (items.drop i) H acc Q)) ?_ n ⟨i,H,acc,x0,hn,hi,R,st,oI,aI,oD,rD,hl⟩
 clear hn hi R st oI aI oD rD hl n i H acc s x0
 rintro n s ⟨i,H,acc,x0,rfl,hi,R,st,oI,⟨w0,aI⟩,oD,rD,hl⟩
 rw [hu,hden]
 refine wpAny_noted ?_
 rw [ht]
 unfold turnOf
 refine wpAny_bind (wpAny_standAt (wpAny_bind ?_))
 have hlen:m.length=sl.length:=by have:=R.fm.len;simpa using this
 generalize hx:items[i]?=zq;induction zq with
 |none=>
  have hle:items.length≤i:=by simpa using hx
  obtain rfl:i=items.length:=Nat.le_antisymm hi hle
  rw [List.drop_length] at hl
  refine it.done st R.hp hl.1 fun h' tk he=>wpAny_pure ⟨rfl,H,acc,x0,R.away oI he,hl.1,?_,oD,hl.2⟩
  obtain ⟨o,ho⟩:=rD.get
  exact rD.congr ((he D o hDI ho).trans ho.symm)
 |some x=>
  obtain ⟨hlt,hxe⟩:=List.getElem?_eq_some_iff.mp hx
  rw [List.drop_eq_getElem_cons hlt,hxe] at hl
  refine it.item hx st R.hp hl.1 fun y h' tk hy st' hs=>?_
  have R1:=R.away (t:=tk) oI hs.extBut
  have rD1:Real c.prog c.w c.C h' D (mk acc):=rD.congr (hs.2 D hDI)
  have aI1:=it.live st'
  dsimp only
  refine wpAny_bind (wpAny_of_eq (show letOwnedTupleGo (.Name v pv) (.ref I) y=pure () from rfl) (wpAny_bind ?_))
  rw [arm_assign_Name]
  have hold1:∀a∈[I,D],Out B env H a:=allC oI (allC oD allN)
  refine wpAny_bind (wpAny_standAt ?_)
  refine store_at (i:=sl.length) (R1.hold hold1) (by simp) ho fun s2 R2'=>?_
  obtain ⟨R2,k2⟩:=R1.unhold R2' hold1
  rw [set_last hlen,hy] at R2
  refine nn fun hC=>?_
  obtain ⟨w1,aI1⟩:=aI1
  obtain ⟨aI2,oI2⟩:=k2 I (.head _) _ aI1
  obtain ⟨wD,aD1⟩:=rD1.get
  obtain ⟨aD2,oD2⟩:=k2 D (.tail _ (.head _)) _ aD1
  refine hC ?_
  have rD2:Real c.prog c.w c.C s2.heap D (mk acc):=rD1.congr (aD2.trans aD1.symm)
  have st2:St (i+1) s2.heap:=it.frame st' (aI2.trans aI1.symm)
  have hold2:∀a∈[I],Out B env H a:=allC oI2 allN
  have oD2':Out (Mine.hold B s2.heap [I]) env H D:=⟨by unfold Mine.hold;rw [if_neg (by simpa using hDI)];exact oD2.b,oD2.h,oD2.l,oD2.c⟩
  have fin:∀s',(Ex2 fun H' acc'=>An4 (Rep c (Mine.hold B s2.heap [I]) env own (sl++[some v]) (m++[x]) H' s') (Real c.prog c.w c.C s'.heap D (mk acc')) (Out (Mine.hold B s2.heap [I]) env H' D) (cloop chk body (items.drop (i+1)) H' acc' Q))→
    ∃m',m'<items.length-i∧Ex4 fun i H acc x0=>An9 (m'=items.length-i) (i≤items.length) (Rep c B env own (sl++[some v]) (m++[x0]) H s') (St i s'.heap) (Out B env H I) ((∃o,s'.heap.get? I=some o)) (Out B env H D) (Real c.prog c.w c.C s'.heap D (mk acc)) (cloop chk body (items.drop i) H acc Q):=by
   rintro s' ⟨H',acc',R3,rD3,oD3,q⟩
   obtain ⟨R4,k4⟩:=R2.unhold R3 hold2
   obtain ⟨aI4,oI4⟩:=k4 I (.head _) _ aI2
   exact ⟨items.length-(i+1),sub_s hlt,i+1,H',acc',x,rfl,hlt,R4,it.frame st2 (aI4.trans aI2.symm),oI4,⟨_,aI4⟩,⟨oD2.b,oD3.h,oD2.l,oD2.c⟩,rD3,q⟩
  refine wpAny_bind (wpAny_mono (hbody x _ acc H s2 _ (R2.hold hold2) rD2 oD2' hl.2) (fun ok s3 h3=>?_) fun _ _ f=>f.elim)
  induction ok with
  |true=>
   simp only [if_true] at h3⊢
   exact wpAny_bind (wpAny_mono h3 (fun _ s4 h4=>wpAny_pure ⟨rfl,fin s4 h4⟩) fun _ _ f=>f.elim)
  |false=>
   simp only [Bool.false_eq_true,if_false] at h3⊢
   show wpAny _ _ ((pure ():Sem Unit)>>=fun _=>again (.compLoop e d (.ref I) (.ref D) env)) _ _ s3
   exact wpAny_bind (wpAny_mono h3 (fun _ s4 h4=>wpAny_pure ⟨rfl,fin s4 h4⟩) fun _ _ f=>f.elim)
end
section
variable{c:Cx}{B:Bs}{env:Env}{own:List Str}{sl:Sl}{m:List V}{H:AH}{s:Shared}{A:Around}{E:Value→Shared→Prop}{sp:Sp}
noncomputable abbrev EvR(c:Cx)(A:Around)(sp:Sp)(sc:Scope)(sl:Sl)(e:PySem.Expr)(x:X):Prop:=
 ∀⦃B:Bs⦄ ⦃env:Env⦄ ⦃own:List Str⦄ ⦃m:List V⦄ ⦃H:AH⦄ ⦃s:Shared⦄ ⦃Q:V→AH→Prop⦄ ⦃E:Value→Shared→Prop⦄,(∀n,kd env.scope n=kd sc n)→Rep c B env own sl m H s→x.ev sp m H Q→
  wpAny (model c.prog c.w) A (eval e env) (PE c B env own sl m Q) E s
noncomputable abbrev CoR(c:Cx)(A:Around)(sp:Sp)(sc:Scope)(sl:Sl)(e:PySem.Expr)(x:X):Prop:=
 ∀⦃B:Bs⦄ ⦃env:Env⦄ ⦃own:List Str⦄ ⦃m:List V⦄ ⦃H:AH⦄ ⦃s:Shared⦄ ⦃Q:V→AH→Prop⦄ ⦃E:Value→Shared→Prop⦄,(∀n,kd env.scope n=kd sc n)→(∀v H,Q v H→∃b,v= .bool b)→Rep c B env own sl m H s→x.ev sp m H Q→
  wpAny (model c.prog c.w) A (isTrue e env (eval e env)) (fun b s'=>∃H',Rep c B env own sl m H' s'∧Q (.bool b) H') E s
noncomputable abbrev ItR(c:Cx)(A:Around)(sp:Sp)(sc:Scope)(sl:Sl)(e:PySem.Expr)(x:X):Prop:=
 ∀⦃B:Bs⦄ ⦃env:Env⦄ ⦃own:List Str⦄ ⦃m:List V⦄ ⦃H:AH⦄ ⦃s:Shared⦄ ⦃K:List V→(AH→Prop)→(AH→AH)→AH→Prop⦄ ⦃E:Value→Shared→Prop⦄,(∀n,kd env.scope n=kd sc n)→Rep c B env own sl m H s→X.iw sp x m H K→
  wpAny (model c.prog c.w) A (eval e env) (fun v s₁=>wpAny (model c.prog c.w) A (pyIter v) (PI c A B env own sl m K) E s₁) E s
noncomputable abbrev IfsR(c:Cx)(A:Around)(sp:Sp)(sc:Scope)(sl:Sl)(ifs:List PySem.Expr)(x:X):Prop:=
 ∀⦃B:Bs⦄ ⦃env:Env⦄ ⦃own:List Str⦄ ⦃m:List V⦄ ⦃H:AH⦄ ⦃s:Shared⦄ ⦃Q:V→AH→Prop⦄ ⦃E:Value→Shared→Prop⦄,(∀n,kd env.scope n=kd sc n)→(∀v H,Q v H→∃b,v= .bool b)→Rep c B env own sl m H s→x.ev sp m H Q→
  wpAny (model c.prog c.w) A (testsOf ifs env) (fun b s'=>∃H',Rep c B env own sl m H' s'∧Q (.bool b) H') E s
noncomputable abbrev CwR(c:Cx)(A:Around)(sp:Sp)(sc:Scope)(sl:Sl)(gens:List Comprehension)(d:Nat)(elt:PySem.Expr)(scope:Scope)(pos:Pos)(b:X):Prop:=
 ∀⦃B:Bs⦄ ⦃env:Env⦄ ⦃own:List Str⦄ ⦃m:List V⦄ ⦃H:AH⦄ ⦃s:Shared⦄ ⦃D:Addr⦄ ⦃acc:List V⦄ ⦃Q:List V→AH→Prop⦄,(∀n,kd env.scope n=kd sc n)→(∀n,varOK sc n=true→n∈own)→Rep c B env own sl m H s→
  Real c.prog c.w c.C s.heap D (.lst acc)→Out B env H D→X.cw sp b m H acc Q→
  wpAny (model c.prog c.w) A (tailL elt gens scope pos d (.ref D) env) (fun _ s'=>Ex2 fun H' acc'=>An4 (Rep c B env own sl m H' s') (Real c.prog c.w c.C s'.heap D (.lst acc')) (Out B env H' D) (Q acc' H')) (fun _ _=>False) s
theorem out_hold{as:List Addr}{h:Heap}{a:Addr}(o:Out (Mine.hold B h as) env H a)(al:∀d∈as,∃x,h.get? d=some x):a∉as∧Out B env H a:=by
 have hb:=o.b
 unfold Mine.hold at hb
 split at hb
 ·rename_i q;obtain ⟨x,hx⟩:=al a q;rw [hb] at hx;cases hx
 ·rename_i q;exact ⟨q,hb,o.h,o.l,o.c⟩
theorem Rep.take(R:Rep c B env own sl m H s){a:Addr}{x:O}(o:Out B env H a)(hx:Real c.prog c.w c.C s.heap a x):Rep c B env own sl m (H.set a x) s:=by
 refine ⟨⟨R.hp.gens,R.hp.base,R.hp.keep,fun b y e=>?_,fun b y e=>?_⟩,R.fm.keep rfl (fun _ _ _=>rfl) ?_ fun n d e=>?_⟩
 ·unfold AH.set at e
  by_cases q:b=a
  ·subst q;rw [if_pos rfl] at e;cases e;exact hx
  ·rw [if_neg q] at e;exact R.hp.real _ _ e
 ·unfold AH.set at e
  by_cases q:b=a
  ·subst q;exact o.b
  ·rw [if_neg q] at e;exact R.hp.apart _ _ e
 ·show AH.set H a x env.locals=none
  unfold AH.set;rw [if_neg (Ne.symm o.l)];exact R.fm.locH
 ·show AH.set H a x d=none
  unfold AH.set;rw [if_neg (o.c n d e)];exact R.fm.celH n d e
theorem Rep.thawed(R:Rep c B env own sl m H s){chk:AH→Prop}{thaw:AH→AH}(T:Thaw c chk thaw)(k:chk H):Rep c B env own sl m (thaw H) s:=R.back (T.1 _ _ _ R.hp.whole k)
theorem Rep.snoc(R:Rep c B env own sl m H s){v:Str}(hv:sl.contains (some v)=false):Rep c B env own (sl++[some v]) (m++[.un]) H s:=by
 have nv:∀i:Nat,sl[i]?≠some (some v):=fun i e=>by
  have:(some v)∈sl:=List.mem_of_getElem? e
  rw [←List.elem_iff] at this
  exact absurd (show sl.contains (some v)=true from this) (by rw [hv];exact Bool.false_ne_true)
 have at':∀{i:Nat} {n:Str},(sl++[some v])[i]?=some (some n)→(i<sl.length∧sl[i]?=some (some n))∨(i=sl.length∧n=v):=fun {i n} e=>by
  rw [List.getElem?_append] at e
  split at e
  ·rename_i q;exact .inl ⟨q,e⟩
  ·rename_i q
   have hz:i-sl.length=0:=by
    rcases Nat.eq_zero_or_pos (i-sl.length) with z|z
    ·exact z
    ·rw [List.getElem?_eq_none (show ([some v]:Sl).length≤i-sl.length from z)] at e;cases e
   rw [hz] at e
   simp only [List.getElem?_cons_zero,Option.some.injEq] at e
   exact .inr ⟨by exact Nat.le_antisymm (Nat.le_of_sub_eq_zero ‹_›) (Nat.not_lt.mp ‹_›),e.symm⟩
 have F:=R.fm
 refine ⟨R.hp,⟨F.eok,by rw [List.length_append,List.length_append,F.len];rfl,fun i j n e e'=>?_,F.ownK,F.ns,F.locB,F.locH,F.celH,F.celA,F.celB,F.cell,fun i n x e e' hx=>?_⟩⟩
 ·rcases at' e with ⟨a1,a2⟩|⟨a1,a2⟩<;>rcases at' e' with ⟨b1,b2⟩|⟨b1,b2⟩
  ·exact F.nd _ _ _ a2 b2
  ·subst b2;exact absurd a2 (nv _)
  ·subst a2;exact absurd b2 (nv _)
  ·rw [a1,b1]
 ·rcases at' e with ⟨a1,a2⟩|⟨a1,a2⟩
  ·rw [List.getElem?_append_left (by rw [F.len];exact a1)] at e'
   exact F.read i n x a2 e' hx
  ·rw [List.getElem?_append_right (by rw [F.len,a1];exact Nat.le_refl _),F.len,a1,Nat.sub_self] at e'
   exact absurd (by simpa using e'.symm) hx
theorem Rep.init{o:Option Str}{x:V}(R:Rep c B env own (sl++[o]) (m++[x]) H s):Rep c B env own sl m H s:=by
 have F:=R.fm
 have hl:m.length=sl.length:=by have:=F.len;simpa using this
 have up:∀{i:Nat} {n:Str},sl[i]?=some (some n)→(sl++[o])[i]?=some (some n):=fun {i n} e=>by
  obtain ⟨h,_⟩:=List.getElem?_eq_some_iff.mp e
  rw [List.getElem?_append_left h];exact e
 refine ⟨R.hp,⟨F.eok,hl,fun i j n e e'=>F.nd i j n (up e) (up e'),F.ownK,F.ns,F.locB,F.locH,F.celH,F.celA,F.celB,F.cell,fun i n x e e' hx=>F.read i n x (up e) ?_ hx⟩⟩
 obtain ⟨h,_⟩:=List.getElem?_eq_some_iff.mp e'
 rw [List.getElem?_append_left h];exact e'
noncomputable def less(B:Bs)(as:List Addr):Bs:=fun b=>if b∈as then none else B b
theorem Rep.backL(R:Rep c B env own sl m H s){as:List Addr}{H':AH}{s':Shared}(o:∀a∈as,Out B env H a)(R':Hp c (less (wz s.heap H) as) H' s'):Rep c B env own sl m H' s':=by
 have inB:∀b x,b∉as→H b=none→s.heap.get? b=some x→less (wz s.heap H) as b=some x:=fun b x h1 h2 e=>by
  unfold less wz;rw [if_neg h1,h2];exact e
 have kp:∀a x,a∉as→H a=none→s.heap.get? a=some x→s'.heap.get? a=some x∧H' a=none:=fun a x h1 e h=>by
  have hb:=inB a x h1 e h
  refine ⟨R'.keep _ _ hb,?_⟩
  generalize q:H' a=zq;induction zq with
  |none=>rfl
  |some y=>have:=R'.apart _ _ q;rw [hb] at this;cases this
 have bk:∀b x,B b=some x→b∉as∧H b=none:=fun b x e=>by
  refine ⟨fun q=>(by have z:=(o b q).b;rw [e] at z;cases z),?_⟩
  generalize q:H b=zq;induction zq with
  |none=>rfl
  |some y=>have:=R.hp.apart _ _ q;rw [e] at this;cases this
 obtain ⟨oL,hL⟩:=R.fm.alive
 have lL:env.locals∉as:=fun q=>(o _ q).l rfl
 have kL:=kp _ _ lL R.fm.locH hL
 have cL:∀n d,env.cells.lookup n=some d→d∉as:=fun n d e q=>(o _ q).c n d e rfl
 refine ⟨⟨R'.gens,R.hp.base,fun b x e=>R'.keep _ _ (inB b x (bk b x e).1 (bk b x e).2 (R.hp.keep _ _ e)),R'.real,fun a x e=>?_⟩,R.fm.keep (kL.1.trans hL.symm) (fun n d e=>?_) kL.2 fun n d e=>?_⟩
 ·generalize q:B a=zq;induction zq with
  |none=>rfl
  |some y=>have:=R'.apart _ _ e;rw [inB a y (bk a y q).1 (bk a y q).2 (R.hp.keep _ _ q)] at this;cases this
 ·obtain ⟨x,h⟩:=R.fm.celA n d e
  exact (kp _ _ (cL n d e) (R.fm.celH n d e) h).1.trans h.symm
 ·obtain ⟨x,h⟩:=R.fm.celA n d e
  exact (kp _ _ (cL n d e) (R.fm.celH n d e) h).2
theorem body_ok{α:Type}(mk:α→O){sc:Scope}{ifs:List PySem.Expr}{cond:X}{D:Addr}{tail:Sem Unit}{W:AH→α→(α→AH→Prop)→Prop}{acc:α}{Q:α→AH→Prop}(hifs:IfsR c A sp sc sl ifs cond)(hsc:∀n,kd env.scope n=kd sc n)
  (htail:∀H acc s Q,Rep c B env own sl m H s→Real c.prog c.w c.C s.heap D (mk acc)→Out B env H D→W H acc Q→
   wpAny (model c.prog c.w) A tail (fun _ s'=>Ex2 fun H' acc'=>An4 (Rep c B env own sl m H' s') (Real c.prog c.w c.C s'.heap D (mk acc')) (Out B env H' D) (Q acc' H')) (fun _ _=>False) s)
  (R:Rep c B env own sl m H s) (rD:Real c.prog c.w c.C s.heap D (mk acc)) (oD:Out B env H D) (h:cond.ev sp m H fun v H=>ifB v (W H acc Q) (Q acc H)):
  wpAny (model c.prog c.w) A (testsOf ifs env) (fun ok s₁=>wpAny (model c.prog c.w) A (if ok=true then tail else pure ())
    (fun _ s'=>Ex2 fun H' acc'=>An4 (Rep c B env own sl m H' s') (Real c.prog c.w c.C s'.heap D (mk acc')) (Out B env H' D) (Q acc' H')) (fun _ _=>False) s₁) (fun _ _=>False) s:=by
 have ho:∀a∈[D],Out B env H a:=allC oD allN
 refine wpAny_mono (hifs (E:=fun _ _=>False) hsc (fun v H h=>ifB_b h) (R.hold ho) h) (fun ok s1 h1=>?_) fun _ _ f=>f.elim
 refine nn fun hC=>?_
 obtain ⟨H1,R1,q⟩:=h1
 obtain ⟨R2,k2⟩:=R.unhold R1 ho
 obtain ⟨wD,aD⟩:=rD.get
 obtain ⟨aD2,oD2⟩:=k2 D (by simp) _ aD
 refine hC ?_
 have rD2:Real c.prog c.w c.C s1.heap D (mk acc):=rD.congr (aD2.trans aD.symm)
 induction ok with
 |true=>exact htail _ _ _ _ R2 rD2 oD2 q
 |false=>exact wpAny_pure ⟨H1,acc,R2,rD2,oD2,q⟩
theorem ifs_nil{sc:Scope}:IfsR c A sp sc sl [] (.c (.bool true)):=fun _ _ _ _ _ _ _ _ hsc _ R h=>wpAny_pure ⟨_,R,h⟩
theorem ifs_one{sc:Scope}{e:PySem.Expr}{x:X}(h:CoR c A sp sc sl e x):IfsR c A sp sc sl [e] x:=fun _ _ _ _ _ _ _ _ hsc hb R q=>by
 unfold testsOf
 simp only [List.forIn_cons,List.forIn_nil,if_true]
 exact wpAny_bind (wpAny_bind (wpAny_mono (h hsc hb R q) (fun b s' hb=>wpAny_pure (wpAny_pure hb)) fun _ _ x=>x))
theorem compStart_L{elt:PySem.Expr}{gens:List Comprehension}{scope:Scope}{pos:Pos}{d:Nat}{I:Addr}{acc:Value}{R:Result→Shared→Prop}{g:Comprehension}(hg:gens[d]?=some g)(ha:g.is_async=0)
  (h0:codeAny (model c.prog c.w) A (.compLoop (.ListComp elt gens scope pos) d (.ref I) acc env) R s)
  (hs:∀(Q:Value→Shared→Prop) (E:Value→Shared→Prop),Q (.ref I) s→wpAny (model c.prog c.w) A (pyIter (.ref I)) Q E s):codeAny (model c.prog c.w) A (.compStart (.ListComp elt gens scope pos) d (.ref I) acc env) R s:=by
 refine codeAny_of_tree ?_
 show wpAny _ A ((compStart (.ListComp elt gens scope pos) d (.ref I) acc env).onRaise (fun x=>do noteFrame x env;standAt theWindowsPlace)) _ _ s
 refine wpAny_notedAt ?_
 unfold compStart
 have e2:(clausesOf (.ListComp elt gens scope pos))[d]?=some g:=hg
 simp only [e2,Option.elim_some,ha,bne_self_eq_false,Bool.false_eq_true,if_false]
 show wpAny _ _ (ask>>=_) _ _ s
 refine wpAny_bind (wpAny_askSetting (wpAny_ite ?_))
 split
 ·exact wpAny_pure (And.intro rfl h0)
 ·refine wpAny_bind (wpAny_rule ?_)
  exact wpAny_bind (wpAny_standAt (wpAny_bind (hs _ _ (wpAny_pure (And.intro rfl h0)))))
theorem compStart_D{k x:PySem.Expr}{t iter:PySem.Expr}{ifs:List PySem.Expr}{scope:Scope}{pos:Pos}{I:Addr}{acc:Value}{R:Result→Shared→Prop}
  (h0:codeAny (model c.prog c.w) A (.compLoop (.DictComp k x [⟨t,iter,ifs,0⟩] scope pos) 0 (.ref I) acc env) R s)
  (hs:∀(Q:Value→Shared→Prop) (E:Value→Shared→Prop),Q (.ref I) s→wpAny (model c.prog c.w) A (pyIter (.ref I)) Q E s):codeAny (model c.prog c.w) A (.compStart (.DictComp k x [⟨t,iter,ifs,0⟩] scope pos) 0 (.ref I) acc env) R s:=
 codeAny_compStart_dict h0 (hs _ _ h0)
end
section
variable{c:Cx}{B:Bs}{env:Env}{own:List Str}{sl:Sl}{m:List V}{H:AH}{s:Shared}{A:Around}{E:Value→Shared→Prop}{sp:Sp}
theorem under_L{elt:PySem.Expr}{gens:List Comprehension}{scope:Scope}{pos:Pos}{d:Nat}{it acc:Value}{A:Around}:A.under (.compLoop (.ListComp elt gens scope pos) d it acc env)=A:=rfl
theorem under_D{k x:PySem.Expr}{gens:List Comprehension}{scope:Scope}{pos:Pos}{d:Nat}{it acc:Value}{A:Around}:A.under (.compLoop (.DictComp k x gens scope pos) d it acc env)=A:=rfl
theorem mark_none{A:Around}:A.mark none=A:=rfl
theorem append_ok{D:Addr}{acc:List V}{v:Value}{Q:Unit→Shared→Prop}(R:Rep c B env own sl m H s)(rD:Real c.prog c.w c.C s.heap D (.lst acc))(oD:Out B env H D)(hl:acc.length<sz)
  (q:∀s',Rep c B env own sl m H s'→Real c.prog c.w c.C s'.heap D (.lst (acc++[av v]))→Q () s'):
  wpAny (model c.prog c.w) A (do let _ ←call (.builtin "list.append") [.ref D,v]) Q E s:=by
 refine nn fun hC=>?_
 obtain ⟨xs,p,e1,e2⟩:=rD
 refine hC ?_
 have hsz:=map_av e1
 refine wpAny_bind (wpAny_list_append_plain p (fun h' p' hs=>wpAny_pure (q _ (R.away (t:=s.toks) oD hs.extBut) ?_)) (wx (by lia)))
 exact ⟨_,p',by rw [Array.toList_push,List.map_append,e1];rfl,by simp;assumption⟩
theorem cw_emit{sc:Scope}{gens:List Comprehension}{d:Nat}{elt:PySem.Expr}{scope:Scope}{pos:Pos}{x:X}(hg:gens[d+1]?=none)(h:EvR c A sp sc sl elt x):CwR c A sp sc sl gens d elt scope pos (.emit x):=by
 intro B env own m H s D acc Q hsc hov R rD oD q
 unfold tailL
 rw [hg]
 have ho:∀a∈[D],Out B env H a:=allC oD allN
 refine wpAny_bind (wpAny_mono (h (E:=fun _ _=>False) hsc (R.hold ho) q) (fun y s1 h1=>?_) fun _ _ f=>f.elim)
 refine nn fun hC=>?_
 obtain ⟨H1,R1,hl,q1⟩:=h1
 obtain ⟨R2,k2⟩:=R.unhold R1 ho
 obtain ⟨wD,aD⟩:=rD.get
 obtain ⟨aD2,oD2⟩:=k2 D (by simp) _ aD
 refine hC ?_
 exact append_ok R2 (rD.congr (aD2.trans aD.symm)) oD2 hl fun s' R3 rD3=>⟨H1,_,R3,rD3,oD2,q1⟩
theorem cw_for{sc:Scope}{gens:List Comprehension}{d:Nat}{elt:PySem.Expr}{scope:Scope}{pos:Pos}{v:Str}{pv:Pos}{iter:PySem.Expr}{ifs:List PySem.Expr}{it cond b:X}(hg:gens[d+1]?=some ⟨.Name v pv,iter,ifs,0⟩)(ha:∀g∈gens,g.is_async=0)
  (hf:∀env x,foldedSetIterable iter env x=pure x) (hv:varOK sc v=true) (hn:sl.contains (some v)=false)
  (hit:ItR c A sp sc sl iter it) (hifs:IfsR c A sp sc (sl++[some v]) ifs cond) (hb:CwR c A sp sc (sl++[some v]) gens (d+1) elt scope pos b):CwR c A sp sc sl gens d elt scope pos (.cfor it cond b):=by
 intro B env own m H s D acc Q hsc hov R rD oD q
 have ho:∀a∈[D],Out B env H a:=allC oD allN
 obtain ⟨wD,aD⟩:=rD.get
 have e:tailL elt gens scope pos d (.ref D) env=(do
  let x ←eval iter env
  standAt iter.pos
  let x ←foldedSetIterable iter env x
  let _ ←runOwn (.compStart (.ListComp elt gens scope pos) (d+1) (←holding [x] (pyIter x)) (.ref D) env) env):=by
  unfold tailL;rw [hg]
 rw [e]
 refine wpAny_bind (wpAny_mono (hit (E:=fun _ _=>False) hsc (R.hold ho) q) (fun x s1 h1=>?_) fun _ _ f=>f.elim)
 refine wpAny_bind (wpAny_standAt (wpAny_bind (wpAny_of_eq (hf env x) (wpAny_bind (wpAny_holding (wpAny_mono h1 (fun y s2 h2=>?_) fun _ _ f=>f.elim))))))
 refine nn fun hC=>?_
 obtain ⟨I,items,chk,thaw,H2,St,rfl,P⟩:=h2
 obtain ⟨R2,k2⟩:=R.unhold P.rep ho
 obtain ⟨aD2,oD2⟩:=k2 D (by simp) _ aD
 refine hC ?_
 have rD2:Real c.prog c.w c.C s2.heap D (.lst acc):=rD.congr (aD2.trans aD.symm)
 obtain ⟨hID,oI⟩:=out_hold P.out (allC ⟨_,aD⟩ allN)
 have hDI:D≠I:=fun e=>hID (by rw [e];simp)
 refine wpAny_bind (wpAny_runOwn ?_)
 rw [mark_none]
 refine compStart_L (g:=⟨.Name v pv,iter,ifs,0⟩) hg rfl ?_ fun Q E h=>P.it.self P.st h
 refine codeAny_mono (comp_loop (O.lst) (compTurn_gen hg ha) under_L rfl P.it (hov v hv) hDI (body:=fun x H acc K=>cond.ev sp (m++[x]) H fun v H=>ifB v (X.cw sp b (m++[x]) H acc K) (K acc H)) (Q:=fun acc H=>Q acc (thaw H)) ?_ items.length 0 H2 acc s2 .un rfl (Nat.zero_le _) (R2.snoc hn) P.st oI P.live oD2 rD2 P.k) fun r s3 h3=>?_
 ·intro x B' acc H s Q R rD oD h
  exact body_ok O.lst hifs hsc (fun H acc s Q R rD oD h=>hb hsc hov R rD oD h) R rD oD h
 ·refine nn fun hC=>?_
  obtain ⟨rfl,H3,acc3,x3,R3,ck,rD3,oD3,q3⟩:=h3
  refine hC ?_
  exact wpAny_pure ⟨thaw H3,acc3,R3.init.thawed P.tw ck,rD3,⟨oD3.b,P.tw.2 _ _ ck oD3.h,oD3.l,oD3.c⟩,q3⟩
noncomputable def BlockEnd(c:Cx)(B:Bs)(env:Env)(own:List Str)(sl:Sl)(m:List V)(Q:V→AH→Prop)(acc:Value)(C:Addr)(r:Result)(s':Shared):Prop:=
 Ex2 fun D H'=>An6 (acc= .ref D) (r= .ok .next) ((∃mm,s'.heap.Ns C mm)) (Out B env H' C) (Rep c B env own sl m H' s') (Q (.ref D) H')
theorem comp_block{α:Type}(mk:α→O){acc0:α}{e:PySem.Expr}{sc sv:Scope}{v:Str}{pv:Pos}{iter:PySem.Expr}{ifs:List PySem.Expr}{tail:Addr→Env→Sem Unit}{newAcc:Sem Value}{o:Obj}{cl:List (Str×Addr)}
  {I:Addr} {items:List V} {chk:AH→Prop} {thaw:AH→AH} {St:Nat→Heap→Prop} {K:List V→(AH→Prop)→(AH→AH)→AH→Prop} {Q:V→AH→Prop}
  (C:CompOK sc sv v) (hsc:∀n,kd env.scope n=kd sc n) (hcl:cl=vy env sv.names [])
  (hnew:∀(Q:Value→Shared→Prop) (E:Value→Shared→Prop) (s:Shared),Q (.ref s.heap.objs.size) {s with heap:=s.heap.push o}→wpAny (model c.prog c.w) A newAcc Q E s)
  (hfr:o.isFreed=false) (hreal:∀(h:Heap) (a:Addr),h.get? a=some o→Real c.prog c.w c.C h a (mk acc0))
  (ht:∀I D env,compTurn e 0 (.ref I) (.ref D) env=turnOf e (.Name v pv) iter ifs (tail D env) 0 (.ref I) (.ref D) env)
  (hu:∀I D env,A.under (.compLoop e 0 (.ref I) (.ref D) env)=A)
  (hden:∀I D env,(model c.prog c.w).den (.compLoop e 0 (.ref I) (.ref D) env)=((compTurn e 0 (.ref I) (.ref D) env).onRaise (fun x=>do noteFrame x env;theTreesLotGoes x)))
  (hstart:∀{I:Addr} {acc:Value} {env:Env} {R:Result→Shared→Prop} {s:Shared},codeAny (model c.prog c.w) A (.compLoop e 0 (.ref I) acc env) R s→
   (∀(Q:Value→Shared→Prop) (E:Value→Shared→Prop),Q (.ref I) s→wpAny (model c.prog c.w) A (pyIter (.ref I)) Q E s)→codeAny (model c.prog c.w) A (.compStart e 0 (.ref I) acc env) R s)
  {body:V→AH→α→(α→AH→Prop)→Prop}
  (P:IterPost c A B env own sl m K I items chk thaw H St s)
  (hbody:∀(cells:List (Str×Addr)) (C D:Addr) (x:V) (B':Bs) (acc:α) (H:AH) (s:Shared) (Q:α→AH→Prop),(∀n,kd (compEnvC sv cells C env).scope n=kd sv n)→
   Rep c B' (compEnvC sv cells C env) (vp sv) (slIn sv sl v) (mskd m (wm sv sl)++[x]) H s→Real c.prog c.w c.C s.heap D (mk acc)→Out B' (compEnvC sv cells C env) H D→body x H acc Q→
   wpAny (model c.prog c.w) A (testsOf ifs (compEnvC sv cells C env)) (fun ok s₁=>wpAny (model c.prog c.w) A (if ok=true then tail D (compEnvC sv cells C env) else pure ())
    (fun _ s'=>Ex2 fun H' acc'=>An4 (Rep c B' (compEnvC sv cells C env) (vp sv) (slIn sv sl v) (mskd m (wm sv sl)++[x]) H' s') (Real c.prog c.w c.C s'.heap D (mk acc')) (Out B' (compEnvC sv cells C env) H' D) (Q acc' H')) (fun _ _=>False) s₁) (fun _ _=>False) s)
  (hl:cloop chk body items H acc0 fun acc H=>∀a,thaw H a=none→Q (.ref a) ((thaw H).set a (mk acc))):
  wpAny (model c.prog c.w) A newAcc (fun acc s₃=>wpAny (model c.prog c.w) A (newFunctionEnv sv env.globals cl [] env.qual none .none (some env)) (fun cenv s₄=>
   codeAny (model c.prog c.w) A (.compStart e 0 (.ref I) acc {cenv with scope:=relabel sv env}) (BlockEnd c B env own sl m Q acc cenv.locals) s₄) E s₃) E s:=by
 refine hnew _ _ _ ?_
 obtain ⟨wI,aI⟩:=P.live
 have kp:∀b x,s.heap.get? b=some x→(s.heap.push o).get? b=some x:=fun b x e=>Heap.get?_push_of_some _ e
 have R3:Rep c B env own sl m H {s with heap:=s.heap.push o}:=P.rep.grow (t:=s.toks) kp
 have aD:(s.heap.push o).get? s.heap.objs.size=some o:=Heap.get?_push_size _ hfr
 have oD:Out B env H s.heap.objs.size:=P.rep.out (freshA s)
 have hDI:s.heap.objs.size≠I:=fun q=>by have:=freshA s;rw [q,aI] at this;cases this
 have ho:∀a∈[I,s.heap.objs.size],Out B env H a:=fun a ha=>by
  simp only [List.mem_cons,List.not_mem_nil,or_false] at ha
  rcases ha with rfl|rfl
  ·exact P.out
  ·exact oD
 have R3l:Hp c (less (wz (s.heap.push o) H) [I,s.heap.objs.size]) H {s with heap:=s.heap.push o}:=by
  have w:=R3.hp.whole
  refine ⟨w.gens,fun b x e=>?_,fun b x e=>?_,w.real,fun a x e=>?_⟩
  ·unfold less
   rw [if_neg]
   ·exact w.base _ _ e
   ·intro q
    have:=(ho b q).b
    rw [R3.hp.base _ _ e] at this;cases this
  ·unfold less at e
   split at e
   ·cases e
   ·exact w.keep _ _ e
  ·unfold less
   split
   ·rfl
   ·exact w.apart _ _ e
 refine comp_env (E:=E) C hsc R3 R3l hcl fun cells h' kc hc R4=>?_
 have aI4:h'.get? I=some wI:=kc _ _ (kp _ _ aI)
 have aD4:h'.get? s.heap.objs.size=some o:=kc _ _ aD
 have eqsl:slIn sv sl v=(List.zipWith (fun o b=>if b=true then o else none) sl (wm sv sl))++[some v]:=rfl
 have notC:∀a x,(s.heap.push o).get? a=some x→a≠(s.heap.push o).objs.size:=fun a x e q=>by have:=Heap.lt_size e;rw [q] at this;exact Nat.lt_irrefl _ this
 have outB:∀a∈[I,s.heap.objs.size],∀x,(s.heap.push o).get? a=some x→Out (less (wz (s.heap.push o) H) [I,s.heap.objs.size]) (compEnvC sv cells (s.heap.push o).objs.size env) H a:=fun a ha x hx=>
  ⟨by unfold less;rw [if_pos ha],(ho a ha).h,notC a x hx,fun n d e=>by
   rcases hc n d e with ⟨n',q⟩|q
   ·exact (ho a ha).c n' d q
   ·rintro rfl;simp only at q;rw [hx] at q;cases q⟩
 refine hstart ?_ fun Q E h=>P.it.self (P.it.frame P.st (aI4.trans aI.symm)) h
 have hov:v∈vp sv:=by
  rcases C.var with q|q
  ·exact List.mem_map.mpr ⟨_,List.mem_filter.mpr ⟨mem_of_lookup q,rfl⟩,rfl⟩
  ·exact List.mem_map.mpr ⟨_,List.mem_filter.mpr ⟨mem_of_lookup q,rfl⟩,rfl⟩
 refine codeAny_mono (comp_loop mk (sl:=List.zipWith (fun o b=>if b=true then o else none) sl (wm sv sl)) (m:=mskd m (wm sv sl)) (ht I s.heap.objs.size (compEnvC sv cells (s.heap.push o).objs.size env)) (hu _ _ _) (hden _ _ _) P.it hov hDI
  (body:=body) (Q:=fun acc H=>∀a,thaw H a=none→Q (.ref a) ((thaw H).set a (mk acc))) (fun x B' acc H s Q R rD oD h=>hbody cells _ _ x B' acc H s Q (fun n=>kd_relabel) R rD oD h) items.length 0 H acc0 _ .un rfl (Nat.zero_le _) R4
  (P.it.frame P.st (aI4.trans aI.symm)) (outB I (.head _) _ (kp _ _ aI)) ⟨_,aI4⟩ (outB _ (by simp) _ aD) (hreal _ _ aD4) hl) fun r s5 h5=>?_
 refine nn fun hC=>?_
 obtain ⟨rfl,H5,acc5,x5,R5,ck,rD5,oD5,q5⟩:=h5
 refine hC ?_
 have R6:=R3.backL ho R5.hp
 have R7:=R6.thawed P.tw ck
 have oD7:Out B env (thaw H5) s.heap.objs.size:=⟨oD.b,P.tw.2 _ _ ck oD5.h,oD.l,oD.c⟩
 have oC:Out B env H (s.heap.push o).objs.size:=R3.out (freshA {s with heap:=s.heap.push o})
 have hCD:(s.heap.push o).objs.size≠s.heap.objs.size:=(notC _ _ aD).symm
 refine ⟨s.heap.objs.size,_,rfl,rfl,R5.fm.ns,⟨oC.b,?_,oC.l,oC.c⟩,R7.take oD7 rD5,q5 _ oD7.h⟩
 show AH.set (thaw H5) s.heap.objs.size (mk acc5) (s.heap.push o).objs.size=none
 unfold AH.set
 rw [if_neg hCD]
 exact P.tw.2 _ _ ck R5.fm.locH
end
section
variable{c:Cx}{B:Bs}{env:Env}{own:List Str}{sl:Sl}{m:List V}{H:AH}{s:Shared}{A:Around}{E:Value→Shared→Prop}{sp:Sp}
theorem post_none{Q:V→AH→Prop}{acc:Value}{C:Addr}{r:Result}(h:BlockEnd c B env own sl m Q acc C r s):compPost (model c.prog c.w) A E none (PE c B env own sl m Q) acc C r s:=by
 refine nn fun hC=>?_
 obtain ⟨D,H',rfl,rfl,⟨mm,hn⟩,oC,R,q⟩:=h
 refine hC ?_
 exact ⟨mm,hn,fun h' hs=>⟨H',R.away (t:=s.toks) oC hs.extBut,q⟩⟩
theorem post_use{Q:V→AH→Prop}{acc:Value}{C:Addr}{r:Result}{y:Str}{py:Pos}{i:Nat}{Q':Value→Shared→Prop}(hy:sl[i]?=some (some y))(ho:y∈own)(hQ:∀s' H' v,Rep c B env own sl (m.set i v) H' s'→Q v H'→Q' .none s')
  (h:BlockEnd c B env own sl m Q acc C r s):compPost (model c.prog c.w) A E (some (assign (.Name y py) env)) Q' acc C r s:=by
 obtain ⟨D,H',rfl,rfl,⟨mm,hn⟩,oC,R,q⟩:=h
 show wpAny _ A (assign (.Name y py) env (.ref D)) _ _ _
 rw [arm_assign_Name]
 have ha:∀a∈[C],Out B env H' a:=allC oC allN
 refine wpAny_bind (wpAny_standAt (store_at (R.hold ha) hy ho fun s1 R1=>?_))
 refine nn fun hC=>?_
 obtain ⟨R2,k⟩:=R.unhold R1 ha
 obtain ⟨o,es,ep,hg,r⟩:=id hn
 obtain ⟨g1,oC1⟩:=k C (by simp) _ hg
 refine hC ?_
 exact ⟨mm,⟨o,es,ep,g1,r⟩,fun h' hs=>hQ _ H' _ (R2.away (t:=s1.toks) oC1 hs.extBut) q⟩
theorem names_of{sc sv:Scope}{v:Str}(C:CompOK sc sv v):∀x∈sv.names,x.2= .local→sv.names.lookup x.1=some .local:=fun x hx e=>by
 have:(x.1,NameKind.local)∈sv.names:=by rw [←e];exact hx
 exact vz C.nd this
theorem clos_of{sc sv:Scope}{v:Str}(C:CompOK sc sv v)(hsc:∀n,kd env.scope n=kd sc n)(R:Rep c B env own sl m H s):closureFor sv env=pure (vy env sv.names []):=
 closureFor_from fun x hx e=>R.fm.eok.has _ (by rw [hsc];exact C.free x.1 (by rw [←e];exact hx))
theorem lcomp_run{elt:PySem.Expr}{v:Str}{pv:Pos}{iter:PySem.Expr}{ifs:List PySem.Expr}{gs:List Comprehension}{sc sv:Scope}{pos pos':Pos}{i cnd b:X}{use:Option (Value→Sem Unit)}{Q:V→AH→Prop}{Q':Value→Shared→Prop}
  (C:CompOK sc sv v) (ha:∀g∈gs,g.is_async=0) (hf:∀env x,foldedSetIterable iter env x=pure x)
  (hit:ItR c A sp sc sl iter i) (hifs:IfsR c A sp sv (slIn sv sl v) ifs cnd) (hb:CwR c A sp sv (slIn sv sl v) (⟨.Name v pv,iter,ifs,0⟩::gs) 0 elt sv pos b)
  (hsc:∀n,kd env.scope n=kd sc n) (R:Rep c B env own sl m H s) (h:X.ev sp (.lcomp (wm sv sl) i cnd b) m H Q)
  (hpost:∀acc C r s',BlockEnd c B env own sl m Q acc C r s'→compPost (model c.prog c.w) A E use Q' acc C r s'):
  wpAny (model c.prog c.w) A (comprehension (.ListComp elt (⟨.Name v pv,iter,ifs,0⟩::gs) sv pos) sv env pos' (newList []) false (eval iter env) use) Q' E s:=by
 refine wpAny_comprehension_free (g:=⟨.Name v pv,iter,ifs,0⟩) (gs:=gs) rfl (hf env) (clos_of C hsc R) C.kind (names_of C) ?_
 refine wpAny_mono (hit (E:=E) hsc R h) (fun x s1 h1=>wpAny_mono h1 (fun y s2 h2=>?_) fun _ _ x=>x) fun _ _ x=>x
 refine nn fun hC=>?_
 obtain ⟨I,items,chk,thaw,H2,St,rfl,P⟩:=h2
 refine hC ?_
 have ha':∀g∈(⟨.Name v pv,iter,ifs,0⟩::gs:List Comprehension),g.is_async=0:=fun g hg=>by
  rcases List.mem_cons.mp hg with rfl|hg
  ·rfl
  ·exact ha g hg
 refine wpAny_mono (comp_block O.lst (acc0:=[]) (o:={cls:= .type "list",data:= .seq ([]:List Value).toArray}) (Q:=Q) C hsc rfl (fun Q E s q=>wpAny_newList (items:=[]) q (Nat.zero_le _)) rfl
  (fun h a e=>⟨#[],⟨_,e⟩,rfl,Nat.zero_le _⟩) (fun I D env=>compTurn_gen (target:= .Name v pv) (iter:=iter) (ifs:=ifs) rfl ha') (fun _ _ _=>under_L) (fun _ _ _=>rfl) (fun h0 hs=>compStart_L rfl rfl h0 hs) P
  (body:=fun x H acc K=>cnd.ev sp (mskd m (wm sv sl)++[x]) H fun v H=>ifB v (X.cw sp b (mskd m (wm sv sl)++[x]) H acc K) (K acc H))
  (fun cells C D x B' acc H s Q hk R rD oD h=>body_ok O.lst hifs hk (fun H acc s Q R rD oD h=>hb hk (fun n hn=>?_) R rD oD h) R rD oD h) P.k) (fun acc s3 h3=>wpAny_mono h3 (fun cenv s4 h4=>codeAny_mono h4 fun r s5 h5=>hpost _ _ _ _ h5) fun _ _ x=>x) fun _ _ x=>x
 unfold varOK at hn
 rw [Bool.or_eq_true,beq_iff_eq,beq_iff_eq] at hn
 rcases hn with q|q
 ·exact List.mem_map.mpr ⟨_,List.mem_filter.mpr ⟨mem_of_lookup q,rfl⟩,rfl⟩
 ·exact List.mem_map.mpr ⟨_,List.mem_filter.mpr ⟨mem_of_lookup q,rfl⟩,rfl⟩
theorem dset_ok{D:Addr}{acc:List (Int×V)}{i:Int}{t:Tok}{v:Value}{Q:Unit→Shared→Prop}(R:Rep c B env own sl m H s)(rD:Real c.prog c.w c.C s.heap D (.dct acc))(oD:Out B env H D)(hl:acc.length<sz)
  (q:∀s',Rep c B env own sl m H s'→Real c.prog c.w c.C s'.heap D (.dct (put acc i (av v)))→Q () s'):
  wpAny (model c.prog c.w) A (dictSet D (.int i t) v) Q E s:=by
 refine nn fun hC=>?_
 obtain ⟨kvs,p,e1,e2⟩:=rD
 refine hC ?_
 have hll:=dct_len (a:=D) e1
 refine wpAny_dictSet_pairs (intKind_is _ _ _ _) p (fun h' p' hs=>q _ (R.away oD hs.extBut) ?_) (wx (by lia))
 have:=put_length acc i (av v)
 exact ⟨_,p',by rw [map_stored,e1],by exact Nat.le_trans ‹_› ‹_›⟩
theorem dcomp_run{k x:PySem.Expr}{v:Str}{pv:Pos}{iter:PySem.Expr}{sc sv:Scope}{pos pos':Pos}{i kx vx:X}{use:Option (Value→Sem Unit)}{Q:V→AH→Prop}{Q':Value→Shared→Prop}
  (C:CompOK sc sv v) (hf:∀env x,foldedSetIterable iter env x=pure x)
  (hit:ItR c A sp sc sl iter i) (hk:EvR c A sp sv (slIn sv sl v) k kx) (hx:EvR c A sp sv (slIn sv sl v) x vx)
  (hsc:∀n,kd env.scope n=kd sc n) (R:Rep c B env own sl m H s) (h:X.ev sp (.dcomp (wm sv sl) i kx vx) m H Q)
  (hpost:∀acc C r s',BlockEnd c B env own sl m Q acc C r s'→compPost (model c.prog c.w) A E use Q' acc C r s'):
  wpAny (model c.prog c.w) A (comprehension (.DictComp k x [⟨.Name v pv,iter,[],0⟩] sv pos) sv env pos' newDict false (eval iter env) use) Q' E s:=by
 refine wpAny_comprehension_free (g:=⟨.Name v pv,iter,[],0⟩) (gs:=[]) rfl (hf env) (clos_of C hsc R) C.kind (names_of C) ?_
 refine wpAny_mono (hit (E:=E) hsc R h) (fun z s1 h1=>wpAny_mono h1 (fun y s2 h2=>?_) fun _ _ x=>x) fun _ _ x=>x
 refine nn fun hC=>?_
 obtain ⟨I,items,chk,thaw,H2,St,rfl,P⟩:=h2
 refine hC ?_
 refine wpAny_mono (comp_block O.dct (acc0:=[]) (o:={cls:= .type "dict",data:= .dict #[]}) (Q:=Q) (tail:=fun D env=>tailD k x D env) C hsc rfl (fun Q E s q=>by simp only [newDict,newObj];exact wpAny_bind (wpAny_alloc (wpAny_pure q))) rfl
  (fun h a e=>⟨[],⟨_,_,_,e,⟨rfl,rfl,rfl⟩,rfl,fun e he=>(by simp at he),.nil,List.nodup_nil⟩,rfl,Nat.zero_le _⟩) (fun I D env=>compTurn_dct) (fun _ _ _=>under_D) (fun _ _ _=>rfl) (fun h0 hs=>compStart_D h0 hs) P
  (body:=fun x H acc K=>kx.ev sp (mskd m (wm sv sl)++[x]) H fun kv H=>vx.ev sp (mskd m (wm sv sl)++[x]) H fun vv H=>ifS kv.i? fun i=>acc.length<sz∧K (put acc i vv) H)
  (fun cells C D y B' acc H s Q hkk R rD oD h=>wpAny_pure ?_) P.k) (fun acc s3 h3=>wpAny_mono h3 (fun cenv s4 h4=>codeAny_mono h4 fun r s5 h5=>hpost _ _ _ _ h5) fun _ _ x=>x) fun _ _ x=>x
 simp only [if_true]
 have ho:∀a∈[D],Out B' (compEnvC sv cells C env) H a:=allC oD allN
 unfold tailD
 obtain ⟨wD,aD⟩:=rD.get
 refine wpAny_bind (wpAny_mono (hk (E:=fun _ _=>False) hkk (R.hold ho) h) (fun kv s1 h1=>?_) fun _ _ f=>f.elim)
 obtain ⟨H1,R1,q1⟩:=h1
 refine wpAny_bind (wpAny_holding (wpAny_mono (hx (E:=fun _ _=>False) hkk R1 q1) (fun vv s2 h2=>?_) fun _ _ f=>f.elim))
 refine nn fun hC=>?_
 obtain ⟨H2',R2,q2⟩:=h2
 obtain ⟨R3,k3⟩:=R.unhold R2 ho
 obtain ⟨aD3,oD3⟩:=k3 D (by simp) _ aD
 refine hC ?_
 have rD3:Real c.prog c.w c.C s2.heap D (.dct acc):=rD.congr (aD3.trans aD.symm)
 refine wpAny_bind (wpAny_standAt (wpAny_holding ?_))
 obtain ⟨i,hv,q3⟩:=zh q2
 obtain ⟨t,e⟩:=vq (V.i_eq hv)
 rw [e]
 exact dset_ok R3 rD3 oD3 q3.1 fun s' R4 rD4=>⟨H2',_,R4,rD4,oD3,q3.2⟩
theorem ev_lcomp{elt:PySem.Expr}{v:Str}{pv:Pos}{iter:PySem.Expr}{ifs:List PySem.Expr}{gs:List Comprehension}{sc sv:Scope}{pos:Pos}{i cnd b:X}
  (C:CompOK sc sv v) (ha:∀g∈gs,g.is_async=0) (hf:∀env x,foldedSetIterable iter env x=pure x)
  (hit:ItR c A sp sc sl iter i) (hifs:IfsR c A sp sv (slIn sv sl v) ifs cnd) (hb:CwR c A sp sv (slIn sv sl v) (⟨.Name v pv,iter,ifs,0⟩::gs) 0 elt sv pos b):
  EvR c A sp sc sl (.ListComp elt (⟨.Name v pv,iter,ifs,0⟩::gs) sv pos) (.lcomp (wm sv sl) i cnd b):=by
 intro B env own m H s Q E hsc R h
 rw [arm_eval_ListComp]
 exact lcomp_run C ha hf hit hifs hb hsc R h fun acc C r s' h=>post_none h
theorem ev_dcomp{k x:PySem.Expr}{v:Str}{pv:Pos}{iter:PySem.Expr}{sc sv:Scope}{pos:Pos}{i kx vx:X}
  (C:CompOK sc sv v) (hf:∀env x,foldedSetIterable iter env x=pure x)
  (hit:ItR c A sp sc sl iter i) (hk:EvR c A sp sv (slIn sv sl v) k kx) (hx:EvR c A sp sv (slIn sv sl v) x vx):
  EvR c A sp sc sl (.DictComp k x [⟨.Name v pv,iter,[],0⟩] sv pos) (.dcomp (wm sv sl) i kx vx):=by
 intro B env own m H s Q E hsc R h
 rw [arm_eval_DictComp]
 exact dcomp_run C hf hit hk hx hsc R h fun acc C r s' h=>post_none h
end
end Mine
end
section
open PySem PySem.W PySem.Calls PyProof.Rows
set_option tactic.hygienic false
namespace Mine
noncomputable def vg(e:PySem.Expr):Bool:=e.ctorIdx !=7&&e.ctorIdx !=22
theorem plain_star{e:PySem.Expr}{es:List PySem.Expr}{env:Env}(h:vg e=true):starEach (e::es) env=(false,eval e env)::starEach es env:=by
 cases e<;>first|rfl|cases h
theorem plain_fold{e:PySem.Expr}{env:Env}{x:Value}(h:vg e=true):foldedSetIterable e env x=pure x:=by
 cases e<;>first|rfl|cases h
theorem plain_marks{e:PySem.Expr}{op:CmpOp}(h:vg e=true):behindInMarks op e=false:=by
 cases e<;>first|rfl|cases h
theorem plain_each:∀{es:List PySem.Expr} {env:Env},(∀e∈es,vg e=true)→starEach es env=es.map fun e=>(false,eval e env)
 |[],env,_=>rfl
 |e::es,env,h=>by rw [plain_star (h e (by simp)),plain_each fun e' h'=>h e' (by simp [h'])];rfl
theorem back_each{es:List PySem.Expr}{env:Env}{pos:Pos}:backTo pos (es.map fun e=>(false,eval e env))=es.map fun e=>(false,eval e env):=by
 unfold backTo;rw [List.map_map];rfl
theorem back_any{es:List PySem.Expr}{env:Env}:(es.map fun e=>(false,eval e env)).any (·.1)=false:=by
 rw [List.any_map];exact List.any_eq_false.mpr fun _ _ h=>by simp at h
section
variable{c:Cx}{B:Bs}{env:Env}{own:List Str}{sl:Sl}{m:List V}{H:AH}{s:Shared}{A:Around}{E:Value→Shared→Prop}{sp:Sp}{Q:V→AH→Prop}
noncomputable abbrev PEs(c:Cx)(B:Bs)(env:Env)(own:List Str)(sl:Sl)(m:List V)(n:Nat)(Q:List V→AH→Prop)(vs:List Value)(s':Shared):Prop:=vs.length=n∧∃H',Rep c B env own sl m H' s'∧Q (vs.map av) H'
noncomputable abbrev EsR(c:Cx)(A:Around)(sp:Sp)(sc:Scope)(sl:Sl)(es:List PySem.Expr)(xs:List X):Prop:=
 ((∀e∈es,vg e=true)∧es.length=xs.length)∧
 ∀⦃B:Bs⦄ ⦃env:Env⦄ ⦃own:List Str⦄ ⦃m:List V⦄ ⦃H:AH⦄ ⦃s:Shared⦄ ⦃Q:List V→AH→Prop⦄ ⦃E:Value→Shared→Prop⦄,(∀n,kd env.scope n=kd sc n)→Rep c B env own sl m H s→X.evs sp xs m H Q→
  wpAny (model c.prog c.w) A (spliced (es.map fun e=>(false,eval e env))) (PEs c B env own sl m es.length Q) E s
theorem es_nil{sc:Scope}:EsR c A sp sc sl [] []:=⟨⟨fun e h=>absurd h (List.not_mem_nil),rfl⟩, @fun B env own m H s Q E hsc R h=>spliced_nil ⟨rfl,_,R,h⟩⟩
theorem es_cons{sc:Scope}{e:PySem.Expr}{es:List PySem.Expr}{x:X}{xs:List X}(hp:vg e=true)(h:EvR c A sp sc sl e x)(hs:EsR c A sp sc sl es xs):EsR c A sp sc sl (e::es) (x::xs):=by
 refine ⟨⟨fun e' h'=>?_,congrArg (·+1) hs.1.2⟩, @fun B env own m H s Q E hsc R q=>?_⟩
 ·rcases List.mem_cons.mp h' with rfl|h'
  ·exact hp
  ·exact hs.1.1 _ h'
 ·refine spliced_cons (wpAny_mono (h hsc R q) (fun v s1 h1=>?_) fun _ _ x=>x)
  obtain ⟨H1,R1,q1⟩:=h1
  refine wpAny_mono (hs.2 hsc R1 q1) (fun vs s2 h2=>?_) fun _ _ x=>x
  refine nn fun hC=>?_
  obtain ⟨hl,H2,R2,q2⟩:=h2
  refine hC ?_
  exact ⟨by simp [hl],H2,R2,q2⟩
theorem args_ok{sc:Scope}{es:List PySem.Expr}{xs:List X}{f:Value}{pos:Pos}{Q:List V→AH→Prop}(hs:EsR c A sp sc sl es xs)(hsc:∀n,kd env.scope n=kd sc n)(R:Rep c B env own sl m H s)(h:X.evs sp xs m H Q):
  wpAny (model c.prog c.w) A (evalArgs f true (backTo pos (starEach es env)) []) (fun a s'=>a.kw=[]∧PEs c B env own sl m es.length Q a.pos s') E s:=by
 rw [plain_each hs.1.1,back_each]
 have h1:=hs.2 (E:=E) hsc R h
 have hl:=hs.1.2
 induction es with
 |nil=>
  induction xs with
  |nil=>exact evalArgs_nil3 ⟨rfl,rfl,_,R,h⟩
  |cons x xs=>cases hl
 |cons e es=>exact evalArgs_plain (wpAny_mono h1 (fun vs s' q=>⟨rfl,q⟩) fun _ _ x=>x)
noncomputable def ltChk(T:Tb):Bool:=T.globs.all (fun x=>decide (x.2<1000))&&T.meths.all (fun x=>decide (x.2<1000))&&decide (T.initF<1000)&&decide (T.supF<1000)&&decide (T.keyF<1000)
theorem lt_look{l:List (Str×Nat)}(h:l.all (fun x=>decide (x.2<1000))=true){n:Str}{g:Nat}(e:l.lookup n=some g):g<1000:=by
 obtain ⟨l1,l2,e,_⟩:=List.lookup_eq_some_iff.mp e
 exact of_decide_eq_true (List.all_eq_true.mp h (n,g) (by rw [e];simp))
structure TbLt(T:Tb):Prop where
 glob:∀n g,T.globs.lookup n=some g→g<1000
 meth:∀n g,T.meths.lookup n=some g→g<1000
 init:T.initF<1000
 sup:T.supF<1000
 key:T.keyF<1000
theorem lt_of{T:Tb}(h:ltChk T=true):TbLt T:=by
 unfold ltChk at h
 simp only [Bool.and_eq_true,decide_eq_true_eq] at h
 exact ⟨fun _ _=>lt_look h.1.1.1.1,fun _ _=>lt_look h.1.1.1.2,h.1.1.2,h.1.2,h.2⟩
structure TbOK(c:Cx)(F:Nat→Addr):Prop where
 glob:∀n g,c.T.globs.lookup n=some g→nsIn c.K mainGlobals n=some (some (.ref (F g)))∧keepIn c.K (.ref (F g))=true
 meth:∀n g,c.T.meths.lookup n=some g→methChk c.K c.C n (F g)=true∧keepIn c.K (.ref (F g))=true
 const:∀n i,c.T.consts.lookup n=some i→∃t,nsIn c.K mainGlobals n=some (some (.int i t))
 lim:nsIn c.K mainGlobals c.T.limN=some (some (.ref c.L))∧keepIn c.K (.ref c.L)=true
 bi:∀n,n∈(["abs","len","list","tuple","int","isinstance","bool","range","sorted","super"]:List Str)→nsIn c.K mainGlobals n=some none
noncomputable def bvTab:List (Str×Value):=[("abs",.builtin "abs"),("len",.builtin "len"),("list",.type "list"),("tuple",.type "tuple"),("int",.type "int"),("isinstance",.builtin "isinstance"),("bool",.type "bool"),("range",.type "range"),("sorted",.builtin "sorted"),("super",.type "super")]
noncomputable def biVal(n:Str):Option Value:=bvTab.lookup n
theorem boot_super:bootBuiltins "super"=some (.type "super"):=by decide+kernel
theorem glob_kind{sc:Scope}{n:Str}(hg:glb sc n=true)(hsc:∀n,kd env.scope n=kd sc n):env.kindOf n=some .globalImplicit∧(n==("__debug__":Str))=false:=by
 unfold glb at hg
 rw [Bool.and_eq_true,beq_iff_eq] at hg
 exact ⟨kd_glb.mp ((hsc n).trans hg.1),by simpa using hg.2⟩
theorem name_glob(G:Gd c){sc:Scope}{n:Str}{pos:Pos}{v:Value}{P:Value→Shared→Prop}(hg:glb sc n=true)(hsc:∀n,kd env.scope n=kd sc n)(R:Rep c B env own sl m H s)(e:nsIn c.K mainGlobals n=some (some v))(q:P v s):
  wpAny (model c.prog c.w) A (eval (.Name n pos) env) P E s:=by
 obtain ⟨k1,k2⟩:=glob_kind hg hsc
 obtain ⟨mg,hmg⟩:=G.mg
 have hmg':=hmg.keeps R.hp.h0
 refine Name_function_global R.fm.eok.kind k1 (loadGlobal_global (by rw [R.fm.eok.glob];exact hmg') (mg_of (R.hp.kin G) hmg' e) q) k2
theorem name_bi(G:Gd c){sc:Scope}{n:Str}{pos:Pos}{v:Value}{P:Value→Shared→Prop}(hg:glb sc n=true)(hsc:∀n,kd env.scope n=kd sc n)(R:Rep c B env own sl m H s)(e:nsIn c.K mainGlobals n=some none)(hn:n≠"__name__")
  (hv:bootBuiltins n=some v) (q:P v s):wpAny (model c.prog c.w) A (eval (.Name n pos) env) P E s:=by
 refine nn fun hC=>?_
 obtain ⟨k1,k2⟩:=glob_kind hg hsc
 obtain ⟨mg,hmg⟩:=G.mg
 obtain ⟨mb,hmb,hb⟩:=G.mb
 refine hC ?_
 have hmg':=hmg.keeps R.hp.h0
 have hmb':=hmb.keeps R.hp.h0
 refine Name_function_global R.fm.eok.kind k1 (loadGlobal_builtin (by rw [R.fm.eok.glob];exact hmg') (mg_none_of (R.hp.kin G) hmg' e) (by rw [R.fm.eok.bi];exact hmb') ((hb n hn).trans hv) q) k2
noncomputable abbrev Calls(c:Cx)(A:Around)(sp:Sp)(F:Nat→Addr):Prop:=∀{B:Bs} {H:AH} {s:Shared} {Q:V→AH→Prop} (g:Nat) (vs:List Value),g<1000→Hp c B H s→sp g (vs.map av) H Q→
 codeAny (model c.prog c.w) A (.call (.ref (F g)) ⟨vs,[]⟩) (fun r s'=>∃v,r= .ok (.ret v)∧PH c B Q v s') s
theorem call_of{F:Nat→Addr}(C:Calls c A sp F)(g:Nat)(vs:List Value)(hg:g<1000)(R:Hp c B H s)(h:sp g (vs.map av) H Q):wpAny (model c.prog c.w) A (call (.ref (F g)) vs) (PH c B Q) E s:=
 wpAny_call (codeAny_mono (C g vs hg R h) fun r s' hr=>by obtain ⟨v,rfl,hv⟩:=hr;exact hv)
theorem with_K(G:Gd c){sc:Scope}{es:List PySem.Expr}{xs:List X}{f:Value}{first:List Value}{pos:Pos}{Q:List V→AH→Prop}{P:Value→Shared→Prop}(hk:keepIn c.K f=true)(hs:EsR c A sp sc sl es xs)(hsc:∀n,kd env.scope n=kd sc n)
  (R:Rep c B env own sl m H s) (h:X.evs sp xs m H Q) (q:∀vs H' s',vs.length=es.length→Rep c B env own sl m H' s'→Q (vs.map av) H'→wpAny (model c.prog c.w) A (call f (first++vs)) P E s'):
  wpAny (model c.prog c.w) A (callWith pos f first (backTo pos (starEach es env)) []) P E s:=by
 refine callWith_of (P:=c.K.In) (by rw [plain_each hs.1.1,back_each,back_any];rfl) (fun h X=>keeps_K hk h X) (wpAny_mono (args_ok hs hsc R h) (fun a s1 h1=>?_) fun _ _ x=>x)
 obtain ⟨h1,h2,H1,R1,q1⟩:=h1
 refine ⟨R1.hp.kin G,?_⟩
 rw [h1]
 exact q _ _ _ h2 R1 q1
theorem with_M{sc:Scope}{es:List PySem.Expr}{xs:List X}{f:Value}{first:List Value}{pos:Pos}{Q:List V→AH→Prop}{P:Value→Shared→Prop}(hk:keeperOf f=pure .machine)(hs:EsR c A sp sc sl es xs)(hsc:∀n,kd env.scope n=kd sc n)
  (R:Rep c B env own sl m H s) (h:X.evs sp xs m H Q) (q:∀vs H' s',vs.length=es.length→Rep c B env own sl m H' s'→Q (vs.map av) H'→wpAny (model c.prog c.w) A (call f (first++vs)) P E s'):
  wpAny (model c.prog c.w) A (callWith pos f first (backTo pos (starEach es env)) []) P E s:=by
 refine callWith_of (P:=fun _=>True) (by rw [plain_each hs.1.1,back_each,back_any];rfl) (fun h X=>⟨.machine,.inr (.inl rfl),by rw [hk];exact .now⟩) (wpAny_mono (args_ok hs hsc R h) (fun a s1 h1=>?_) fun _ _ x=>x)
 obtain ⟨h1,h2,H1,R1,q1⟩:=h1
 refine ⟨trivial,?_⟩
 rw [h1]
 exact q _ _ _ h2 R1 q1
theorem map1{vs:List Value}{v:V}(h:vs.map av=[v]):∃x,vs=[x]∧av x=v:=by
 induction vs with
 |nil=>cases h
 |cons x r=>induction r with
  |nil=>exact ⟨x,rfl,by simpa using h⟩
  |cons y r=>simp at h
theorem map2{vs:List Value}{v w:V}(h:vs.map av=[v,w]):Ex2 fun x y=>An3 (vs=[x,y]) (av x=v) (av y=w):=by
 induction vs with
 |nil=>cases h
 |cons x r=>
  simp only [List.map_cons,List.cons.injEq] at h
  obtain ⟨y,rfl,hy⟩:=map1 h.2
  exact ⟨x,y,rfl,h.1,hy⟩
theorem map0{vs:List Value}(h:vs.map av=[]):vs=[]:=by simpa using h
noncomputable def biFn:Mine.B→Option Value
 | .abs=>some (.builtin "abs")
 | .len=>some (.builtin "len")
 | .toList=>some (.type "list")
 | .toTuple=>some (.type "tuple")
 | .toInt=>some (.type "int")
 |_=>none
noncomputable def biMt:Mine.B→Option String
 | .pop=>some "list.pop"
 | .append=>some "list.append"
 | .extend=>some "list.extend"
 | .dget1=>some "dict.get"
 | .dget2=>some "dict.get"
 | .dpop1=>some "dict.pop"
 | .dpop2=>some "dict.pop"
 | .setdef=>some "dict.setdefault"
 | .update=>some "dict.update"
 |_=>none
theorem ifR{v:Value}{k:Addr→Prop}(h:ifS (av v).r? k):∃a,v= .ref a∧k a:=let ⟨a,e,q⟩:=zh h;⟨a,vm (V.r_eq e),q⟩
theorem ifI{v:Value}{k:Int→Prop}(h:ifS (av v).i? k):Ex2 fun i t=>v= .int i t∧k i:=let ⟨i,e,q⟩:=zh h;let ⟨t,e⟩:=vq (V.i_eq e);⟨i,t,e,q⟩
theorem ifOL{o:Option O}{k:List V→Prop}(h:ifS o fun x=>ifS x.l? k):∃l,o=some (.lst l)∧k l:=let ⟨x,e,q⟩:=zh h;let ⟨l,e',q⟩:=zh q;⟨l,by rw [e,O.l_eq e'],q⟩
theorem ifOD{o:Option O}{k:List (Int×V)→Prop}(h:ifS o fun x=>ifS x.d? k):∃l,o=some (.dct l)∧k l:=let ⟨x,e,q⟩:=zh h;let ⟨l,e',q⟩:=zh q;⟨l,by rw [e,O.d_eq e'],q⟩
theorem ml1{a:Addr}{vs:List Value}{v:V}(h: .ref a::vs.map av=[v]):v= .ref a∧vs=[]:=⟨(List.cons.inj h).1.symm,map0 (List.cons.inj h).2⟩
theorem ml2{a:Addr}{vs:List Value}{v w:V}(h: .ref a::vs.map av=[v,w]):v= .ref a∧∃x,vs=[x]∧av x=w:=⟨(List.cons.inj h).1.symm,map1 (List.cons.inj h).2⟩
theorem ml3{a:Addr}{vs:List Value}{v w d:V}(h: .ref a::vs.map av=[v,w,d]):v= .ref a∧Ex2 fun x y=>An3 (vs=[x,y]) (av x=w) (av y=d):=⟨(List.cons.inj h).1.symm,map2 (List.cons.inj h).2⟩
theorem call_bi(G:Gd c){f:Mine.B}{v:Value}{vs:List Value}(hf:biFn f=some v)(R:Hp c B H s)(h:biW f (vs.map av) H Q):wpAny (model c.prog c.w) A (call v vs) (PH c B Q) E s:=by
 induction f with
 |abs=>
  cases hf
  obtain ⟨w,e,h⟩:=bi_1 h (fun _ _ h=>h) (fun _ _ _ h=>h)
  obtain ⟨x,rfl,rfl⟩:=map1 e
  obtain ⟨i,t,rfl,h⟩:=ifI h
  exact o_abs R h
 |len=>
  cases hf
  obtain ⟨w,e,h⟩:=bi_1 h (fun _ _ h=>h) (fun _ _ _ h=>h)
  obtain ⟨x,rfl,rfl⟩:=map1 e
  obtain ⟨a,rfl,h⟩:=ifR h
  exact o_len G R h
 |toList=>
  cases hf
  obtain ⟨w,e,h⟩:=bi_1 h (fun _ _ h=>h) (fun _ _ _ h=>h)
  obtain ⟨x,rfl,rfl⟩:=map1 e
  obtain ⟨l,q,h⟩:=zh h
  exact o_toList R q h
 |toTuple=>
  cases hf
  obtain ⟨w,e,h⟩:=bi_1 h (fun _ _ h=>h) (fun _ _ _ h=>h)
  obtain ⟨x,rfl,rfl⟩:=map1 e
  obtain ⟨a,rfl,h⟩:=ifR h
  obtain ⟨l,q,h⟩:=ifOL h
  exact o_toTuple R q h
 |toInt=>
  cases hf
  obtain ⟨w,e,h⟩:=bi_1 h (fun _ _ h=>h) (fun _ _ _ h=>h)
  obtain ⟨x,rfl,rfl⟩:=map1 e
  obtain ⟨i,e,h⟩:=zh h
  generalize hx:av x=zq;induction zq with
  |bool b=>rw [hx] at e;cases e;rw [av_bool hx];exact o_toIntB R h
  |int j=>rw [hx] at e;cases e;obtain ⟨t,rfl⟩:=vq hx;exact o_toInt R h
  |_=>rw [hx] at e;exact nsm e
 |_=>exact nsm hf
theorem mt_get(G:Gd c){a:Addr}{x:Value}{d:V}(R:Hp c B H s)(h:dgetW H (.ref a) (av x) d Q):Ex3 fun k t es=>An3 (x= .int k t) (H.see a=some (.dct es)) (Q ((get es k).getD d) H):=by
 refine nn fun hC=>?_
 obtain ⟨k,t,rfl,h⟩:=ifI h
 obtain ⟨es,e,h⟩:=ifOD h
 refine hC ?_
 exact ⟨k,t,es,rfl,e,h⟩
theorem mt_pop(G:Gd c){a:Addr}{x:Value}{rest:List Value}{d:Option V}(R:Hp c B H s)(hr:(rest=[]∧d=none)∨∃y,rest=[y]∧d=some (av y))(h:dpopW H (.ref a) (av x) d Q):wpAny (model c.prog c.w) A (call (.builtin "dict.pop") (.ref a::x::rest)) (PH c B Q) E s:=by
 obtain ⟨k,t,rfl,h⟩:=ifI h
 obtain ⟨es,e,h⟩:=ifOD h
 generalize hv:get es k=zq;induction zq with
 |some w=>
  rw [hv] at h
  exact o_dpop G R (hr.imp (·.1) fun ⟨y,e,_⟩=>⟨y,e⟩) e hv h
 |none=>
  rw [hv] at h
  rcases hr with ⟨_,rfl⟩|⟨y,rfl,rfl⟩
  ·exact h.elim
  ·exact o_dpop2_none G R e hv h
theorem call_mt(G:Gd c){f:Mine.B}{id:String}{a:Addr}{vs:List Value}(hf:biMt f=some id)(R:Hp c B H s)(h:biW f (.ref a::vs.map av) H Q):wpAny (model c.prog c.w) A (call (.builtin id) (.ref a::vs)) (PH c B Q) E s:=by
 induction f with
 |pop=>
  cases hf
  refine nn fun hC=>?_
  obtain ⟨w,e,h⟩:=bi_1 h (fun _ _ h=>h) (fun _ _ _ h=>h)
  obtain ⟨rfl,rfl⟩:=ml1 e
  obtain ⟨l,q,h⟩:=ifOL h
  obtain ⟨v,q',h⟩:=zh h
  refine hC ?_
  exact o_pop R q q' h
 |append=>
  cases hf
  obtain ⟨w,w2,e,h⟩:=bi_2 h (fun _ h=>h) (fun _ _ _ h=>h)
  obtain ⟨rfl,x,rfl,rfl⟩:=ml2 e
  obtain ⟨l,q,h⟩:=ifOL h
  exact o_append R q h.1 h.2
 |extend=>
  cases hf
  obtain ⟨w,w2,e,h⟩:=bi_2 h (fun _ h=>h) (fun _ _ _ h=>h)
  obtain ⟨rfl,x,rfl,rfl⟩:=ml2 e
  obtain ⟨b,rfl,h⟩:=ifR h
  obtain ⟨l,q,h⟩:=ifOL h
  obtain ⟨r,q',h⟩:=ifOL h
  exact o_extend R q q' h.1 h.2.1 h.2.2
 |dget1=>
  cases hf
  obtain ⟨w,w2,e,h⟩:=bi_2 h (fun _ h=>h) (fun _ _ _ h=>h)
  obtain ⟨rfl,x,rfl,rfl⟩:=ml2 e
  obtain ⟨k,t,es,rfl,q,hh⟩:=mt_get G R h
  exact o_dget1 G R q hh
 |dget2=>
  cases hf
  obtain ⟨w,w2,w3,e,h⟩:=bi_3 h (fun _ h=>h) (fun _ _ h=>h)
  obtain ⟨rfl,x,y,rfl,rfl,rfl⟩:=ml3 e
  obtain ⟨k,t,es,rfl,q,hh⟩:=mt_get G R h
  exact o_dget2 G R q hh
 |dpop1=>
  cases hf
  obtain ⟨w,w2,e,h⟩:=bi_2 h (fun _ h=>h) (fun _ _ _ h=>h)
  obtain ⟨rfl,x,rfl,rfl⟩:=ml2 e
  exact mt_pop G R (.inl ⟨rfl,rfl⟩) h
 |dpop2=>
  cases hf
  obtain ⟨w,w2,w3,e,h⟩:=bi_3 h (fun _ h=>h) (fun _ _ h=>h)
  obtain ⟨rfl,x,y,rfl,rfl,rfl⟩:=ml3 e
  exact mt_pop G R (.inr ⟨_,rfl,rfl⟩) h
 |setdef=>
  cases hf
  obtain ⟨w,w2,w3,e,h⟩:=bi_3 h (fun _ h=>h) (fun _ _ h=>h)
  obtain ⟨rfl,x,y,rfl,rfl,rfl⟩:=ml3 e
  obtain ⟨k,t,rfl,h⟩:=ifI h
  obtain ⟨es,q,h⟩:=ifOD h
  exact o_setdef G R q h
 |update=>
  cases hf
  obtain ⟨w,w2,e,h⟩:=bi_2 h (fun _ h=>h) (fun _ _ _ h=>h)
  obtain ⟨rfl,x,rfl,rfl⟩:=ml2 e
  obtain ⟨b,rfl,h⟩:=ifR h
  obtain ⟨l,q,h⟩:=ifOD h
  obtain ⟨r,q',h⟩:=ifOD h
  exact o_update G R q q' h.1 h.2.1 h.2.2
 |_=>exact nsm hf
noncomputable def MtP(ty:String)(on:Mine.B→Bool)(x:Str×Nat×Mine.B):Prop:=on x.2.2=true→∃id,An3 (biMt x.2.2=some id) (Slot ty x.1 id) (typeOf (.builtin id)=pure (.type "method_descriptor"))
theorem mt_l:∀x∈bmTab,MtP "list" Mine.B.onList x:=
 allC (fun _=>⟨_,rfl,F.slot_list_append,F.type_list_append⟩) (allC (fun h=>nomatch h) (allC (fun h=>nomatch h) (allC (fun _=>⟨_,rfl,F.slot_list_pop,F.type_list_pop⟩) (allC (fun h=>nomatch h) (allC (fun h=>nomatch h)
  (allC (fun _=>⟨_,rfl,F.slot_list_extend,F.type_list_extend⟩) (allC (fun h=>nomatch h) (allC (fun h=>nomatch h) allN))))))))
theorem mt_d:∀x∈bmTab,MtP "dict" Mine.B.onDict x:=
 allC (fun h=>nomatch h) (allC (fun _=>⟨_,rfl,F.slot_dict_get,F.type_dict_get⟩) (allC (fun _=>⟨_,rfl,F.slot_dict_get,F.type_dict_get⟩) (allC (fun h=>nomatch h) (allC (fun _=>⟨_,rfl,F.slot_dict_pop,F.type_dict_pop⟩) (allC (fun _=>⟨_,rfl,F.slot_dict_pop,F.type_dict_pop⟩)
  (allC (fun h=>nomatch h) (allC (fun _=>⟨_,rfl,F.slot_dict_setdefault,F.type_dict_setdefault⟩) (allC (fun _=>⟨_,rfl,F.slot_dict_update,F.type_dict_update⟩) allN))))))))
theorem mt_list{f:Mine.B}{n:Str}{k:Nat}(hf:biMeth n k=some f)(hl:f.onList=true):∃id,An3 (biMt f=some id) (Slot "list" n id) (typeOf (.builtin id)=pure (.type "method_descriptor")):=mt_l _ (bFind_eq hf) hl
theorem mt_dict{f:Mine.B}{n:Str}{k:Nat}(hf:biMeth n k=some f)(hl:f.onDict=true):∃id,An3 (biMt f=some id) (Slot "dict" n id) (typeOf (.builtin id)=pure (.type "method_descriptor")):=mt_d _ (bFind_eq hf) hl
theorem meth_list{f:Mine.B}{n:Str}{k:Nat}{a:Addr}{l:List V}{pl:Sem Bool}{P:Value×List Value→Shared→Prop}(hf:biMeth n k=some f)(hl:f.onList=true)(R:Hp c B H s)(e:H.see a=some (.lst l))
  (q:∀id,biMt f=some id→P (.builtin id,[.ref a]) s):wpAny (model c.prog c.w) A (getMethod (.ref a) n pl) P E s:=by
 obtain ⟨xs,⟨z,p⟩,e1,e2⟩:=R.see e
 obtain ⟨id,h1,h2,h3⟩:=mt_list hf hl
 exact getMethod_builtin (T:="list") ⟨_,p,rfl⟩ F.plainAttrs_list h2 h3 (fun b e=>by injection e with e;subst e;exact ⟨_,p,rfl⟩) (q _ h1)
theorem meth_dict{f:Mine.B}{n:Str}{k:Nat}{a:Addr}{es:List (Int×V)}{pl:Sem Bool}{P:Value×List Value→Shared→Prop}(hf:biMeth n k=some f)(hl:f.onDict=true)(R:Hp c B H s)(e:H.see a=some (.dct es))
  (q:∀id,biMt f=some id→P (.builtin id,[.ref a]) s):wpAny (model c.prog c.w) A (getMethod (.ref a) n pl) P E s:=by
 obtain ⟨kvs,p,e1,e2⟩:=R.see e
 obtain ⟨id,h1,h2,h3⟩:=mt_dict hf hl
 exact getMethod_builtin p.typeIs F.plainAttrs_dict h2 h3 p.mapOf.noDict (q _ h1)
end
end Mine
end
section
open PySem PySem.W PySem.Calls PyProof.Rows
namespace Mine
theorem attrBase_plain{o:PySem.Expr}{f:Str}{env:Env}{w:Sem Value}(h:plainBase o=true):attributeBase o f env w=w:=by
 cases o<;>first|rfl|skip
 rename_i fn args kw p
 cases fn<;>first|rfl|cases h
noncomputable def cmOf:Cm→CmpOp
 | .eq=> .Eq
 | .ne=> .NotEq
 | .lt=> .Lt
 | .le=> .LtE
 | .gt=> .Gt
 | .ge=> .GtE
 | .is=> .Is
 | .isNot _=> .IsNot
 | .mem=> .In
 | .notMem=> .NotIn
theorem trCm_eq{op:CmpOp}{o:Cm}(h:trCm op=some o):op=cmOf o:=by cases op<;>cases h<;>rfl
theorem trOp_eq{op:Operator}{o:Op}(h:trOp op=some o):op=opOf o:=by cases op<;>cases h<;>rfl
noncomputable def keyChk(K:Frag)(C:Addr)(f:Str)(a:Addr):Bool:=
 hasDictIn K C&&plainGet K C f&&(findIn K (.ref C) f==some (some (.ref a)))&&isFn K (.ref a)&&(specialIn K (.ref a) "__get__"==some (some (.builtin "function.__get__")))&&(takesIn K (.ref a)==some false)&&!copiedNames.contains f&&(nmOf f).isNone
noncomputable def clsChk(K:Frag)(C:Addr)(n:Str)(f:Addr):Bool:=
 (nsIn K mainGlobals n==some (some (.ref C)))&&keepIn K (.ref C)&&makesIn K C&&(findIn K (.ref C) "__init__"==some (some (.ref f)))&&(typeIn K (.ref f)==some (.type "function"))
noncomputable def NewX(X:Addr)(h:Heap)(x:Addr):Prop:=Ex3 fun oe vs a=>An4 (h.get? x=some oe) (oe.cls= .ref X) (oe.data= .fields vs) (vs[1]?=some .none∧vs[0]?=some a)
noncomputable abbrev RaiseR(c:Cx)(A:Around):Prop:=
 ∀⦃B:Bs⦄ ⦃env:Env⦄ ⦃own:List Str⦄ ⦃sl:Sl⦄ ⦃m:List V⦄ ⦃H:AH⦄ ⦃s:Shared⦄ ⦃E:Value→Shared→Prop⦄ ⦃P:AH→Prop⦄ ⦃Q:Flow→Shared→Prop⦄ ⦃sc:Scope⦄ ⦃a:PySem.Expr⦄ ⦃w:Str⦄ ⦃np fp kp jp cp pos:Pos⦄ ⦃k:Nat⦄,(∀n,kd env.scope n=kd sc n)→glb sc c.T.excN=true→w.length≤1000→Rep c B env own sl m H s→
  wpAny (model c.prog c.w) A (eval a env) (fun v s1=>Ex3 fun i t H1=>An4 (v= .int i t) (i.natAbs≤1000000) (Rep c B env own sl m H1 s1) (P H1)) E s→
  (∀x s' H1,P H1→Rep c B env own sl m H1 s'→NewX c.X s'.heap x→B x=none→H1 x=none→E (.ref x) s')→
  wpAny (model c.prog c.w) A (exec (.Raise (some (.Call (.Name c.T.excN np) [.JoinedStr [.FormattedValue a (-1) none fp,.Constant (.str w) k kp] jp] [] cp)) none pos) env) Q E s
noncomputable abbrev LimR(c:Cx)(A:Around)(sp:Sp):Prop:=
 ∀⦃B:Bs⦄ ⦃env:Env⦄ ⦃own:List Str⦄ ⦃sl:Sl⦄ ⦃m:List V⦄ ⦃H:AH⦄ ⦃s:Shared⦄ ⦃Q:V→AH→Prop⦄ ⦃E:Value→Shared→Prop⦄ (vs:List Value),(∃l,A.frames=some (env::l))→Rep c B env own sl m H s→sp 3000 (vs.map av) H Q→
  wpAny (model c.prog c.w) A (call (.ref c.L) vs) (PE c B env own sl m Q) E s
structure Lw(c:Cx)(A:Around)(sp:Sp)(F:Nat→Addr):Prop where
 G:Gd c
 hh:A.handled=none
 hu:A.units+80<cLine
 hK:attrChk c.K c.C=true
 tb:TbOK c F
 lt:TbLt c.T
 key:keyChk c.K c.C c.T.keyN (F c.T.keyF)=true
 cls:clsChk c.K c.C c.T.cls (F c.T.initF)=true
 calls:Calls c A sp F
 calls1:∀vs,Calls c (A.under (.builtin "type.__call__" ⟨.ref c.C::vs,[]⟩)) sp F
 calls2:Calls c A.in1.in1 sp F
 rs:RaiseR c A
 lim:LimR c A sp
section
variable{c:Cx}{B:Bs}{env:Env}{own:List Str}{sl:Sl}{m:List V}{H:AH}{s:Shared}{A:Around}{E:Value→Shared→Prop}{sp:Sp}{Q:V→AH→Prop}{sc:Scope}{F:Nat→Addr}
theorem o_cmp(G:Gd c)(hu:A.units+80<cLine){op:Cm}{v w:Value}{b:Bool}(R:Hp c B H s)(h:cmpV H op (av v) (av w)=some b)(q:Q (.bool b) H):wpAny (model c.prog c.w) A (compareOp (cmOf op) v w) (PH c B Q) E s:=by
 have neg:∀{o:Option Bool},o.map (!·)=some b→∃b',o=some b'∧b=!b':=fun {o} e=>by
  obtain ⟨b',h1,h2⟩:=Option.map_eq_some_iff.mp e
  exact ⟨b',h1,h2.symm⟩
 cases op
 ·exact o_eq R hu h q
 ·obtain ⟨b',e,rfl⟩:=neg h;exact o_ne R hu e q
 ·exact o_lt R h q
 ·obtain ⟨b',e,rfl⟩:=neg h;exact o_le R e q
 ·exact o_gt R hu h q
 ·obtain ⟨b',e,rfl⟩:=neg h;exact o_ge R e q
 ·exact o_is R h q
 ·obtain ⟨b',e,rfl⟩:=neg h;exact o_isNot R e q
 ·exact o_mem G R hu h q
 ·obtain ⟨b',e,rfl⟩:=neg h;exact o_notMem G R hu e q
theorem ev_none{k:Nat}{pos:Pos}:EvR c A sp sc sl (.Constant .none k pos) (.c .none):=fun _ _ _ _ _ _ _ _ hsc R h=>wpAny_pure ⟨_,R,h⟩
theorem ev_bool{b:Bool}{k:Nat}{pos:Pos}:EvR c A sp sc sl (.Constant (.bool b) k pos) (.c (.bool b)):=fun _ _ _ _ _ _ _ _ hsc R h=>wpAny_pure ⟨_,R,h⟩
theorem ev_int{i:Int}{k:Nat}{pos:Pos}:EvR c A sp sc sl (.Constant (.int i) k pos) (.c (.int i)):=fun _ _ _ _ _ _ _ _ hsc R h=>wpAny_Constant_int ⟨_,R.tok,h⟩
theorem ev_str{x:Str}{j:Nat}{k:Nat}{pos:Pos}(hx:nmOf x=some j):EvR c A sp sc sl (.Constant (.str x) k pos) (.c (.str j)):=fun B env own m H s Q E hsc R h=>Constant_str ⟨_,R.tok,by
 have e:av (.str x s.toks)= .str j:=congrArg (fun o:Option Nat=>o.elim V.un V.str) hx
 rw [e];exact h⟩
theorem ev_loc{x:Str}{pos:Pos}{i:Nat}(hs:slot sl x=some i):EvR c A sp sc sl (.Name x pos) (.loc i):=fun B env own m H s Q E hsc R h=>by
 obtain ⟨v,h1,h2⟩:=zh h
 obtain ⟨w,e,h3⟩:=zd h1
 obtain ⟨rfl,hne⟩:=nun_eq h3
 exact name_ok R hs e hne fun x hx=>⟨H,R,hx.symm▸h2⟩
theorem ev_glb(L:Lw c A sp F){x:Str}{pos:Pos}{i:Int}(hg:glb sc x=true)(hx:c.T.consts.lookup x=some i):EvR c A sp sc sl (.Name x pos) (.c (.int i)):=fun B env own m H s Q E hsc R h=>by
 obtain ⟨t,e⟩:=L.tb.const x i hx
 exact name_glob L.G hg hsc R e ⟨H,R,h⟩
theorem ev_attr(G:Gd c)(hK:attrChk c.K c.C=true){o:PySem.Expr}{f:Str}{pos:Pos}{x:X}{k:Nat}(hb:plainBase o=true)(hf:nmOf f=some k)(h:EvR c A sp sc sl o x):EvR c A sp sc sl (.Attribute o f pos) (.attr x k):=fun B env own m H s Q E hsc R q=>by
 rw [arm_eval_Attribute,attrBase_plain hb]
 refine wpAny_bind (wpAny_mono (h hsc R q) (fun v s1 h1=>?_) fun _ _ x=>x)
 obtain ⟨H1,R1,q1⟩:=h1
 obtain ⟨w,e,q2⟩:=zh q1
 refine wpAny_bind (wpAny_standAt (wpAny_bind (wpAny_holding (wpAny_mono (lift R1 fun R2=>o_attr G hK R2 hf e q2) (fun r s2 h2=>?_) fun _ _ x=>x))))
 exact wpAny_bind (wpAny_letTemporaryGo (wpAny_pure h2))
theorem ev_neg{x:PySem.Expr}{y:X}{pos:Pos}(h:EvR c A sp sc sl x y):EvR c A sp sc sl (.UnaryOp .USub x pos) (.neg y):=fun B env own m H s Q E hsc R q=>by
 rw [arm_eval_UnaryOp]
 refine wpAny_bind (wpAny_mono (h hsc R q) (fun v s1 h1=>?_) fun _ _ x=>x)
 obtain ⟨H1,R1,q1⟩:=h1
 obtain ⟨i,hv,q2⟩:=zh q1
 obtain ⟨t,e⟩:=vq (V.i_eq hv)
 rw [e]
 exact wpAny_bind (wpAny_standAt (wpAny_holding (neg_int ⟨_,R1.tok,q2⟩)))
theorem ev_not{x:PySem.Expr}{y:X}{pos:Pos}(h:EvR c A sp sc sl x y):EvR c A sp sc sl (.UnaryOp .Not x pos) (.not y):=fun B env own m H s Q E hsc R q=>by
 rw [arm_eval_UnaryOp]
 refine wpAny_bind (wpAny_mono (h hsc R q) (fun v s1 h1=>?_) fun _ _ x=>x)
 obtain ⟨H1,R1,q1⟩:=h1
 obtain ⟨b,hv,q2⟩:=zh q1
 rw [av_bool (V.b_eq hv)]
 refine wpAny_bind (wpAny_standAt (wpAny_holding ?_))
 unfold unaryOp
 exact wpAny_holding (wpAny_bind (wpAny_truthy_bool (wpAny_pure ⟨_,R1,q2⟩)))
theorem ev_bin{l r:PySem.Expr}{x y:X}{op:Op}{pos:Pos}(h1:EvR c A sp sc sl l x)(h2:EvR c A sp sc sl r y):EvR c A sp sc sl (.BinOp l (opOf op) r pos) (.bin op x y):=fun B env own m H s Q E hsc R q=>by
 refine wpAny_BinOp (wpAny_mono (h1 hsc R q) (fun v s1 e1=>?_) fun _ _ x=>x)
 obtain ⟨H1,R1,q1⟩:=e1
 refine wpAny_mono (h2 hsc R1 q1) (fun w s2 e2=>?_) fun _ _ x=>x
 obtain ⟨H2,R2,q2⟩:=e2
 exact lift R2 fun R3=>o_bin R3 q2
theorem ev_cmp(G:Gd c)(hu:A.units+80<cLine){l r:PySem.Expr}{x y:X}{op:Cm}{pos:Pos}(hp:vg r=true)(h1:EvR c A sp sc sl l x)(h2:EvR c A sp sc sl r y):EvR c A sp sc sl (.Compare l [cmOf op] [r] pos) (.cmp op x y):=fun B env own m H s Q E hsc R q=>by
 refine wpAny_Compare1 (wpAny_mono (h1 hsc R q) (fun v s1 e1=>?_) fun _ _ x=>x) (plain_marks hp)
 obtain ⟨H1,R1,q1⟩:=e1
 refine wpAny_mono (h2 hsc R1 q1) (fun w s2 e2=>?_) fun _ _ x=>x
 obtain ⟨H2,R2,q2⟩:=e2
 obtain ⟨b,e,q3⟩:=zh q2
 exact lift R2 fun R3=>o_cmp G hu R3 e q3
theorem ev_ite{t b o:PySem.Expr}{x y z:X}{pos:Pos}(h1:CoR c A sp sc sl t x)(h2:EvR c A sp sc sl b y)(h3:EvR c A sp sc sl o z):EvR c A sp sc sl (.IfExp t b o pos) (.ite x y z):=fun B env own m H s Q E hsc R q=>by
 rw [arm_eval_IfExp]
 refine wpAny_bind (wpAny_mono (h1 hsc (fun v H h=>ifB_b h) R q) (fun r s1 e1=>?_) fun _ _ x=>x)
 obtain ⟨H1,R1,q1⟩:=e1
 cases r with
 |true=>exact h2 hsc R1 q1
 |false=>exact h3 hsc R1 q1
theorem ev_list{es:List PySem.Expr}{xs:List X}{pos:Pos}(hl:es.length≤sz)(h:EsR c A sp sc sl es xs):EvR c A sp sc sl (.List es pos) (.list xs):=fun B env own m H s Q E hsc R q=>by
 rw [arm_eval_List,plain_each h.1.1,back_each]
 refine wpAny_bind (wpAny_standAt (wpAny_bind (wpAny_mono (h.2 hsc R q) (fun vs s1 e1=>?_) fun _ _ x=>x)))
 obtain ⟨z,H1,R1,q1⟩:=e1
 exact lift R1 fun R2=>o_newList R2 (by rw [z];exact hl) q1
theorem ev_tup{es:List PySem.Expr}{xs:List X}{k:Nat}{pos:Pos}(hl:es.length≤sz)(h:EsR c A sp sc sl es xs):EvR c A sp sc sl (.Tuple es k pos) (.tup xs):=fun B env own m H s Q E hsc R q=>by
 rw [arm_eval_Tuple,plain_each h.1.1,back_each]
 refine wpAny_bind (wpAny_standAt (wpAny_bind (wpAny_mono (h.2 hsc R q) (fun vs s1 e1=>?_) fun _ _ x=>x)))
 obtain ⟨z,H1,R1,q1⟩:=e1
 exact lift R1 fun R2=>o_newTuple R2 (by rw [z];exact hl) q1
end
end Mine
end
section
open PySem PySem.W PySem.Calls PyProof.Rows
set_option tactic.hygienic false
namespace Mine
section
variable{c:Cx}{B:Bs}{H:AH}{s:Shared}{A:Around}{E:Value→Shared→Prop}{Q:V→AH→Prop}
theorem adjust_upto(a n:Nat)(ha:a≤n):Builtin.Slice.sliceAdjust none (some (a:Int)) 1 (n:Int)=(0,(a:Int)):=by
 unfold Builtin.Slice.sliceAdjust
 have h1:¬((1:Int)<0):=by exact (by decide)
 have h2:¬((a:Int)<0):=by lia
 simp only [h1,h2,if_false]
 congr 1
 lia
theorem places_upto(a:Nat):Builtin.Slice.slicePlaces (0:Int) (a:Int) 1=a:=by
 unfold Builtin.Slice.slicePlaces
 have h1:(1:Int)>0:=by exact (by decide)
 simp only [h1,if_true,Int.ediv_one]
 split<;>lia
theorem sliceApplied_upto{prog:Program}{w:World}{sl:Addr}{a n:Nat}{u:Tok}{Q:Int×Int×Nat→Shared→Prop}(hs:s.heap.IsSliceOf sl .none (.int a u) .none)(ha:a≤n)(h:Q (0,1,a) s):
  wpAny (model prog w) A (Builtin.Slice.sliceApplied (.ref sl) (pure (n:Int))) Q E s:=by
 refine nn fun hC=>?_
 obtain ⟨os,hos,hcs,hds⟩:=id hs
 refine hC ?_
 unfold Builtin.Slice.sliceApplied Builtin.Slice.sliceFields
 refine wpAny_bind (wpAny_bind (wpAny_field hos hds (x:= .none) rfl (wpAny_bind (wpAny_field hos hds (x:= .int a u) rfl (wpAny_bind (wpAny_field hos hds (x:= .none) rfl (wpAny_pure ?_)))))))
 refine wpAny_bind (slicePart_none ?_)
 show wpAny _ _ (if ((1:Int)==0)=true then _ else _) _ _ s
 rw [if_neg (by decide)]
 refine wpAny_bind (slicePart_none (wpAny_bind (slicePart_int (wpAny_bind (wpAny_pure ?_)))))
 show wpAny _ _ (match Builtin.Slice.sliceAdjust none (some (a:Int)) 1 (n:Int) with|(lo,hi)=>pure (lo,(1:Int),Builtin.Slice.slicePlaces lo hi 1)) _ _ s
 rw [adjust_upto a n ha]
 show wpAny _ _ (pure ((0:Int),(1:Int),Builtin.Slice.slicePlaces (0:Int) (a:Int) 1)) _ _ s
 rw [places_upto a]
 exact wpAny_pure h
theorem pick_upto(xs:Array Value)(a:Nat):((List.range a).filterMap fun (k:Nat)=>xs[((0:Int)+(k:Int)*1).toNat]?).toArray=(xs.toList.take a).toArray:=by
 have e:(fun (k:Nat)=>xs[((0:Int)+(k:Int)*1).toNat]?)=fun k=>xs[0+k]?:=by
  funext k
  have:((0:Int)+(k:Int)*1).toNat=0+k:=by lia
  rw [this]
 rw [e]
 have:=pick_run xs 0 a
 rw [List.filterMap_map] at this
 have e2:((fun x=>xs[x]?)∘fun x=>0+x)=fun k=>xs[0+k]?:=rfl
 rw [e2] at this
 rw [this,List.drop_zero]
theorem getItem_tuple_upto{prog:Program}{w:World}{t sl:Addr}{items:Array Value}{a:Nat}{u:Tok}{Q:Value→Shared→Prop}(ht:IsTup s.heap t items)(hs:s.heap.IsSliceOf sl .none (.int a u) .none)(ha:a<items.size)
  (h:Q (.ref s.heap.objs.size) {s with heap:=s.heap.push {cls:= .type "tuple",data:= .seq (items.toList.take a).toArray}})
  (hsz:items.size≤sizeLine):wpAny (model prog w) A (getItem (.ref t) (.ref sl)) Q E s:=by
 have hdrop:sizeOk (.seq (items.toList.take a).toArray):=by
  show (items.toList.take a).toArray.size≤sizeLine
  rw [List.size_toArray,List.length_take,Array.length_toList]
  exact Nat.le_trans (Nat.min_le_right ..) ‹_›
 refine nn fun hC=>?_
 obtain ⟨os,hos,hcs,hds⟩:=id hs
 refine hC ?_
 have hTs:s.TypeIs (.ref sl) "slice":=⟨os,hos,hcs⟩
 unfold getItem
 try with_reducible refine wpAny_holding ?_
 first|refine wpAny_bind (wpAny_pure ?_)|skip
 refine wpAny_bind (wpAny_sequenceKey ht.typeIs (by decide) ?_)
 refine wpAny_bind (wpAny_callSpecial?_slot (name:=Str.ofString "__getitem__") ht.typeIs slot_tuple_getitem
  (wpAny_call_entry slot_tuple_getitem ht.typeIs entry_tuple_getitem ?_ (args_tuple_getitem _ _)))
 show wpAny _ _ (Builtin.Tuple.tupleItemsOf (.ref t)>>=_) _ _ s
 refine wpAny_bind (tupleItemsOf_ ht ?_)
 refine wpAny_bind (wpAny_typeOf hTs ?_)
 rw [if_pos (by decide)]
 refine wpAny_bind (sliceApplied_upto hs (Nat.le_of_lt ha) ?_)
 have hno:¬(((0:Int)==0&&(1:Int)==1&&a==items.size)=true):=by
  have:(a==items.size)=false:=by rw [beq_eq_false_iff_ne];exact Nat.ne_of_lt ‹_›
  rw [this];simp
 show wpAny _ _ (if ((0:Int)==0&&(1:Int)==1&&a==items.size)=true then _ else _) _ _ s
 rw [if_neg hno,pick_upto items a]
 first
  |exact wpAny_bind (m:=Builtin.Tuple.tupleExact _) (wpAny_newObj_type (wpAny_pure ⟨_,rfl,wpAny_pure h⟩) hdrop)
  |exact wpAny_bind (m:=Builtin.Tuple.tupleExact _) (wpAny_newObj_type (wpAny_bind (wpAny_pure (wpAny_pure ⟨_,rfl,wpAny_pure h⟩))) hdrop)
  |exact wpAny_bind (wpAny_bind (m:=Builtin.Tuple.tupleExact _) (wpAny_newObj_type (wpAny_pure (wpAny_pure ⟨_,rfl,wpAny_pure h⟩)) hdrop))
  |exact wpAny_bind (wpAny_bind (m:=Builtin.Tuple.tupleExact _) (wpAny_newObj_type (wpAny_pure ⟨_,rfl,wpAny_pure h⟩) hdrop))
theorem o_sliceT{a sl:Addr}{xs:List V}{j:Int}{t:Tok}(R:Hp c B H s)(e:H.see a=some (.tup xs))(hs:s.heap.IsSliceOf sl .none (.int j t) .none)(h0:0≤j)(hj:j<xs.length)
  (q:∀x,H x=none→Q (.ref x) (H.set x (.tup (xs.take j.toNat)))):wpAny (model c.prog c.w) A (getItem (.ref a) (.ref sl)) (PH c B Q) E s:=by
 refine nn fun hC=>?_
 obtain ⟨ys,n,p,e1,e2⟩:=R.see e
 refine hC ?_
 have s1:=map_av e1
 have ej:j=((j.toNat:Nat):Int):=by lia
 rw [ej] at hs
 refine getItem_tuple_upto (tupI p) hs (by lia) (R.push (t:=s.toks) (x:= .tup (xs.take j.toNat)) ⟨_,0,Heap.get?_push_size _ rfl,?_,?_⟩ q) (wx (by lia))
 ·show List.map av (ys.toList.take j.toNat)=_
  rw [List.map_take,e1]
 ·rw [List.length_take];exact Nat.le_trans (Nat.min_le_right ..) ‹_›
end
end Mine
end
section
open PySem PySem.W PySem.Calls PyProof.Rows
namespace Mine
section
variable{c:Cx}{B:Bs}{env:Env}{own:List Str}{sl:Sl}{m:List V}{H:AH}{s:Shared}{A:Around}{E:Value→Shared→Prop}{sp:Sp}{Q:V→AH→Prop}{sc:Scope}{F:Nat→Addr}
noncomputable def O.sb(o:O):Bool:=o.el false (lst:=fun _=>true) (tup:=fun _=>true) (dct:=fun _=>true) (att:=fun _=>true)
theorem subK_sb{k w:V}{o:O}(h:subK k o=some w):o.sb=true:=by induction o<;>first|rfl|exact nsm h
theorem tail_see{value slice:PySem.Expr}{o i:Value}{ops:List Value}{a:Addr}{x:O}{P:Value→Shared→Prop}(R:Hp c B H s)(ho:o= .ref a)(e:H.see a=some x)(hx:x.sb=true)
  (hg:wpAny (model c.prog c.w) A (getItem o i) P E s) (hs:subscripted slice false o i=operate ops (getItem o i)):wpAny (model c.prog c.w) A (subscriptTail value slice o i) P E s:=by
 subst ho
 induction x with
 |lst l=>
  obtain ⟨xs,p,e1,e2⟩:=R.see e
  exact tail_any (plainL p).typeIs slot_list_getitem.lookup hg hs
 |tup l=>
  obtain ⟨xs,n,p,e1,e2⟩:=R.see e
  exact tail_any (tupI p).typeIs slot_tuple_getitem.lookup hg hs
 |dct es=>
  obtain ⟨kvs,p,e1,e2⟩:=R.see e
  exact tail_any p.typeIs slot_dict_getitem.lookup hg hs
 |att es=>
  obtain ⟨kvs,p,e1,e2⟩:=R.see e
  exact tail_any p.typeIs slot_dict_getitem.lookup hg hs
 |_=>exact Bool.noConfusion hx
noncomputable def noSlice(e:PySem.Expr):Bool:=e.ctorIdx !=26
theorem sub_plain{slice:PySem.Expr}{o i:Value}(h:noSlice slice=true):subscripted slice false o i=operate [o,i] (getItem o i):=by
 cases slice<;>first|rfl|cases h
theorem ev_sub{value slice:PySem.Expr}{pos:Pos}{x y:X}(hn:noSlice slice=true)(h1:EvR c A sp sc sl value x)(h2:EvR c A sp sc sl slice y):EvR c A sp sc sl (.Subscript value slice pos) (.sub x y):=fun B env own m H s Q E hsc R q=>by
 refine Subscript_ (wpAny_mono (h1 hsc R q) (fun v s1 e1=>?_) fun _ _ x=>x)
 obtain ⟨H1,R1,q1⟩:=e1
 refine wpAny_mono (h2 hsc R1 q1) (fun k s2 e2=>?_) fun _ _ x=>x
 obtain ⟨H2,R2,q2⟩:=e2
 obtain ⟨w,e,q3⟩:=zh q2
 obtain ⟨a,hv,h⟩:=zd e
 obtain ⟨o,e',h⟩:=zd h
 exact tail_see R2.hp (vm (V.r_eq hv)) e' (subK_sb h) (lift (A:=A) (E:=E) R2 fun R3=>o_getItem R3 e q3) (sub_plain hn)
noncomputable abbrev OpR(c:Cx)(A:Around)(sp:Sp)(sc:Scope)(sl:Sl)(o:Option PySem.Expr)(x:X):Prop:=
 ∀⦃B:Bs⦄ ⦃env:Env⦄ ⦃own:List Str⦄ ⦃m:List V⦄ ⦃H:AH⦄ ⦃s:Shared⦄ ⦃Q:V→AH→Prop⦄ ⦃E:Value→Shared→Prop⦄,(∀n,kd env.scope n=kd sc n)→Rep c B env own sl m H s→x.ev sp m H Q→
  wpAny (model c.prog c.w) A (evalPart o env) (PE c B env own sl m Q) E s
theorem op_none:OpR c A sp sc sl none (.c .none):=fun _ _ _ _ _ _ _ _ hsc R h=>evalPart_none_step ⟨_,R,h⟩
theorem op_some{e:PySem.Expr}{x:X}(h:EvR c A sp sc sl e x):OpR c A sp sc sl (some e) x:=fun _ _ _ _ _ _ _ _ hsc R q=>evalPart_some_step (h hsc R q)
theorem sliceNew{h:Heap}{l u t:Value}:(h.push {cls:= .type "slice",data:= .fields #[l,u,t]}).IsSliceOf h.objs.size l u t:=Heap.IsSliceOf.new ..
theorem ev_slice{value:PySem.Expr}{lo hi:Option PySem.Expr}{p pos:Pos}{x y z:X}(h1:EvR c A sp sc sl value x)(h2:OpR c A sp sc sl lo y)(h3:OpR c A sp sc sl hi z):
  EvR c A sp sc sl (.Subscript value (.Slice lo hi none p) pos) (.slice x y z):=fun B env own m H s Q E hsc R q=>by
 refine Subscript_ (wpAny_mono (h1 hsc R q) (fun v s1 e1=>?_) fun _ _ x=>x)
 obtain ⟨H1,R1,q1⟩:=e1
 refine wpAny_Slice (wpAny_mono (h2 hsc R1 q1) (fun l s2 e2=>?_) fun _ _ x=>x)
 obtain ⟨H2,R2,q2⟩:=e2
 refine wpAny_mono (h3 hsc R2 q2) (fun u s3 e3=>?_) fun _ _ x=>x
 obtain ⟨H3,R3,q3⟩:=e3
 refine evalPart_none_step ?_
 have R4:Rep c B env own sl m H3 {s3 with heap:=s3.heap.push {cls:= .type "slice",data:= .fields #[l,u,.none]}}:=R3.grow (t:=s3.toks) fun b o e=>Heap.get?_push_of_some _ e
 obtain ⟨a,hv,q4⟩:=zh q3
 obtain ⟨o,e,q5⟩:=zh q4
 have hv':=vm (V.r_eq hv)
 clear q q1 q2 q3 q4 hv
 induction o with
  |lst xs=>
   obtain ⟨i,e1,q6⟩:=zh q5
   obtain ⟨j,e2,q7⟩:=zh q6
   refine tail_see (ops:=[.ref s3.heap.objs.size,v]) R4.hp hv' e rfl ?_ rfl
   rw [hv']
   exact lift R4 fun R5=>o_slice R5 e sliceNew e1 e2 q7
  |tup xs=>
   obtain ⟨j,e2,q6⟩:=zh q5.2
   refine tail_see (ops:=[.ref s3.heap.objs.size,v]) R4.hp hv' e rfl ?_ rfl
   rw [hv']
   have hl:=av_none q5.1
   obtain ⟨t,ht⟩:=vq (V.i_eq e2)
   exact lift R4 fun R5=>o_sliceT R5 e (by rw [←hl,←ht];exact sliceNew) q6.1 q6.2.1 q6.2.2
  |_=>exact q5.elim
theorem ev_rev{value:PySem.Expr}{k:Nat}{p p1 p2 pos:Pos}{x:X}(h1:EvR c A sp sc sl value x):
  EvR c A sp sc sl (.Subscript value (.Slice none none (some (.UnaryOp .USub (.Constant (.int 1) k p1) p2)) p) pos) (.rev x):=fun B env own m H s Q E hsc R q=>by
 refine Subscript_ (wpAny_mono (h1 hsc R q) (fun v s1 e1=>?_) fun _ _ x=>x)
 obtain ⟨H1,R1,q1⟩:=e1
 refine wpAny_Slice (evalPart_none_step (evalPart_none_step (evalPart_some_step ?_)))
 rw [arm_eval_UnaryOp]
 refine wpAny_bind (wpAny_Constant_int (wpAny_bind (wpAny_standAt (wpAny_holding (neg_int ?_)))))
 obtain ⟨a,hv,q2⟩:=zh q1
 obtain ⟨o,e,q3⟩:=zh q2
 obtain ⟨xs,e2,q4⟩:=zh q3
 have hv':=vm (V.r_eq hv)
 rw [O.l_eq e2] at e
 have R4:=R1.grow (h':=s1.heap.push {cls:= .type "slice",data:= .fields #[.none,.none,.int (-1) (s1.toks+1)]}) (t:=s1.toks+1+1) fun b o e=>Heap.get?_push_of_some _ e
 refine tail_see (ops:=[v,.ref s1.heap.objs.size]) R4.hp hv' e rfl ?_ rfl
 rw [hv']
 exact lift R4 fun R5=>o_rev R5 e sliceNew ⟨_,rfl⟩ q4
end
theorem allSome_cons{α:Type}{o:Option α}{l:List (Option α)}{r:List α}(h:wv (o::l)=some r):Ex2 fun a r'=>An3 (o=some a) (wv l=some r') (r=a::r'):=by
 obtain ⟨a,h1,h⟩:=zd h
 obtain ⟨r',h2,h⟩:=wj h
 exact ⟨a,r',h1,h2,h.symm⟩
theorem allSome_eq{α:Type}:∀{l:List (Option α)} {r:List α},wv l=some r→l=r.map some
 |[],r,h=>by cases h;rfl
 |o::l,r,h=>by
  obtain ⟨a,r',rfl,h1,rfl⟩:=allSome_cons h
  rw [allSome_eq h1];rfl
theorem constStr_eq{e:PySem.Expr}{x:Str}(h:constStr e=some x):∃k pos,e= .Constant (.str x) k pos:=by
 obtain ⟨c,h1,h2⟩:=zd h
 obtain ⟨j,p,h3⟩:=constOf_inv e c h1
 exact ⟨j,p,by rw [h3,strK_inv c x h2]⟩
section
variable{c:Cx}{B:Bs}{env:Env}{own:List Str}{sl:Sl}{m:List V}{H:AH}{s:Shared}{A:Around}{E:Value→Shared→Prop}{sp:Sp}{Q:V→AH→Prop}{sc:Scope}{F:Nat→Addr}
inductive EvsR(c:Cx)(A:Around)(sp:Sp)(sc:Scope)(sl:Sl):List PySem.Expr→List X→Prop
 |nil:EvsR c A sp sc sl [] []
 |cons {e:PySem.Expr} {es:List PySem.Expr} {x:X} {xs:List X} (hp:vg e=true) (h:EvR c A sp sc sl e x) (hs:EvsR c A sp sc sl es xs):EvsR c A sp sc sl (e::es) (x::xs)
theorem EvsR.es{es:List PySem.Expr}{xs:List X}(h:EvsR c A sp sc sl es xs):EsR c A sp sc sl es xs:=by
 induction h with
 |nil=>exact es_nil
 |cons hp h hs ih=>exact es_cons hp h ih
theorem pairs_ok{ks:List PySem.Expr}{vs:List PySem.Expr}{xs:List X}{pos:Pos}(h:EvsR c A sp sc sl vs xs):∀{ks:List PySem.Expr} {ss:List Str} {H:AH} {s:Shared} {B:Bs} {env:Env} {own:List Str} {m:List V} {Q:List V→AH→Prop},
  (∀n,kd env.scope n=kd sc n)→Rep c B env own sl m H s→wv (ks.map constStr)=some ss→ks.length=vs.length→X.evs sp xs m H Q→
  wpAny (model c.prog c.w) A (evalPairs (pairTrees (ks.map some) vs env pos)) (fun ps s'=>Ex2 fun vals H'=>An5 (allStrKeys ps=true) (strPairs ps=ss.zip vals) (vals.length=ss.length) (Rep c B env own sl m H' s') (Q (vals.map av) H')) E s:=by
 induction h with
 |nil=>
  intro ks ss H s B env own m Q hsc R hk hl q
  induction ks with
  |cons k ks=>cases hl
  |nil=>cases hk;exact pairTrees_nil_walk ⟨[],H,rfl,rfl,rfl,R,q⟩
 | @cons e es x xs hp h hs ih=>
  intro ks ss H s B env own m Q hsc R hk hl q
  induction ks with
  |nil=>cases hl
  |cons k ks=>
   refine nn fun hC=>?_
   obtain ⟨y,ss',e1,e2,rfl⟩:=allSome_cons hk
   obtain ⟨kk,kp,rfl⟩:=constStr_eq e1
   refine hC ?_
   refine pairTrees_cons_walk (Constant_str ?_)
   refine wpAny_mono (h hsc R.tok q) (fun v s1 h1=>?_) fun _ _ x=>x
   obtain ⟨H1,R1,q1⟩:=h1
   refine wpAny_mono (ih hsc R1 e2 (by simpa using hl) q1) (fun ps s2 h2=>?_) fun _ _ x=>x
   refine nn fun hC=>?_
   obtain ⟨vals,H2,a1,a2,a3,R2,q2⟩:=h2
   refine hC ?_
   exact ⟨v::vals,H2,a1,by simp [strPairs,a2],by simp [a3],R2,q2⟩
theorem newDict_rep(R:Rep c B env own sl m H s):Rep c (Mine.hold B (s.heap.push {cls:= .type "dict",data:= .dict #[]}) [s.heap.objs.size]) env own sl m H {s with heap:=s.heap.push {cls:= .type "dict",data:= .dict #[]}}∧
  Rep c B env own sl m H {s with heap:=s.heap.push {cls:= .type "dict",data:= .dict #[]}}∧(∀a∈[s.heap.objs.size],Out B env H a):=by
 have R1:Rep c B env own sl m H {s with heap:=s.heap.push {cls:= .type "dict",data:= .dict #[]}}:=R.grow (t:=s.toks) fun b o e=>Heap.get?_push_of_some _ e
 have ho:∀a∈[s.heap.objs.size],Out B env H a:=fun a ha=>by
  simp only [List.mem_cons,List.not_mem_nil,or_false] at ha;subst ha;exact R.out (freshA s)
 exact ⟨R1.hold ho,R1,ho⟩
theorem ev_dict0{pos:Pos}:EvR c A sp sc sl (.Dict [] [] pos) .dict0:=fun B env own m H s Q E hsc R q=>by
 have hs:=freshA s
 refine wpAny_Dict_empty ⟨_,(newDict_rep R).2.1.take (R.out hs) ?_,q _ (R.hp.fresh hs)⟩
 exact ⟨[],⟨_,_,_,Heap.get?_push_size _ rfl,⟨rfl,rfl,rfl⟩,rfl,fun e he=>(by simp at he),.nil,List.nodup_nil⟩,rfl,Nat.zero_le _⟩
theorem dictNil{K:Type} [DecidableEq K]{prog:Program}{w:World}{knd:KeyKind prog w K}{h:Heap}{a:Addr}(e:h.get? a=some {cls:= .type "dict",data:= .dict #[]}):h.DictOf knd a []:=
 ⟨_,_,_,e,⟨rfl,rfl,rfl⟩,rfl,fun e he=>(by simp at he),.nil,List.nodup_nil⟩
theorem ev_dictS{ks:List PySem.Expr}{ss:List Str}{is:List Nat}{vs:List PySem.Expr}{xs:List X}{pos:Pos}(hk:wv (ks.map constStr)=some ss)(hi:wv (ss.map nmOf)=some is)(hl:is.length=vs.length)(hn:is.Nodup)(h8:is.length≤8)
  (h0:ks≠[]) (h:EvsR c A sp sc sl vs xs):EvR c A sp sc sl (.Dict (ks.map some) vs pos) (.dictS is xs):=fun B env own m H s Q E hsc R q=>by
 obtain ⟨l1,l2⟩:=allSome_map hk
 obtain ⟨l3,l4⟩:=allSome_map hi
 refine wpAny_Dict_walk (knd:=strKind c.prog c.w) (by simp) (by rw [List.length_map];lia) (by simpa using h0) (by rw [List.length_map];lia) ?_
 obtain ⟨R1,R2,ho⟩:=newDict_rep R
 refine wpAny_mono (pairs_ok (ks:=ks) h hsc R1 hk (by lia) q) (fun ps s1 h1=>?_) fun _ _ x=>x
 refine nn fun hC=>?_
 obtain ⟨vals,H',a1,a2,a3,R3,q3⟩:=h1
 obtain ⟨R4,k4⟩:=R2.unhold R3 ho
 obtain ⟨aD,oD⟩:=k4 s.heap.objs.size (by simp) _ (Heap.get?_push_size _ rfl)
 refine hC ?_
 have inj:∀{ss:List Str} {is:List Nat},wv (ss.map nmOf)=some is→is.Nodup→ss.Nodup:=by
  intro ss
  induction ss with
  |nil=>intro _ _ _;exact List.nodup_nil
  |cons x r ih=>
   intro is h hn
   refine nn fun hC=>?_
   obtain ⟨k,is',e1,e2,rfl⟩:=allSome_cons h
   refine hC ?_
   rw [List.nodup_cons] at hn⊢
   refine ⟨fun hm=>hn.1 ?_,ih e2 hn.2⟩
   obtain ⟨i,hlt,hi⟩:=List.mem_iff_getElem.mp hm
   obtain ⟨y,y1,y2⟩:=(allSome_map e2).2 i x (by rw [List.getElem?_eq_getElem hlt,hi])
   rw [e1] at y1;cases y1
   exact List.mem_of_getElem? y2
 have hnd:((strPairs ps).map (·.1)).Nodup:=by
  rw [a2,List.map_fst_zip (by lia)];exact inj hi hn
 refine display_done_str a1 hnd (dictNil aD) fun h' hm hs=>?_
 have R5:Rep c B env own sl m H' {s1 with heap:=h',toks:=s1.toks+ps.length}:=R4.away oD hs.extBut
 refine ⟨_,R5.take (x:= .att (is.zip (vals.map av))) oD ⟨strPairs ps,hm,?_,?_⟩,q3 _ oD.h⟩
 ·rw [a2]
  have key:∀{ss:List Str} {is:List Nat} {vals:List Value},wv (ss.map nmOf)=some is→vals.length=ss.length→(ss.zip vals).map (fun e=>(nmOf e.1,av e.2))=(is.zip (vals.map av)).map fun e=>(some e.1,e.2):=by
   intro ss
   induction ss with
   |nil=>intro is vals h _;cases h;rfl
   |cons x r ih=>
    intro is vals h hl
    obtain ⟨k,is',e1,e2,rfl⟩:=allSome_cons h
    induction vals with
    |nil=>cases hl
    |cons v vals=>
     simp only [List.zip_cons_cons,List.map_cons,e1]
     rw [ih e2 (by simpa using hl)]
  exact key hi a3
 ·rw [List.length_zip,List.length_map];lia
theorem ev_dict1{k v:PySem.Expr}{x y:X}{pos:Pos}(h1:EvR c A sp sc sl k x)(h2:EvR c A sp sc sl v y):EvR c A sp sc sl (.Dict [some k] [v] pos) (.dict1 x y):=fun B env own m H s Q E hsc R q=>by
 refine wpAny_Dict_walk (knd:=intKind c.prog c.w) rfl rfl (by simp) (by simp) ?_
 obtain ⟨R1,R2,ho⟩:=newDict_rep R
 refine pairTrees_cons_walk (wpAny_mono (h1 hsc R1 q) (fun kv s1 e1=>?_) fun _ _ x=>x)
 obtain ⟨H1,R3,q1⟩:=e1
 refine wpAny_mono (h2 hsc R3 q1) (fun vv s2 e2=>?_) fun _ _ x=>x
 obtain ⟨H2,R4,q2⟩:=e2
 refine pairTrees_nil_walk ?_
 obtain ⟨R5,k5⟩:=R2.unhold R4 ho
 obtain ⟨aD,oD⟩:=k5 s.heap.objs.size (by simp) _ (Heap.get?_push_size _ rfl)
 obtain ⟨i,hi,q3⟩:=zh q2
 obtain ⟨t,e⟩:=vq (V.i_eq hi)
 rw [e]
 refine display_done_int rfl (by simp [intKeyPairs]) (dictNil aD) fun h' hm hs=>?_
 exact ⟨_,(R5.away (t:=s2.toks+1) oD hs.extBut).take (x:= .dct [(i,av vv)]) oD ⟨_,hm,rfl,show 1≤sz by decide⟩,q3 _ oD.h⟩
theorem co_plain{e:PySem.Expr}{x:X}(he:∀{env:Env} {whole:Sem Value},isTrue e env whole=(do let v ←whole;standAt e.pos;holding [v] (truthy v)))(h:EvR c A sp sc sl e x):CoR c A sp sc sl e x:=fun B env own m H s Q E hsc hb R q=>by
 refine isTrue_plain (wpAny_mono (h hsc R q) (fun v s1 h1=>?_) fun _ _ x=>x) he
 obtain ⟨H1,R1,q1⟩:=h1
 obtain ⟨b,e⟩:=hb _ _ q1
 have:=av_bool e
 subst this
 exact wpAny_truthy_bool ⟨H1,R1,q1⟩
theorem co_not{e:PySem.Expr}{x:X}{pos:Pos}(h:CoR c A sp sc sl e x):CoR c A sp sc sl (.UnaryOp .Not e pos) (.not x):=fun B env own m H s Q E hsc hb R q=>by
 refine isTrue_not (wpAny_mono (h hsc (fun v H h=>ifS_b h) R q) (fun b s1 h1=>?_) fun _ _ x=>x)
 exact h1
theorem co_and_nil{pos:Pos}:CoR c A sp sc sl (.BoolOp .And [] pos) (.c (.bool true)):=fun _ _ _ _ _ _ _ _ hsc hb R q=>isTrue_and_nil ⟨_,R,q⟩
theorem co_or_nil{pos:Pos}:CoR c A sp sc sl (.BoolOp .Or [] pos) (.c (.bool false)):=fun _ _ _ _ _ _ _ _ hsc hb R q=>isTrue_or_nil ⟨_,R,q⟩
theorem co_and{e:PySem.Expr}{es:List PySem.Expr}{x y:X}{pos:Pos}(h1:CoR c A sp sc sl e x)(h2:CoR c A sp sc sl (.BoolOp .And es pos) y):CoR c A sp sc sl (.BoolOp .And (e::es) pos) (.and x y):=fun B env own m H s Q E hsc hb R q=>by
 refine isTrue_and (wpAny_mono (h1 hsc (fun v H h=>ifB_b h) R q) (fun b s1 e1=>?_) fun _ _ x=>x)
 obtain ⟨H1,R1,q1⟩:=e1
 induction b with
 |false=>exact ⟨H1,R1,q1⟩
 |true=>
  refine wpAny_mono (h2 hsc (fun v H h=>ifS_b h) R1 q1) (fun b s2 e2=>?_) fun _ _ x=>x
  exact e2
theorem co_or{e:PySem.Expr}{es:List PySem.Expr}{x y:X}{pos:Pos}(h1:CoR c A sp sc sl e x)(h2:CoR c A sp sc sl (.BoolOp .Or es pos) y):CoR c A sp sc sl (.BoolOp .Or (e::es) pos) (.or x y):=fun B env own m H s Q E hsc hb R q=>by
 refine isTrue_or (wpAny_mono (h1 hsc (fun v H h=>ifB_b h) R q) (fun b s1 e1=>?_) fun _ _ x=>x)
 obtain ⟨H1,R1,q1⟩:=e1
 induction b with
 |true=>exact ⟨H1,R1,q1⟩
 |false=>
  refine wpAny_mono (h2 hsc (fun v H h=>ifS_b h) R1 q1) (fun b s2 e2=>?_) fun _ _ x=>x
  exact e2
theorem o_cmpT(L:Lw c A sp F){op:Cm}{v w:Value}{b:Bool}{P:Bool→Shared→Prop}(R:Rep c B env own sl m H s)(e:cmpV H op (av v) (av w)=some b)(q:∀s',Rep c B env own sl m H s'→P b s'):wpAny (model c.prog c.w) A (compareOp (cmOf op) v w) (fun v s'=>wpAny (model c.prog c.w) A (truthy v) P E s') E s:=by
 refine wpAny_mono (lift (Q:=fun v H'=>v= .bool b∧H'=H) R fun R3=>o_cmp L.G L.hu R3 e ⟨rfl,rfl⟩) (fun v s3 e3=>?_) fun _ _ x=>x
 obtain ⟨H3,R3,q3,rfl⟩:=e3
 rw [av_bool q3]
 exact wpAny_truthy_bool (q _ R3)
theorem co_cmp(L:Lw c A sp F){l r:PySem.Expr}{x y:X}{op:Cm}{pos:Pos}(hp:vg r=true)(h1:EvR c A sp sc sl l x)(h2:EvR c A sp sc sl r y):CoR c A sp sc sl (.Compare l [cmOf op] [r] pos) (.cmp op x y):=fun B env own m H s Q E hsc hb R q=>by
 refine wpAny_isTrue_Compare1 (wpAny_mono (h1 hsc R q) (fun v s1 e1=>?_) fun _ _ x=>x) (plain_marks hp)
 obtain ⟨H1,R1,q1⟩:=e1
 refine wpAny_mono (h2 hsc R1 q1) (fun w s2 e2=>?_) fun _ _ x=>x
 obtain ⟨H2,R2,q2⟩:=e2
 obtain ⟨b,e,q3⟩:=zh q2
 exact o_cmpT L R2 e fun s3 R3=>⟨H2,R3,q3⟩
theorem co_cmp2(L:Lw c A sp F){a b d:PySem.Expr}{x y z:X}{o1 o2:Cm}{pos:Pos}(hp:vg d=true)(h1:EvR c A sp sc sl a x)(h2:EvR c A sp sc sl b y)(h3:EvR c A sp sc sl d z):CoR c A sp sc sl (.Compare a [cmOf o1,cmOf o2] [b,d] pos) (.cmp2 o1 o2 x y z):=fun B env own m H s Q E hsc hb R q=>by
 refine isTrue_chain (rs:=[]) (wpAny_mono (h1 hsc R q) (fun v s1 e1=>?_) fun _ _ x=>x) ?_
 ·obtain ⟨H1,R1,q1⟩:=e1
  refine test_link (wpAny_mono (h2 hsc R1 q1) (fun w s2 e2=>?_) fun _ _ x=>x)
  obtain ⟨H2,R2,q2⟩:=e2
  obtain ⟨b,e,q3⟩:=zh q2
  refine o_cmpT L R2 e fun s3 R3=>?_
  induction b with
  |true=>
   refine test_last (wpAny_mono (h3 hsc R3 q3) (fun u s4 e4=>?_) fun _ _ x=>x)
   obtain ⟨H4,R4,q4⟩:=e4
   obtain ⟨b,e,q5⟩:=zh q4
   exact o_cmpT L R4 e fun s5 R5=>⟨H4,R5,q5⟩
  |false=>exact ⟨H2,R3,q3⟩
 ·have:=plain_marks (op:=cmOf o2) hp
  show lastMarks [cmOf o1,cmOf o2] [b,d]=false
  simpa [lastMarks] using this
end
end Mine
end
section
open PySem PySem.W PySem.Calls PyProof.Rows
set_option tactic.hygienic false
namespace Mine
section
variable{c:Cx}{B:Bs}{H:AH}{s:Shared}{A:Around}{E:Value→Shared→Prop}
structure OutH(B:Bs)(H:AH)(a:Addr):Prop where
 b:B a=none
 h:H a=none
theorem Hp.outH(R:Hp c B H s){a:Addr}(ha:s.heap.get? a=none):OutH B H a:=⟨R.freshB ha,R.fresh ha⟩
theorem Hp.away(R:Hp c B H s){a:Addr}{h':Heap}{t:Nat}(o:OutH B H a)(hs:Heap.ExtBut a s.heap h'):Hp c B H {s with heap:=h',toks:=t}:=by
 refine ⟨R.gens,R.base,fun b x e=>hs b x (by rintro rfl;rw [o.b] at e;cases e) (R.keep b x e),fun b x e=>?_,R.apart⟩
 obtain ⟨y,hy⟩:=(R.real b x e).get
 exact (R.real b x e).congr ((hs b y (by rintro rfl;rw [o.h] at e;cases e) hy).trans hy.symm)
theorem Hp.hold(R:Hp c B H s){as:List Addr}(o:∀a∈as,OutH B H a):Hp c (Mine.hold B s.heap as) H s:=by
 refine ⟨R.gens,fun b x e=>?_,fun b x e=>?_,R.real,fun a x e=>?_⟩
 ·unfold Mine.hold;split
  ·exact R.keep _ _ (R.base _ _ e)
  ·exact R.base _ _ e
 ·unfold Mine.hold at e;split at e
  ·exact e
  ·exact R.keep _ _ e
 ·unfold Mine.hold;split
  ·rename_i q;have:=(o _ q).h;rw [e] at this;cases this
  ·exact R.apart _ _ e
theorem Hp.unhold(R:Hp c B H s){as:List Addr}{H':AH}{s':Shared}(R':Hp c (Mine.hold B s.heap as) H' s')(o:∀a∈as,OutH B H a):
  Hp c B H' s'∧∀a∈as,∀x,s.heap.get? a=some x→s'.heap.get? a=some x∧OutH B H' a:=by
 have inB:∀b x,B b=some x→Mine.hold B s.heap as b=some x:=fun b x e=>by
  unfold Mine.hold;split
  ·rename_i q;rw [(o _ q).b] at e;cases e
  ·exact e
 refine ⟨⟨R'.gens,R.base,fun b x e=>R'.keep _ _ (inB _ _ e),R'.real,fun a x e=>?_⟩,fun a ha x e=>?_⟩
 ·generalize q:B a=zq;induction zq with
  |none=>rfl
  |some y=>have:=R'.apart _ _ e;rw [inB _ _ q] at this;cases this
 ·have hb:Mine.hold B s.heap as a=some x:=by unfold Mine.hold;rw [if_pos ha];exact e
  refine ⟨R'.keep _ _ hb,(o a ha).b,?_⟩
  generalize q:H' a=zq;induction zq with
  |none=>rfl
  |some y=>have:=R'.apart _ _ q;rw [hb] at this;cases this
variable{a kS:Addr}{b:Bool}{vs:List Value}{kz:List Int}{keys:Array Value}{e e1:Nat}{P:PySem.Fin→Shared→Prop}
theorem ks_tail{st:SortSt}(R:Hp c B H s)(oa:OutH B H a)(ok:OutH B H kS)(na:s.heap.get? a=some (seqObj "list" #[] e1))(nk:s.heap.get? kS=some (seqObj "list" keys e))(hka:kS≠a)
  (hk:IntsAre keys.toList kz) (hlen:kz.length=vs.length) (h64:vs.length<64) (hp:(arrOf st).Perm (keys.zip vs.toArray)) (hs:SortedTo (arrOf st) (arrOf st).size) (hfl:failedOf st=none)
  (h:∀h' tk out c',Hp c B H {s with heap:=h',toks:=tk}→h'.get? a=some (seqObj "list" out c')→KskOut b kz vs out.toList→P (.done (.ret .none)) {s with heap:=h',toks:=tk}):
  wpAny (model c.prog c.w) A (ksk_tail a b e1 (.ref kS) st) P E s:=by
 have hsz:keys.size=vs.length:=by
  have h1:=hk.length
  rw [Array.length_toList] at h1
  lia
 have hsz2:(arrOf st).size=vs.length:=by rw [hp.size_eq,Array.size_zip,hsz,List.size_toArray,Nat.min_self]
 have hout:(if b then ((arrOf st).map (·.2)).reverse else (arrOf st).map (·.2)).size=vs.length:=by
  induction b with
  |false=>simp only [Bool.false_eq_true,if_false,Array.size_map];exact hsz2
  |true=>simp only [if_true,Array.size_reverse,Array.size_map];exact hsz2
 have s1:=Heap.SameBut.update s.heap kS (Obj.mapSeq fun _=>(#[]:Array Value))
 have na1:(s.heap.update kS (Obj.mapSeq fun _=>(#[]:Array Value))).get? a=some (seqObj "list" #[] e1):=(s1.2 a hka.symm).trans na
 have s2:=Heap.SameBut.update (s.heap.update kS (Obj.mapSeq fun _=>(#[]:Array Value))) a (Obj.mapSeq fun _=>if b then ((arrOf st).map (·.2)).reverse else (arrOf st).map (·.2))
 have hc2:=get?_update_seq na1 fun _=>if b then ((arrOf st).map (·.2)).reverse else (arrOf st).map (·.2)
 unfold ksk_tail
 try dsimp only
 refine wpAny_bind (listUpdate_at nk rfl ?_ (by rw [hsz,sizeLine_eq];lia) (Nat.zero_le _))
 refine wpAny_bind (wpAny_letGo ?_)
 refine wpAny_bind (seqEpoch_at na1 rfl ?_)
 refine wpAny_bind (listUpdate_at na1 rfl ?_ (Nat.zero_le _) (Nat.le_trans (Nat.le_of_eq hout) (by rw [sizeLine_eq];lia)))
 rw [hfl]
 simp only [bne_self_eq_false,Bool.false_eq_true,if_false]
 exact wpAny_pure (h _ s.toks _ _ ((R.away (t:=s.toks) ok s1.extBut).away (t:=s.toks) oa s2.extBut) hc2 (ksk_out hk hp hs))
theorem ks_end(R:Hp c B H s)(oa:OutH B H a)(ok:OutH B H kS)(na:s.heap.get? a=some (seqObj "list" #[] e1))(nk:s.heap.get? kS=some (seqObj "list" keys e))(hka:kS≠a)
  (hk:IntsAre keys.toList kz) (hlen:kz.length=vs.length) (h64:vs.length<64)
  (h:∀h' tk out c',Hp c B H {s with heap:=h',toks:=tk}→h'.get? a=some (seqObj "list" out c')→KskOut b kz vs out.toList→P (.done (.ret .none)) {s with heap:=h',toks:=tk}):
  wpAny (model c.prog c.w) A (ksk_end a b vs.toArray e1 (.ref kS) keys) P E s:=by
 have hsz:keys.size=vs.length:=by
  have h1:=hk.length
  rw [Array.length_toList] at h1
  lia
 have hzs:(keys.zip vs.toArray).size=vs.length:=by rw [Array.size_zip,hsz,List.size_toArray,Nat.min_self]
 have step:∀t:Sem PySem.Fin,wpAny (model c.prog c.w) A t P E s→wpAny (model c.prog c.w) A (if b=true then (do let _ ←rule "list.sort.reverse";t) else t) P E s:=by
  intro t ht
  split
  ·exact wpAny_bind (wpAny_rule ht)
  ·exact ht
 have hstart:(if b=true then (keys.zip vs.toArray).reverse else keys.zip vs.toArray).Perm (keys.zip vs.toArray):=by
  induction b with
  |false=>exact Array.Perm.refl _
  |true=>exact Array.perm_iff_toList_perm.mpr (by rw [if_pos rfl,Array.toList_reverse];exact List.reverse_perm _)
 unfold ksk_end
 try dsimp only
 refine step _ ?_
 by_cases h2:vs.toArray.size<2
 ·rw [if_pos h2,if_pos h2]
  refine wpAny_bind (wpAny_pure ?_)
  rw [StateT.run_pure]
  refine wpAny_bind (wpAny_pure ?_)
  try dsimp only
  refine ks_tail (st:=SortSt.mk' general' (if b=true then (keys.zip vs.toArray).reverse else keys.zip vs.toArray) #[] 7 none) R oa ok na nk hka hk hlen h64 hstart ?_ rfl h
  intro i j hij hj
  have hj2:j<(if b=true then (keys.zip vs.toArray).reverse else keys.zip vs.toArray).size:=hj
  rw [hstart.size_eq,hzs] at hj2
  rw [List.size_toArray] at h2
  have:i=j:=by lia
  subst this
  exact Int.le_refl _
 ·rw [if_neg h2,if_neg h2]
  rw [List.size_toArray] at h2
  rw [ksk_kind hk (by rw [hsz];exact Nat.not_lt.mp ‹_›)]
  refine wpAny_bind (wpAny_pure ?_)
  refine wpAny_bind (wpAny_mono (wpS_sortRuns (a₀:=keys.zip vs.toArray) (st:=SortSt.mk' oneType' (if b=true then (keys.zip vs.toArray).reverse else keys.zip vs.toArray) #[] 7 none)
   (Q:=fun _ st'=>(arrOf st').Perm (keys.zip vs.toArray)∧failedOf st'=none∧SortedTo (arrOf st') (keys.zip vs.toArray).size)
   (ksk_intKeys hk) ⟨hstart,rfl,rfl,rfl⟩ (by rw [hzs];exact Nat.not_lt.mp ‹_›) (by rw [hzs];exact h64) fun st' a1 a2 a3=>⟨a1,a2,a3⟩) ?_ fun _ _ e=>e)
  rintro ⟨⟨⟩,st'⟩ s' ⟨rfl,hp,hf,hs⟩
  try dsimp only
  exact ks_tail R oa ok na nk hka hk hlen h64 hp (by rw [hp.size_eq];exact hs) hf h
theorem ks_rest{f:Value}(R:Hp c B H s)(oa:OutH B H a)(ok:OutH B H kS)(na:s.heap.get? a=some (seqObj "list" #[] e1))(nk:s.heap.get? kS=some (seqObj "list" #[] 0))(hka:kS≠a)
  (hlen:kz.length=vs.length) (h64:vs.length<64)
  (turn:∀(i:Nat) (v:Value) (k:Int),vs[i]?=some v→kz[i]?=some k→∀(B':Bs) (s:Shared),(∀b o,B b=some o→B' b=some o)→Hp c B' H s→wpAny (model c.prog c.w) A (call f [v]) (PH c B' fun w H'=>w= .int k∧H'=H) (fun _ _=>False) s)
  (h:∀s' out c',Hp c B H s'→s'.heap.get? a=some (seqObj "list" out c')→KskOut b kz vs out.toList→P (.done (.ret .none)) s'):
  wpAny (model c.prog c.w) A (ksk_rest a f b vs.toArray e1 (.ref kS)) P E s:=by
 unfold ksk_rest
 refine wpAny_bind (wpAny_rule ?_)
 first
  |rw [List.forIn_toArray]
  |(rw [←Array.forIn_toList];simp only [List.toList_toArray])
  |rw [←Array.forIn_toList]
 refine wpAny_bind (ksk_fold (fun i s'=>Ex2 fun kA e=>An4 (Hp c B H s') (s'.heap.get? a=some (seqObj "list" #[] e1)) (s'.heap.get? kS=some (seqObj "list" kA e)) (IntsAre kA.toList (kz.take i))) vs 0 s
  ⟨#[],0,R,na,nk,by simpa using IntsAre.nil⟩ ?step ?done)
 case step=>
  rintro j x s' hx ⟨kA,e,R',na',nk',hk⟩
  simp only [Nat.zero_add] at hk⊢
  have hj:j<vs.length:=(List.getElem?_eq_some_iff.mp hx).1
  obtain ⟨k,hkj⟩:∃k,kz[j]?=some k:=⟨_,List.getElem?_eq_getElem (by lia)⟩
  have hz:kA.size≤vs.length:=by
   have h1:=hk.length
   rw [Array.length_toList,List.length_take] at h1
   lia
  have ho:∀d∈[a,kS],OutH B H d:=fun d hd=>by
   simp only [List.mem_cons,List.not_mem_nil,or_false] at hd
   rcases hd with rfl|rfl
   ·exact oa
   ·exact ok
  refine wpAny_bind (wpAny_attempt (wpAny_mono (turn j x k hx hkj _ s' (fun b o e=>by unfold Mine.hold;rw [if_neg (fun q=>by rw [(ho b q).b] at e;cases e)];exact e) (R'.hold ho)) (fun v s'' he=>?_) fun _ _ hF=>hF.elim))
  refine nn fun hC=>?_
  obtain ⟨H2,R2,q1,rfl⟩:=he
  obtain ⟨t2,rfl⟩:=vq q1
  obtain ⟨R3,k3⟩:=R'.unhold R2 ho
  refine hC ?_
  have na2:=(k3 a (by simp) _ na').1
  have nk2:=(k3 kS (by simp) _ nk').1
  try dsimp only
  have s1:=Heap.SameBut.update s''.heap kS (Obj.mapSeq (·.push (.int k t2)))
  have hc2:=get?_update_seq nk2 (·.push (.int k t2))
  have ek:kz.take (j+1)=kz.take j++[k]:=by rw [List.take_add_one,hkj];simp
  have ea:(kA.push (Value.int k t2)).toList=kA.toList++[Value.int k t2]:=by simp
  refine wpAny_bind (listUpdate_at nk2 rfl ?_ (by rw [sizeLine_eq];lia) (Nat.le_trans (Nat.le_of_eq (Array.size_push ..)) (by rw [sizeLine_eq];lia)))
  exact wpAny_pure ⟨rfl,kA.push (.int k t2),_,R3.away (t:=s''.toks) ok s1.extBut,(s1.2 a hka.symm).trans na2,hc2,by rw [ea,ek];exact ksk_snoc hk⟩
 case done=>
  rintro s' ⟨kA,e,R',na',nk',hk⟩
  have hk':IntsAre kA.toList kz:=by
   have e3:kz.take (0+vs.length)=kz:=List.take_of_length_le (by lia)
   rw [e3] at hk
   exact hk
  try dsimp only
  refine wpAny_bind (listItems_at nk' rfl ?_)
  exact ks_end R' oa ok na' nk' hka hk' hlen h64 fun h3 tk3 out c3 R3 n3 k3=>h _ out c3 R3 n3 k3
theorem ks_sort{f:Value}{n:Nat}(R:Hp c B H s)(oa:OutH B H a)(ho:s.heap.get? a=some (seqObj "list" vs.toArray n))
  (hlen:kz.length=vs.length) (h64:vs.length<64)
  (turn:∀(i:Nat) (v:Value) (k:Int),vs[i]?=some v→kz[i]?=some k→∀(B':Bs) (s:Shared),(∀b o,B b=some o→B' b=some o)→Hp c B' H s→wpAny (model c.prog c.w) A (call f [v]) (PH c B' fun w H'=>w= .int k∧H'=H) (fun _ _=>False) s)
  (h:∀s' out c',Hp c B H s'→s'.heap.get? a=some (seqObj "list" out c')→KskOut b kz vs out.toList→P (.done (.ret .none)) s'):
  wpAny (model c.prog c.w) A (ksk_tree a f b) P E s:=by
 have ha:a<s.heap.objs.size:=Heap.lt_size ho
 have s1:=Heap.SameBut.update s.heap a (Obj.mapSeq fun _=>(#[]:Array Value))
 have ho1:=get?_update_seq ho fun _=> #[]
 have R1:Hp c B H {s with heap:=s.heap.update a (Obj.mapSeq fun _=>(#[]:Array Value))}:=R.away (t:=s.toks) oa s1.extBut
 have hkS:((s.heap.update a (Obj.mapSeq fun _=>(#[]:Array Value))).push (seqObj "tuple" vs.toArray 0)).objs.size=s.heap.objs.size+1:=by rw [size_push',Heap.size_update]
 unfold ksk_tree
 refine wpAny_bind (listItems_at ho rfl ?_)
 refine wpAny_bind (listUpdate_at ho rfl ?_ (by rw [List.size_toArray,sizeLine_eq];lia) (Nat.zero_le _))
 refine wpAny_bind (seqEpoch_at ho1 rfl ?_)
 refine wpAny_bind (wpAny_newTuple ?_ (by show vs.length≤_;rw [sizeLine_eq];lia))
 refine wpAny_bind (wpAny_newList ?_ (Nat.zero_le _))
 refine wpAny_holding ?_
 have R2:Hp c B H {s with heap:=(s.heap.update a (Obj.mapSeq fun _=>(#[]:Array Value))).push (seqObj "tuple" vs.toArray 0)}:=R1.grow (t:=s.toks) fun b o e=>Heap.get?_push_of_some _ e
 have R3:Hp c B H {s with heap:=((s.heap.update a (Obj.mapSeq fun _=>(#[]:Array Value))).push (seqObj "tuple" vs.toArray 0)).push (seqObj "list" #[] 0)}:=R2.grow (t:=s.toks) fun b o e=>Heap.get?_push_of_some _ e
 refine ks_rest (s:={s with heap:=((s.heap.update a (Obj.mapSeq fun _=>(#[]:Array Value))).push (seqObj "tuple" vs.toArray 0)).push (seqObj "list" #[] 0)}) (kS:=((s.heap.update a (Obj.mapSeq fun _=>(#[]:Array Value))).push (seqObj "tuple" vs.toArray 0)).objs.size)
  R3 oa (R2.outH (freshA {s with heap:=(s.heap.update a (Obj.mapSeq fun _=>(#[]:Array Value))).push (seqObj "tuple" vs.toArray 0)})) (Heap.get?_push_of_some _ (Heap.get?_push_of_some _ ho1)) (Heap.get?_push_size _ rfl) (by rw [hkS];exact Nat.ne_of_gt (Nat.lt_succ_of_lt ha)) hlen h64 turn h
theorem ks_sorted{Q:V→AH→Prop}{f:Value}{r:Addr}{kw:List (Str×Value)}(C:List Value→Prop)(kz:List Value→List Int)(R:Hp c B H s)(hlen:∀vs,C vs→(kz vs).length=vs.length)(h64:∀vs,C vs→vs.length<64)
  (ha1:argsOk "sorted" ⟨[.ref r],kw⟩) (ha2:∀x,argsOk "list.sort" ⟨[.ref x],kw⟩) (ht:∀x,Builtin.«list.sort» ⟨[.ref x],kw⟩=ksk_tree x f b)
  (col:∀(P:List Value→Shared→Prop) (E:Value→Shared→Prop),(∀vs h' tk,C vs→(∀b o,s.heap.get? b=some o→h'.get? b=some o)→P vs {s with heap:=h',toks:=tk})→wpAny (model c.prog c.w) A.in1 (collect (.ref r)) P E s)
  (turn:∀vs,C vs→∀(i:Nat) (v:Value) (k:Int),vs[i]?=some v→(kz vs)[i]?=some k→∀(B':Bs) (s:Shared),(∀b o,B b=some o→B' b=some o)→Hp c B' H s→wpAny (model c.prog c.w) A.in1.in1 (call f [v]) (PH c B' fun w H'=>w= .int k∧H'=H) (fun _ _=>False) s)
  (h:∀vs,C vs→∀out,KskOut b (kz vs) vs out→∀x,H x=none→Q (.ref x) (H.set x (.lst (out.map av)))):
  wpAny (model c.prog c.w) A (call (.builtin "sorted") [.ref r] kw) (PH c B Q) E s:=by
 refine call_function_entry_kw kind_sorted plain_sorted entry_sorted ha1 ?_
 unfold Builtin.«sorted»
 refine wpAny_bind (m:=checkCount "sorted" 1 1 _) (wpAny_pure ?_)
 refine wpAny_bind (col _ _ fun vs h1 tk1 hC keep=>?_)
 have hlen:=hlen vs hC
 have h64:=h64 vs hC
 have turn:=turn vs hC
 have h:=h vs hC
 have R1:Hp c B H {s with heap:=h1,toks:=tk1}:=R.grow keep
 refine wpAny_bind (wpAny_newList ?_ (by rw [sizeLine_eq];lia))
 have R2:Hp c B H {s with heap:=h1.push (seqObj "list" vs.toArray 0),toks:=tk1}:=R1.grow (t:=tk1) fun b o e=>Heap.get?_push_of_some _ e
 have hoL:(h1.push (seqObj "list" vs.toArray 0)).get? h1.objs.size=some (seqObj "list" vs.toArray 0):=Heap.get?_push_size _ rfl
 have oL:OutH B H h1.objs.size:=R1.outH (freshA {s with heap:=h1,toks:=tk1})
 refine wpAny_bind (wpAny_holding (wpAny_call_entry_kw slot_list_sort ⟨_,hoL,rfl⟩ entry_list_sort ?body (ha2 _)))
 case body=>
  have ht':=ht h1.objs.size
  show wpAny (model c.prog c.w) A.in1.in1 (Builtin.«list.sort» ⟨[.ref h1.objs.size],kw⟩) _ _ _
  rw [ht']
  refine ks_sort (s:={s with heap:=h1.push (seqObj "list" vs.toArray 0),toks:=tk1}) R2 oL hoL hlen h64 turn fun s' out c' R' n' k'=>⟨_,rfl,?_⟩
  refine wpAny_pure ⟨_,rfl,_,?_,h out.toList k' _ oL.h⟩
  have hl:out.toList.length≤sz:=by
   obtain ⟨ps,p1,p2,p3⟩:=k'
   rw [p2,List.length_map,p1.length_eq,List.length_zip,hlen,Nat.min_self]
   unfold sz;lia
  refine ⟨R'.gens,R'.base,R'.keep,fun d y z=>?_,fun d y z=>?_⟩
  ·unfold AH.set at z
   by_cases q:d=h1.objs.size
   ·subst q;rw [if_pos rfl] at z;cases z;exact ⟨out,⟨_,n'⟩,rfl,by simpa using hl⟩
   ·rw [if_neg q] at z;exact R'.real _ _ z
  ·unfold AH.set at z
   by_cases q:d=h1.objs.size
   ·subst q;exact oL.b
   ·rw [if_neg q] at z;exact R'.apart _ _ z
end
section
variable{c:Cx}{B:Bs}{H:AH}{s:Shared}{A:Around}{E:Value→Shared→Prop}{Q:V→AH→Prop}
theorem col_list{l:Addr}{vs:List Value}(hl:s.heap.IsList l vs.toArray)(h64:vs.length<64)(P:List Value→Shared→Prop)(E:Value→Shared→Prop)(h:∀h' tk,(∀b o,s.heap.get? b=some o→h'.get? b=some o)→P vs {s with heap:=h',toks:=tk}):
  wpAny (model c.prog c.w) A (collect (.ref l)) P E s:=by
 refine collect_list hl (h _ s.toks fun b o q=>?_) (by rw [sizeLine_eq];lia)
 have hlt:b<s.heap.objs.size:=Heap.lt_size q
 rw [Heap.get?_update_ne _ _ _ _ (Nat.ne_of_lt hlt),Heap.get?_push_ne _ _ _ (Nat.ne_of_lt hlt)]
 exact q
theorem col_dict{d:Addr}{kvs:List (Int×Value)}{ep:Nat}(hm:s.heap.DictAt (intKind c.prog c.w) d kvs ep)(lo:(d==sysModules)=false)(hh:A.handled=none)(hn:kvs.length≤sizeLine){P:List Value→Shared→Prop}{E:Value→Shared→Prop}
  (h:∀vs h' tk,vs.map av=kvs.map (fun e=>V.int e.1)→(∀b o,s.heap.get? b=some o→h'.get? b=some o)→P vs {s with heap:=h',toks:=tk}):
  wpAny (model c.prog c.w) A (collect (.ref d)) P E s:=by
 have hd:d<s.heap.objs.size:=hm.lt_size
 unfold collect
 refine wpAny_bind (wpAny_runValue (codeAny_builtin entry_proto_collect' ?_))
 show wpAny _ _ (do again (.builtin "list.__iadd__" ⟨[←newList [],.ref d],[]⟩)) _ _ s
 refine wpAny_bind (wpAny_newList (wpAny_pure ⟨Code.quiet_builtin _ (by decide+kernel),?_⟩))
 have key:∀(R:Result→Shared→Prop),(∀h' tk acc' c',(∀b o,b≠s.heap.objs.size→(s.heap.push (seqObj "list" #[] 0)).get? b=some o→h'.get? b=some o)→
   h'.get? s.heap.objs.size=some {cls:= .type "list",dict:=none,data:= .seq acc' c',slots:= #[]}→ItemsOf (fun i v=>∃k x,kvs[i]?=some (k,x)∧(intKind c.prog c.w).is k v=true) acc' kvs.length→R (.ok (.ret (.ref s.heap.objs.size))) {s with heap:=h',toks:=tk})→
   codeAny (model c.prog c.w) A (.builtin "list.__iadd__" ⟨[.ref s.heap.objs.size,.ref d],[]⟩) R {s with heap:=s.heap.push (seqObj "list" #[] 0)}:=fun R h=>by
  refine codeAny_builtin entry_list_iadd' ?_
  rw [Around.under_plainId (by decide+kernel) _]
  exact kdl_extend (A:=A) (s:={s with heap:=s.heap.push (seqObj "list" #[] 0)}) (R:=R) (kdl_dict lo) hh (hm.push _) s.heap.objs.size (Nat.ne_of_gt hd) (Nat.ne_of_gt hd) _ 0 (Heap.get?_push_size _ rfl) h hn
 refine key _ fun h' tk acc c' k1 k2 k3=>?_
 refine wpAny_bind (wpAny_load k2 ?_)
 refine wpAny_pure (h acc.toList h' tk ?_ fun b o q=>?_)
 ·obtain ⟨k4,k5⟩:=k3
  apply List.ext_getElem?
  intro i
  rw [List.getElem?_map,List.getElem?_map]
  by_cases hi:i<kvs.length
  ·have hi':i<acc.size:=by rw [k4];exact hi
   refine nn fun hC=>?_
   obtain ⟨k,x,e1,e2⟩:=k5 i acc[i] (by rw [Array.getElem?_eq_getElem hi'])
   obtain ⟨t,e3⟩:=Value.isInt_shape e2
   refine hC ?_
   rw [Array.getElem?_toList,Array.getElem?_eq_getElem hi',e1,e3];rfl
  ·rw [List.getElem?_eq_none (by rw [Array.length_toList,k4];exact Nat.not_lt.mp ‹_›),List.getElem?_eq_none (by exact Nat.not_lt.mp ‹_›)];rfl
 ·exact k1 b o (Nat.ne_of_lt (Heap.lt_size q)) (Heap.get?_push_of_some _ q)
noncomputable def keyZ(g:V→Int)(vs:List Value):List Int:=vs.map fun v=>g (av v)
theorem keyZ_zip(g:V→Int)(vs:List Value):(keyZ g vs).zip vs=vs.map fun v=>(g (av v),v):=by
 unfold keyZ
 rw [List.zip_map_left]
 induction vs with
 |nil=>rfl
 |cons v r ih=>simp [ih]
theorem out_of{g:V→Int}{vs out:List Value}{b:Bool}(h:KskOut b (keyZ g vs) vs out):(out.map av).Perm (vs.map av)∧(out.map av).Pairwise fun p q=>if b then g q≤g p else g p≤g q:=by
 obtain ⟨ps,p1,rfl,p3⟩:=h
 rw [keyZ_zip] at p1
 have hk:∀p∈ps,p.1=g (av p.2):=fun p hp=>by
  have:=p1.mem_iff.mp hp
  obtain ⟨v,_,rfl⟩:=List.mem_map.mp this
  rfl
 refine ⟨?_,?_⟩
 ·have:=(p1.map Prod.snd).map av
  simpa [List.map_map,Function.comp_def] using this
 ·rw [List.map_map,List.pairwise_map]
  refine p3.imp_of_mem fun {p q} hp hq r=>?_
  simp only [Function.comp]
  rw [←hk p hp,←hk q hq]
  exact r
noncomputable def absK(v:V):Int:=v.el 0 (it:=fun i=>i.natAbs)
theorem absLe_of{l:List V}(hl:l.all V.isI=true)(h:l.Pairwise fun p q=>absK p≤absK q):l.Pairwise absLe:=by
 rw [List.all_eq_true] at hl
 refine h.imp_of_mem fun {p q} hp hq r=>?_
 obtain ⟨i,rfl⟩:=V.isI_eq (hl p hp)
 obtain ⟨j,rfl⟩:=V.isI_eq (hl q hq)
 exact Int.ofNat_le.mp r
theorem turn_abs{B₀:Bs}{vs:List Value}(hv:∀v∈vs,(av v).isI=true):∀(i:Nat) (v:Value) (k:Int),vs[i]?=some v→(keyZ absK vs)[i]?=some k→∀(B:Bs) (s:Shared),(∀b o,B₀ b=some o→B b=some o)→Hp c B H s→
  wpAny (model c.prog c.w) A (call (.builtin "abs") [v]) (PH c B fun w H'=>w= .int k∧H'=H) (fun _ _=>False) s:=by
 intro i v k h1 h2 B s hB R
 unfold keyZ at h2
 rw [List.getElem?_map,h1] at h2
 cases h2
 obtain ⟨j,e⟩:=V.isI_eq (hv v (List.mem_of_getElem? h1))
 obtain ⟨t,rfl⟩:=vq e
 exact o_abs R ⟨rfl,rfl⟩
theorem o_sortAbs(G:Gd c)(hh:A.handled=none){a:Addr}(R:Hp c B H s)(h:biW .sortAbs [.ref a] H Q):wpAny (model c.prog c.w) A (call (.builtin "sorted") [.ref a] [(Str.ofString "key",.builtin "abs")]) (PH c B Q) E s:=by
 refine nn fun hC=>?_
 obtain ⟨o,e,h⟩:=zh (show ifS (H.see a) _ from h)
 obtain ⟨l,e3,h⟩:=zh h
 obtain ⟨h1,h2,h3⟩:=h
 refine hC ?_
 have fin:∀vs:List Value,vs.map av=l→(∀v∈vs,(av v).isI=true)∧vs.length<64:=fun vs hv=>by
  subst hv
  rw [List.all_eq_true] at h1
  rw [List.length_map] at h2
  exact ⟨fun v hm=>h1 _ (List.mem_map_of_mem hm),h2⟩
 refine ks_sorted (fun vs=>vs.map av=l) (keyZ absK) (b:=false) R (fun vs _=>by simp [keyZ]) (fun vs hv=>(fin vs hv).2) (ksk_s1 _ _) (fun _=>ksk_l1 _ _) (fun _=>ksk_t4 _ _) (fun P E hc=>?_) (fun vs hv=>turn_abs (fin vs hv).1) fun vs hv out k x hx=>?_
 ·rcases O.k_eq e3 with rfl|⟨es,rfl,rfl⟩
  ·obtain ⟨xs,p,e1,e2⟩:=R.see e
   exact col_list (by simpa using plainL p) (fin _ e1).2 P E fun h' tk k=>hc _ h' tk e1 k
  ·refine nn fun hC=>?_
   obtain ⟨kvs,p,e1,e2⟩:=R.see e
   obtain ⟨ep,hm⟩:=p.dictAt
   refine hC ?_
   have hle:kvs.length=es.length:=dct_len (a:=a) e1
   have hk:kvs.map (fun e=>V.int e.1)=keysOf es:=by rw [←e1];unfold keysOf;rw [List.map_map];rfl
   exact col_dict (A:=A.in1) hm (R.noMods G e) hh (wx (by lia)) fun vs h' tk q k=>hc _ h' tk (q.trans hk) k
 ·obtain ⟨q1,q2⟩:=out_of k
  rw [hv] at q1
  refine h3 _ q1 (absLe_of ?_ (by simpa using q2)) x hx
  rw [List.all_eq_true] at h1⊢
  exact fun v hv=>h1 v (q1.mem_iff.mp hv)
theorem turn_call{f:Nat}{F:Nat→Addr}{g:V→Int}{ov:Value}{q:Addr}{sp:Sp}(hc:Calls c A sp F)(hf:f<1000){vs:List Value}{B₀:Bs}(hq:B₀ q=some (methodObj (.ref (F f)) ov))(h:∀v∈vs.map av,sp f [av ov,v] H fun w H'=>w= .int (g v)∧H'=H):∀(i:Nat) (v:Value) (k:Int),vs[i]?=some v→(keyZ g vs)[i]?=some k→∀(B:Bs) (s:Shared),(∀b o,B₀ b=some o→B b=some o)→Hp c B H s→
  wpAny (model c.prog c.w) A (call (.ref q) [v]) (PH c B fun w H'=>w= .int k∧H'=H) (fun _ _=>False) s:=by
 intro i v k h1 h2 B s hB R
 unfold keyZ at h2
 rw [List.getElem?_map,h1] at h2
 cases h2
 refine wpAny_call (method_call (R.keep _ _ (hB _ _ hq)) (codeAny_mono (hc f [ov,v] hf R (h (av v) (List.mem_map_of_mem (List.mem_of_getElem? h1)))) fun r s' hr=>?_))
 obtain ⟨v,rfl,hv⟩:=hr
 exact hv
end
end Mine
end
section
open PySem PySem.W PySem.Calls PyProof.Rows
namespace Mine
section
variable{c:Cx}{B:Bs}{env:Env}{own:List Str}{sl:Sl}{m:List V}{H:AH}{s:Shared}{A:Around}{E:Value→Shared→Prop}{sp:Sp}{Q:V→AH→Prop}{sc:Scope}{F:Nat→Addr}
theorem ev_callG(L:Lw c A sp F){n:Str}{np pos:Pos}{args:List PySem.Expr}{xs:List X}{g:Nat}(hg:glb sc n=true)(hx:c.T.globs.lookup n=some g)(hs:EsR c A sp sc sl args xs):
  EvR c A sp sc sl (.Call (.Name n np) args [] pos) (.callG g xs):=fun B env own m H s Q E hsc R q=>by
 obtain ⟨e1,e2⟩:=L.tb.glob n g hx
 refine Call_Name rfl (name_glob L.G hg hsc R e1 (with_K L.G e2 hs hsc R q fun vs H' s' hl R' q'=>?_))
 exact lift R' fun R2=>call_of L.calls g vs (L.lt.glob n g hx) R2 q'
theorem bv_all:∀x∈bvTab,bootBuiltins x.1=some x.2∧x.1∈(["abs","len","list","tuple","int","isinstance","bool","range","sorted","super"]:List Str)∧x.1≠"__name__":=by decide+kernel
theorem biVal_boot{f:Str}{v:Value}(h:biVal f=some v):bootBuiltins f=some v∧f∈(["abs","len","list","tuple","int","isinstance","bool","range","sorted","super"]:List Str)∧f≠"__name__":=bv_all (f,v) (by
 obtain ⟨l1,l2,e,_⟩:=List.lookup_eq_some_iff.mp h
 rw [e];simp)
theorem name_biv(L:Lw c A sp F){n:Str}{pos:Pos}{v:Value}{P:Value→Shared→Prop}(hg:glb sc n=true)(hsc:∀n,kd env.scope n=kd sc n)(R:Rep c B env own sl m H s)(hv:biVal n=some v)(q:P v s):
  wpAny (model c.prog c.w) A (eval (.Name n pos) env) P E s:=by
 obtain ⟨h1,h2,h3⟩:=biVal_boot hv
 exact name_bi L.G hg hsc R (L.tb.bi n h2) h3 h1 q
theorem bi_all:∀x∈boTab,biVal x.1=biFn x.2.2∧∃v,biFn x.2.2=some v∧keeperOf v=pure .machine:=
 allC ⟨by decide+kernel,_,rfl,rfl⟩ (allC ⟨by decide+kernel,_,rfl,rfl⟩ (allC ⟨by decide+kernel,_,rfl,rfl⟩ (allC ⟨by decide+kernel,_,rfl,rfl⟩ (allC ⟨by decide+kernel,_,rfl,rfl⟩ allN))))
theorem bi_val{f:Str}{k:Nat}{b:Mine.B}(h:biOf f k=some b):biVal f=biFn b∧∃v,biFn b=some v∧keeperOf v=pure .machine:=bi_all _ (bFind_eq h)
theorem ev_bi(L:Lw c A sp F){n:Str}{np pos:Pos}{args:List PySem.Expr}{xs:List X}{b:Mine.B}(hg:glb sc n=true)(hb:biOf n args.length=some b)(hs:EsR c A sp sc sl args xs):
  EvR c A sp sc sl (.Call (.Name n np) args [] pos) (.bi b xs):=fun B env own m H s Q E hsc R q=>by
 refine nn fun hC=>?_
 obtain ⟨h1,v,h2,h3⟩:=bi_val hb
 refine hC ?_
 refine Call_Name rfl (name_biv L hg hsc R (h1.trans h2) (with_M h3 hs hsc R q fun vs H' s' hl R' q'=>?_))
 exact lift R' fun R2=>call_bi L.G h2 R2 q'
theorem ev_isBool(L:Lw c A sp F){np tp pos:Pos}{e:PySem.Expr}{x:X}(hg:glb sc "isinstance"=true)(hg':glb sc "bool"=true)(hp:vg e=true)(h:EvR c A sp sc sl e x):
  EvR c A sp sc sl (.Call (.Name "isinstance" np) [e,.Name "bool" tp] [] pos) (.bi (.isBool ()) [x]):=fun B env own m H s Q E hsc R q=>by
 refine Call_Name rfl (name_biv L hg hsc R (v:= .builtin "isinstance") (by decide+kernel) ?_)
 rw [plain_star hp]
 refine callWith_of (P:=fun _=>True) rfl (fun h X=>⟨.machine,.inr (.inl rfl),by rw [show keeperOf (.builtin "isinstance")=pure .machine from rfl];exact .now⟩) (evalArgs_plain (spliced_cons (wpAny_mono (h hsc R q) (fun v s1 e1=>?_) fun _ _ x=>x)))
 obtain ⟨H1,R1,q1⟩:=e1
 refine spliced_cons (name_biv L hg' hsc R1 (v:= .type "bool") (by decide+kernel) (spliced_nil ⟨trivial,?_⟩))
 have q2:biW (.isBool ()) [av v] H1 Q:=q1
 cases hv:av v<;>rw [hv] at q2
 case bool b=>
  obtain rfl:=av_bool hv
  exact lift R1 fun R2=>o_isBool R2 q2
 all_goals exact (show False from q2).elim
theorem callWith_kw1{pos:Pos}{id:String}{t:Sem Value}{kw:List (Option Str×Sem Value)}{P:Value→Shared→Prop}(hall:kw.all (·.1.isSome)=true)(hall':kw.any (·.1.isNone)=false)
  (h:wpAny (model c.prog c.w) A t (fun v s₁=>wpAny (model c.prog c.w) A (evalAll (kw.map (·.2))) (fun ks s₂=>wpAny (model c.prog c.w) A (call (.builtin id) [v] ((kw.filterMap (·.1)).zip ks)) P E s₂) E s₁) E s):
  wpAny (model c.prog c.w) A (callWith pos (.builtin id) [] [(false,t)] kw) P E s:=
 callWith_builtin_kwB (first:=[]) rfl hall' (evalArgs_kw hall (spliced_cons (wpAny_mono h (fun v s₁ h₁=>spliced_nil h₁) fun _ _ x=>x)))
theorem ev_sortAbs(L:Lw c A sp F){np gp kp pos:Pos}{e:PySem.Expr}{x:X}(hg:glb sc "sorted"=true)(hg':glb sc "abs"=true)(hp:vg e=true)(h:EvR c A sp sc sl e x):
  EvR c A sp sc sl (.Call (.Name "sorted" np) [e] [⟨some "key",.Name "abs" gp,kp⟩] pos) (.bi .sortAbs [x]):=fun B env own m H s Q E hsc R q=>by
 refine wpAny_Call_Name_kw (name_biv L hg hsc R (v:= .builtin "sorted") (by decide+kernel) ?_)
 rw [plain_star hp]
 refine callWith_kw1 rfl rfl (wpAny_mono (h hsc R q) (fun v s1 e1=>?_) fun _ _ x=>x)
 obtain ⟨H1,R1,q1⟩:=e1
 refine wpAny_evalAll_cons (wpAny_bind (name_biv L hg' hsc R1 (v:= .builtin "abs") (by decide+kernel) (wpAny_bind (wpAny_standAt (wpAny_pure (wpAny_evalAll_nil ?_))))))
 have q2:biW .sortAbs [av v] H1 Q:=q1
 cases hv:av v<;>rw [hv] at q2
 case ref a=>
  obtain rfl:=vm hv
  exact lift R1 fun R2=>o_sortAbs L.G L.hh R2 q2
 all_goals exact (show False from q2).elim
end
section
variable{c:Cx}{B:Bs}{env:Env}{own:List Str}{sl:Sl}{m:List V}{H:AH}{s:Shared}{A:Around}{E:Value→Shared→Prop}{sp:Sp}{Q:V→AH→Prop}{sc:Scope}{F:Nat→Addr}
theorem meth_call{o:PySem.Expr}{name:Str}{ap pos:Pos}{args:List PySem.Expr}{P:Value→Shared→Prop}(hb:plainBase o=true)(hline:(ap.endLine==pos.line)=true)(hn:args.length<30)(hp:∀e∈args,vg e=true)
  (h:wpAny (model c.prog c.w) A (eval o env) (fun ov s₁=>∀pl,wpAny (model c.prog c.w) A (getMethod ov name pl) (fun r s₂=>wpAny (model c.prog c.w) A (callWith pos r.1 r.2 (backTo pos (starEach args env)) []) P E s₂) E s₁) E s):
  wpAny (model c.prog c.w) A (eval (.Call (.Attribute o name ap) args [] pos) env) P E s:=by
 rw [arm_eval_Call,attrBase_plain hb]
 refine wpAny_bind (wpAny_mono h (fun ov s₁ h₁=>?_) fun _ _ e=>e)
 refine wpAny_bind (wpAny_standAt ?_)
 have hall:(backTo pos (starEach args env)).all (!·.1)=true:=by
  rw [plain_each hp,back_each,List.all_map,List.all_eq_true];intro _ _;rfl
 have hform:methodCallForm (args.length+([]:List Keyword).length) (backTo pos (starEach args env)) (backToKw pos (keywordEach [] env))=true:=by
  unfold methodCallForm
  rw [hall]
  have:decide (args.length+([]:List Keyword).length+(if (backToKw pos (keywordEach [] env)).isEmpty=true then 0 else 1)<30)=true:=decide_eq_true (by show args.length+0+0<30;omega)
  rw [this];rfl
 have hpos:methodCallPos true o env ap pos=pure pos:=by unfold methodCallPos;simp [hline]
 unfold methodCall calleeOf
 rw [hform]
 refine wpAny_bind (wpAny_holding ?_)
 simp only [if_true]
 refine wpAny_mono (h₁ _) (fun r s₂ h₂=>?_) fun _ _ x=>x
 exact wpAny_bind (wpAny_of_eq hpos h₂)
theorem ev_callM(L:Lw c A sp F){o:PySem.Expr}{name:Str}{ap pos:Pos}{args:List PySem.Expr}{x:X}{xs:List X}{g:Nat}(hb:plainBase o=true)(hline:(ap.endLine==pos.line)=true)(hn:args.length<30)
  (hx:c.T.meths.lookup name=some g) (h:EvR c A sp sc sl o x) (hs:EsR c A sp sc sl args xs):EvR c A sp sc sl (.Call (.Attribute o name ap) args [] pos) (.callM g x xs):=fun B env own m H s Q E hsc R q=>by
 obtain ⟨e1,e2⟩:=L.tb.meth name g hx
 refine meth_call hb hline hn hs.1.1 (wpAny_mono (h hsc R q) (fun ov s1 h1=>?_) fun _ _ x=>x)
 intro pl
 obtain ⟨H1,R1,q1⟩:=h1
 obtain ⟨p,e,q2⟩:=zh q1
 obtain ⟨a,ha,hd,hes⟩:=insV_eq e
 obtain rfl:=vm ha
 refine o_meth L.G e1 R1.hp hd hes ?_
 refine with_K L.G e2 hs hsc R1 q2 fun vs H' s' hl R' q'=>?_
 exact lift R' fun R2=>call_of L.calls g (.ref a::vs) (L.lt.meth name g hx) R2 q'
theorem ev_bm(L:Lw c A sp F){o:PySem.Expr}{name:Str}{ap pos:Pos}{args:List PySem.Expr}{x:X}{xs:List X}{b:Mine.B}(hb:plainBase o=true)(hline:(ap.endLine==pos.line)=true)(hn:args.length<30)
  (hx:biMeth name args.length=some b) (h:EvR c A sp sc sl o x) (hs:EsR c A sp sc sl args xs):EvR c A sp sc sl (.Call (.Attribute o name ap) args [] pos) (.bm b x xs):=fun B env own m H s Q E hsc R q=>by
 refine meth_call hb hline hn hs.1.1 (wpAny_mono (h hsc R q) (fun ov s1 h1=>?_) fun _ _ x=>x)
 intro pl
 obtain ⟨H1,R1,q1⟩:=h1
 obtain ⟨a,ha,q2⟩:=zh q1
 obtain ⟨o,e,q3⟩:=zh q2
 obtain ⟨q4,q5⟩:=q3
 have ha:=V.r_eq ha
 obtain rfl:=vm ha
 clear q q1 q2
 have fin:∀id,biMt b=some id→wpAny (model c.prog c.w) A (callWith pos (.builtin id) [.ref a] (backTo pos (starEach args env)) []) (PE c B env own sl m Q) E s1:=fun id hid=>
  with_M (first:=[.ref a]) rfl hs hsc R1 q5 fun vs H' s' hl R' q'=>lift R' fun R2=>call_mt L.G hid R2 q'
 induction o with
 |lst l=>exact meth_list hx q4 R1.hp e fin
 |dct es=>exact meth_dict hx q4 R1.hp e fin
 |_=>exact q4.elim
theorem att_none{kvs:List (Str×Value)}{es:List (Nat×V)}(h:kvs.map (fun e=>(nmOf e.1,av e.2))=es.map (fun e=>(some e.1,e.2))){x:Str}(hx:nmOf x=none):valueAt kvs x=none:=by
 unfold valueAt
 rw [Option.map_eq_none_iff,List.find?_eq_none]
 intro e he z
 have:(nmOf e.1,av e.2)∈kvs.map (fun e=>(nmOf e.1,av e.2)):=List.mem_map_of_mem (f:=fun e:Str×Value=>(nmOf e.1,av e.2)) he
 rw [h] at this
 obtain ⟨f,_,q⟩:=List.mem_map.mp this
 have e1:=congrArg Prod.fst q
 simp only at e1
 rw [of_decide_eq_true z,hx] at e1
 cases e1
theorem o_bound(G:Gd c){f:Str}{a d g:Addr}{es:List (Nat×V)}{P:Value→Shared→Prop}{ex:Bool}(hk:keyChk c.K c.C f g=true)(R:Hp c B H s)(ha:H a=some (.inst d))(hd:H d=some (.att es))
  (q:∀s',Hp c B H s'→s'.heap.get? s.heap.objs.size=some (methodObj (.ref g) (.ref a))→B s.heap.objs.size=none→H s.heap.objs.size=none→s'.heap=s.heap.push (methodObj (.ref g) (.ref a))→s'={s with heap:=s'.heap,toks:=s'.toks}→P (.ref s.heap.objs.size) s'):
  wpAny (model c.prog c.w) A (getAttr (.ref a) f ex) P E s:=by
 unfold keyChk at hk
 simp only [Bool.and_eq_true,beq_iff_eq,Bool.not_eq_true',Option.isNone_iff_eq_none] at hk
 refine nn fun hC=>?_
 obtain ⟨⟨⟨⟨⟨⟨⟨k1,k2⟩,k3⟩,k4⟩,k5⟩,k6⟩,k7⟩,k8⟩:=hk
 obtain ⟨l,n,kvs,I,ho,hk,hp,hn,e1,e2⟩:=inst_at R ha hd
 refine hC ?_
 have hl:lookIn f (dictOf l n)=some none:=by rw [lookIn_dict,getL_of hk hp,att_none e1 k8]
 have hs:=freshA s
 refine get_bind (R.kin G) I (plainGet_of k2).1 (findObj_fn k1 k3 k5 k6 k7 hl) (plainGet_of k2).2
  (wpAny_call (fn_get (s:={s with toks:=s.toks+1}) (show c.K.In s.heap from R.kin G) (beq_iff_eq.mp k4) (handed_on rfl ?_)))
 exact q _ (R.grow (t:=s.toks+1) fun b o e=>Heap.get?_push_of_some _ e) (Heap.get?_push_size _ rfl) (R.freshB hs) (R.fresh hs) rfl rfl
theorem ev_sortH(L:Lw c A sp F){np kp rp cp ap pos:Pos}{ck:Nat}{e o:PySem.Expr}{x y:X}(hg:glb sc "sorted"=true)(hp:vg e=true)(hb:plainBase o=true)(h:EvR c A sp sc sl e x)(h':EvR c A sp sc sl o y):
  EvR c A sp sc sl (.Call (.Name "sorted" np) [e] [⟨some "key",.Attribute o c.T.keyN ap,kp⟩,⟨some "reverse",.Constant (.bool true) ck cp,rp⟩] pos) (.sortH c.T.keyF x y):=fun B env own m H s Q E hsc R q=>by
 refine wpAny_Call_Name_kw (name_biv L hg hsc R (v:= .builtin "sorted") (by decide+kernel) ?_)
 rw [plain_star hp]
 refine callWith_kw1 rfl rfl (wpAny_mono (h hsc R q) (fun v s1 e1=>?_) fun _ _ x=>x)
 obtain ⟨H1,R1,q1⟩:=e1
 refine wpAny_evalAll_cons (wpAny_bind ?_)
 rw [arm_eval_Attribute,attrBase_plain hb]
 refine wpAny_bind (wpAny_mono (h' hsc R1 q1) (fun ov s2 e2=>?_) fun _ _ x=>x)
 obtain ⟨H2,R2,q2⟩:=e2
 obtain ⟨a,hv,q3⟩:=zh q2
 obtain ⟨w,e1,q4⟩:=zh q3
 obtain ⟨l,hl,q5⟩:=zh q4
 obtain ⟨p',ei,q6⟩:=zh q5
 obtain ⟨b,ho,e2,e3⟩:=insV_eq ei
 rw [O.l_eq hl] at e1
 obtain rfl:=vm (V.r_eq hv)
 obtain rfl:=vm ho
 clear q q1 q2 q3 q4 q5 hv ei hl w
 refine nn fun hC=>?_
 obtain ⟨h64,g,k1,k2⟩:=q6
 refine hC ?_
 have hs:=freshA s2
 refine wpAny_bind (wpAny_standAt (wpAny_bind (wpAny_holding (o_bound L.G L.key R2.hp e2 e3 fun s3 R3 g3 b3 n3 he hs3=>?_))))
 refine wpAny_bind (wpAny_letTemporaryGo (wpAny_pure (wpAny_bind (wpAny_standAt (wpAny_pure ?_)))))
 refine wpAny_evalAll_cons (wpAny_bind (wpAny_pure (wpAny_bind (wpAny_standAt (wpAny_pure (wpAny_evalAll_nil ?_))))))
 have R4:Rep c B env own sl m H2 s3:=by
  rw [hs3];exact R2.grow fun b o e=>by rw [he];exact Heap.get?_push_of_some _ e
 refine lift R4 fun R5=>?_
 have hB:wz s3.heap H2 s2.heap.objs.size=some (methodObj (.ref (F c.T.keyF)) (.ref b)):=by unfold wz;rw [n3];exact g3
 obtain ⟨xs,p,p1,p2⟩:=R5.see e1
 have hl:xs.toList.length<64:=by have:=congrArg List.length p1;rw [List.length_map] at this;omega
 refine ks_sorted (fun vs=>vs=xs.toList) (keyZ g) (b:=true) R5 (fun vs _=>by simp [keyZ]) (fun vs hv=>hv▸hl) (ksk_s2 _ _ _) (fun _=>ksk_l2 _ _ _) (fun _=>ksk_t2 _ _ _) (fun P E h=>col_list (by simpa using plainL p) hl P E fun h' tk k=>h _ h' tk rfl k)
  (fun vs hv=>turn_call L.calls2 L.lt.key hB (by rw [hv,p1];exact k1)) fun vs hv out k x hx=>?_
 subst hv
 obtain ⟨z1,z2⟩:=out_of k
 rw [p1] at z1
 exact k2 _ z1 (by simpa using z2) x hx
end
section
variable{c:Cx}{B:Bs}{env:Env}{own:List Str}{sl:Sl}{m:List V}{H:AH}{s:Shared}{A:Around}{E:Value→Shared→Prop}{sp:Sp}{Q:V→AH→Prop}{sc:Scope}{F:Nat→Addr}
theorem ev_new(L:Lw c A sp F){np pos:Pos}{args:List PySem.Expr}{xs:List X}(hg:glb sc c.T.cls=true)(hs:EsR c A sp sc sl args xs):
  EvR c A sp sc sl (.Call (.Name c.T.cls np) args [] pos) (.new c.T.initF xs):=fun B env own m H s Q E hsc R q=>by
 have hc:=L.cls
 unfold clsChk at hc
 simp only [Bool.and_eq_true,beq_iff_eq] at hc
 refine nn fun hC=>?_
 obtain ⟨⟨⟨⟨k1,k2⟩,k3⟩,k4⟩,k5⟩:=hc
 refine hC ?_
 refine Call_Name rfl (name_glob L.G hg hsc R k1 (with_K L.G k2 hs hsc R q fun vs H' s' hl R' q'=>?_))
 refine wpAny_call ?_
 have X:=R'.hp.kin L.G
 obtain ⟨h,g,dr,t,os⟩:=s'
 refine make_core (makes_of X k3) (looks_findIn X k4) (fun self=>bind_fn X self k5) (.inl rfl) ?_
 have R1:Rep c B env own sl m H' ⟨h.push emptyDict,g,dr,t,os⟩:=R'.grow (t:=t) fun b o e=>Heap.get?_push_of_some _ e
 have R2:Rep c B env own sl m H' ⟨(h.push emptyDict).push (instObj c.C h.objs.size),g,dr,t,os⟩:=R1.grow (t:=t) fun b o e=>Heap.get?_push_of_some _ e
 have e1:(h.push emptyDict).objs.size=h.objs.size+1:=Heap.size_push ..
 have od:Out B env H' h.objs.size:=R'.out (freshA ⟨h,g,dr,t,os⟩)
 have ox:Out B env H' (h.objs.size+1):=by rw [←e1];exact R1.out (freshA ⟨h.push emptyDict,g,dr,t,os⟩)
 have gx:((h.push emptyDict).push (instObj c.C h.objs.size)).get? (h.objs.size+1)=some (instObj c.C h.objs.size):=by rw [←e1];exact Heap.get?_push_size _ rfl
 have gd:((h.push emptyDict).push (instObj c.C h.objs.size)).get? h.objs.size=some emptyDict:=Heap.get?_push_of_some _ (Heap.get?_push_size _ rfl)
 have hne:h.objs.size+1≠h.objs.size:=Nat.succ_ne_self _
 have R3:=R2.take (x:= .inst h.objs.size) ox gx
 have od3:Out B env (H'.set (h.objs.size+1) (.inst h.objs.size)) h.objs.size:=⟨od.b,by unfold AH.set;rw [if_neg hne.symm];exact od.h,od.l,od.c⟩
 have R4:=R3.take (x:= .att []) od3 ⟨[],dictNil gd,rfl,Nat.zero_le _⟩
 refine codeAny_mono (L.calls1 vs c.T.initF (.ref (h.objs.size+1)::vs) L.lt.init R4.hp.whole (q' (h.objs.size+1) h.objs.size ox.h od.h hne)) fun r s' hr=>?_
 refine nn fun hC=>?_
 obtain ⟨v,rfl,H3,a,b1,b2⟩:=hr
 refine hC ?_
 exact ⟨av_none b1,H3,R4.back a,b2⟩
theorem it_src(L:Lw c A sp F){e:PySem.Expr}{x:X}(h:EvR c A sp sc sl e x):ItR c A sp sc sl e (.src x):=fun B env own m H s K E hsc R q=>by
 refine wpAny_mono (h (Q:=fun v H=>itW H v K) hsc R q) (fun v s1 e1=>?_) fun _ _ x=>x
 obtain ⟨H1,R1,q1⟩:=e1
 exact o_iter L.G L.hh R1 q1
theorem it_range2(L:Lw c A sp F){np pos:Pos}{a b:PySem.Expr}{x y:X}(hg:glb sc "range"=true)(ha:vg a=true)(hb:vg b=true)(h1:EvR c A sp sc sl a x)(h2:EvR c A sp sc sl b y):
  ItR c A sp sc sl (.Call (.Name "range" np) [a,b] [] pos) (.rng x y):=fun B env own m H s K E hsc R q=>by
 refine Call_Name rfl (name_biv L hg hsc R (v:= .type "range") (by decide+kernel) (with_M (first:=[]) rfl (es_cons ha h1 (es_cons hb h2 es_nil)) hsc R (Q:=fun vs H=>ifS (pairL vs) fun p=>ifS p.1.i? fun i=>ifS p.2.i? fun j=> -big≤i∧i<big∧-big≤j∧j<big∧K (rngL i j) (fun _=>True) (fun H=>H) H) q fun vs H' s' hl R' q'=>?_))
 obtain ⟨p,e,q'⟩:=zh q'
 obtain ⟨i,e1,q'⟩:=zh q'
 obtain ⟨j,e2,q'⟩:=zh q'
 obtain ⟨u,u',rfl,e3,e4⟩:=map2 (pairL_inv _ _ e)
 obtain ⟨t,rfl⟩:=vq (e3.trans (V.i_eq e1))
 obtain ⟨t',rfl⟩:=vq (e4.trans (V.i_eq e2))
 exact o_range2 L.hh R' q'.1 q'.2.1 q'.2.2.1 q'.2.2.2.1 q'.2.2.2.2
theorem it_range1(L:Lw c A sp F){np pos:Pos}{b:PySem.Expr}{y:X}(hg:glb sc "range"=true)(hb:vg b=true)(h2:EvR c A sp sc sl b y):
  ItR c A sp sc sl (.Call (.Name "range" np) [b] [] pos) (.rng (.c (.int 0)) y):=fun B env own m H s K E hsc R q=>by
 refine Call_Name rfl (name_biv L hg hsc R (v:= .type "range") (by decide+kernel) (with_M (first:=[]) rfl (es_cons hb h2 es_nil) hsc R (Q:=fun vs H=>ifS vs.head? fun w=>ifS w.i? fun j=> -big≤0∧0<big∧-big≤j∧j<big∧K (rngL 0 j) (fun _=>True) (fun H=>H) H) q fun vs H' s' hl R' q'=>?_))
 obtain ⟨u,rfl⟩:=List.length_eq_one_iff.mp hl
 obtain ⟨j,e1,q'⟩:=zh (show ifS (av u).i? _ from q')
 obtain ⟨t,rfl⟩:=vq (V.i_eq e1)
 exact o_range1 L.hh R' q'.2.2.1 q'.2.2.2.1 q'.2.2.2.2
end
noncomputable def gd{α:Type}(b:Bool)(o:Option α):Option α:=bif b then o else none
noncomputable def b2{α β γ:Type}(a:Option α)(b:Option β)(f:α→β→γ):Option γ:=a.bind fun x=>b.map (f x)
noncomputable def b3{α β γ δ:Type}(a:Option α)(b:Option β)(c:Option γ)(f:α→β→γ→δ):Option δ:=a.bind fun x=>b2 b c (f x)
theorem gd_eq{α:Type}{b:Bool}{o:Option α}{z:α}(h:gd b o=some z):b=true∧o=some z:=by
 cases b
 ·cases h
 ·exact ⟨rfl,h⟩
inductive B2{α β γ:Type}(a:Option α)(b:Option β)(f:α→β→γ)(z:γ):Prop
 |mk (x:α) (y:β) (h:a=some x) (h':b=some y) (e:f x y=z)
inductive B3{α β γ δ:Type}(a:Option α)(b:Option β)(c:Option γ)(f:α→β→γ→δ)(z:δ):Prop
 |mk (x:α) (y:β) (w:γ) (h:a=some x) (h':b=some y) (h'':c=some w) (e:f x y w=z)
theorem b2_eq{α β γ:Type}{a:Option α}{b:Option β}{f:α→β→γ}{z:γ}(h:b2 a b f=some z):B2 a b f z:=by
 obtain ⟨x,h1,h2⟩:=Option.bind_eq_some_iff.mp h
 obtain ⟨y,h3,h4⟩:=Option.map_eq_some_iff.mp h2
 exact ⟨x,y,h1,h3,h4⟩
theorem b3_eq{α β γ δ:Type}{a:Option α}{b:Option β}{c:Option γ}{f:α→β→γ→δ}{z:δ}(h:b3 a b c f=some z):B3 a b c f z:=by
 obtain ⟨x,h1,h2⟩:=Option.bind_eq_some_iff.mp h
 obtain ⟨y,w,h3,h4,h5⟩:=b2_eq h2
 exact ⟨x,y,w,h1,h3,h4,h5⟩
theorem and2{a b:Bool}(h:(a&&b)=true):a=true∧b=true:=by rwa [Bool.and_eq_true] at h
theorem eqS{a b:Str}(h:(a==b)=true):a=b:=beq_iff_eq.mp h
theorem eqO{a b:Option Str}(h:(a==b)=true):a=b:=beq_iff_eq.mp h
structure Tr where
 x:Scope→Sl→PySem.Expr→Option X
 co:Scope→Sl→PySem.Expr→Option X
 T:Tb
noncomputable def trL(f:PySem.Expr→Option X):List PySem.Expr→Option (List X)
 |[]=>some []
 |e::es=>b2 (f e) (trL f es) List.cons
noncomputable def trO(f:PySem.Expr→Option X):Option PySem.Expr→Option X
 |none=>some (.c .none)
 |some e=>f e
noncomputable def rangeArgs:List PySem.Expr→Option (Option PySem.Expr×PySem.Expr)
 |[]=>none
 |a::l=>match l with
  |[]=>some (none,a)
  |b::l=>bif l.isEmpty then some (some a,b) else none
noncomputable def isRange(sc:Scope)(e:PySem.Expr):Option (Option PySem.Expr×PySem.Expr):=(callOf e).bind fun x=>gd (nameOf x.1==some ("range":Str)&&glb sc "range"&&x.2.2.1.isEmpty) (rangeArgs x.2.1)
noncomputable def trIt(f:PySem.Expr→Option X)(sc:Scope)(e:PySem.Expr):Option X:=match isRange sc e with
 |none=>(f e).map .src
 |some (oa,b)=>match oa with
  |none=>(f b).map (.rng (.c (.int 0)))
  |some a=>b2 (f a) (f b) .rng
noncomputable def trIfs(f:PySem.Expr→Option X):List PySem.Expr→Option X
 |[]=>some (.c (.bool true))
 |e::es=>bif es.isEmpty then f e else none
noncomputable def trComp(r:Tr)(sc:Scope):List Comprehension→Sl→PySem.Expr→Option X
 |[],sl,elt=>(r.x sc sl elt).map .emit
 |⟨t,it,ifs,a⟩::gs,sl,elt=>(nameOf t).bind fun v=>gd (a==0&&(varOK sc v&&!sl.contains (some v))) (b3 (trIt (r.x sc sl) sc it) (trIfs (r.co sc (sl++[some v])) ifs) (trComp r sc gs (sl++[some v]) elt) .cfor)
noncomputable def trAnd(f:PySem.Expr→Option X):List PySem.Expr→Option X
 |[]=>some (.c (.bool true))
 |e::es=>b2 (f e) (trAnd f es) .and
noncomputable def trOr(f:PySem.Expr→Option X):List PySem.Expr→Option X
 |[]=>some (.c (.bool false))
 |e::es=>b2 (f e) (trOr f es) .or
noncomputable def hConst:Const→Option X
 | .none=>some (.c .none)
 | .bool b=>some (.c (.bool b))
 | .int i=>some (.c (.int i))
 | .str x=>(nmOf x).map fun k=> .c (.str k)
 |_=>none
noncomputable def hName(T:Tb)(sc:Scope)(sl:Sl)(x:Str):Option X:=match kd sc x with
 | .loc=>(slot sl x).map .loc
 | .cel=>(slot sl x).map .loc
 | .glb=>gd (x !=("__debug__":Str)) ((T.consts.lookup x).map fun i=> .c (.int i))
 | .no=>none
noncomputable def hUn(op:UnaryOp)(x:Option X):Option X:=match op with
 | .USub=>x.map .neg
 | .Not=>x.map .not
 |_=>none
noncomputable def hDictS(f:PySem.Expr→Option X)(ks':List PySem.Expr)(vs:List PySem.Expr):Option X:=
 (wv (ks'.map constStr)).bind fun ss=>(wv (ss.map nmOf)).bind fun is=>gd (!ks'.isEmpty&&is.length==vs.length&&decide is.Nodup&&decide (is.length≤8)) ((trL f vs).map (.dictS is))
noncomputable def one{α:Type}:List α→Option α
 |[]=>none
 |a::l=>bif l.isEmpty then some a else none
noncomputable def two{α:Type}:List α→Option (α×α)
 |[]=>none
 |a::l=>(one l).map fun b=>(a,b)
theorem one_eq{α:Type}{l:List α}{a:α}(h:one l=some a):l=[a]:=by
 cases l with
 |nil=>cases h
 |cons b l=>cases l with
  |nil=>cases h;rfl
  |cons _ _=>cases h
theorem two_eq{α:Type}{l:List α}{p:α×α}(h:two l=some p):l=[p.1,p.2]:=by
 cases l with
 |nil=>cases h
 |cons b l=>
  obtain ⟨x,h1,rfl⟩:=wj h
  rw [one_eq h1]
noncomputable def hDict(f:PySem.Expr→Option X)(ks:List (Option PySem.Expr))(vs:List PySem.Expr):Option X:=
 bif ks.isEmpty&&vs.isEmpty then some .dict0 else (wv ks).bind fun ks'=>match wv (ks'.map constStr) with
  |some _=>hDictS f ks' vs
  |none=>b2 (one ks') (one vs) (fun k v=>(k,v))|>.bind fun p=>b2 (f p.1) (f p.2) .dict1
noncomputable def isUSub:UnaryOp→Bool
 | .USub=>true
 |_=>false
noncomputable def isOne(k:Const):Bool:=(intK k).any (·==1)
noncomputable def isTrueK(k:Const):Bool:=(boolK k).any id
theorem isUSub_eq{o:UnaryOp}(h:isUSub o=true):o= .USub:=by cases o<;>first|rfl|cases h
theorem isOne_eq{k:Const}(h:isOne k=true):k= .int 1:=by
 obtain ⟨i,h1,h2⟩:=anyO h
 rw [intK_inv k i h1,beq_iff_eq.mp h2]
noncomputable def isM1(e:PySem.Expr):Bool:=(unOf e).any fun x=>isUSub x.1&&(constOf x.2).any isOne
theorem isM1_eq{e:PySem.Expr}(h:isM1 e=true):Ex3 fun k p p'=>e= .UnaryOp .USub (.Constant (.int 1) k p) p':=by
 refine nn fun hC=>?_
 obtain ⟨x,h1,h⟩:=anyO h
 obtain ⟨h2,h⟩:=and2 h
 obtain ⟨k,h3,h⟩:=anyO h
 obtain ⟨p',h4⟩:=unOf_inv e x h1
 obtain ⟨j,p,h5⟩:=constOf_inv _ k h3
 refine hC ?_
 exact ⟨j,p,p',by rw [h4,h5,isUSub_eq h2,isOne_eq h]⟩
noncomputable def sliceOf(e:PySem.Expr):Option (Option PySem.Expr×Option PySem.Expr×Option PySem.Expr):=(vw e).el none (sl:=fun lo hi st=>some (lo,hi,st))
noncomputable def IsSlice(e:PySem.Expr)(x:Option PySem.Expr×Option PySem.Expr×Option PySem.Expr):Prop:=∃p,e= .Slice x.1 x.2.1 x.2.2 p
theorem sliceOf_inv(e:PySem.Expr):InvP (IsSlice e) (sliceOf e):=vw_inv (f:=fun w=>w.el none (sl:=fun lo hi st=>some (lo,hi,st))) fun w q=>by cases w<;>first|exact invN|exact invS q
theorem sliceOf_no{e:PySem.Expr}(h:(sliceOf e).isNone=true):noSlice e=true:=by cases e<;>first|exact h|cases h
noncomputable def hSub(f:PySem.Expr→Option X)(o i:PySem.Expr):Option X:=match sliceOf i with
 |some (lo,hi,st)=>match st with
  |none=>b3 (f o) (trO f lo) (trO f hi) .slice
  |some k=>gd (lo.isNone&&hi.isNone&&isM1 k) ((f o).map .rev)
 |none=>b2 (f o) (f i) .sub
noncomputable def hIsBool(f:PySem.Expr→Option X)(sc:Scope)(n:Str)(args:List PySem.Expr):Option X:=
 (two args).bind fun p=>gd (n==("isinstance":Str)&&nameOf p.2==some ("bool":Str)&&glb sc "bool") ((f p.1).map fun x=> .bi (.isBool ()) [x])
noncomputable def hCallN(T:Tb)(f:PySem.Expr→Option X)(sc:Scope)(n:Str)(args:List PySem.Expr):Option X:=gd (glb sc n) (match T.globs.lookup n with
 |some g=>(trL f args).map (.callG g)
 |none=>bif n==T.cls then (trL f args).map (.new T.initF) else match biOf n args.length with
  |some b=>(trL f args).map (.bi b)
  |none=>hIsBool f sc n args)
noncomputable def attrOf(n:Str)(e:PySem.Expr):Option PySem.Expr:=(atOf e).bind fun x=>gd (x.2.1==n) (some x.1)
theorem attrOf_eq{e o:PySem.Expr}{n:Str}(h:attrOf n e=some o):∃p,e= .Attribute o n p:=by
 obtain ⟨x,h1,h⟩:=zd h
 obtain ⟨h2,h3⟩:=gd_eq h
 exact ⟨x.2.2,by rw [show e=_ from atOf_inv e x h1,eqS h2,Option.some.inj h3]⟩
theorem isTrueK_eq{k:Const}(h:isTrueK k=true):k= .bool true:=by
 obtain ⟨i,h1,h2⟩:=anyO h
 rw [boolK_inv k i h1,show i=true from h2]
noncomputable def isTrueC(e:PySem.Expr):Bool:=(constOf e).any isTrueK
theorem isTrueC_eq{e:PySem.Expr}(h:isTrueC e=true):∃k p,e= .Constant (.bool true) k p:=by
 obtain ⟨k,h1,h⟩:=anyO h
 obtain ⟨j,p,h2⟩:=constOf_inv e k h1
 exact ⟨j,p,by rw [h2,isTrueK_eq h]⟩
noncomputable def kwIs(n:Str)(k:Keyword):Bool:=k.arg==some n
noncomputable def hSorted(T:Tb)(f:PySem.Expr→Option X)(sc:Scope)(x:PySem.Expr)(kws:List Keyword):Option X:=match kws with
 |[]=>none
 |k::l=>match l with
  |[]=>gd (kwIs "key" k&&nameOf k.value==some ("abs":Str)&&glb sc "abs") ((f x).map fun x=> .bi .sortAbs [x])
  |q::l=>gd (l.isEmpty&&kwIs "key" k&&kwIs "reverse" q&&isTrueC q.value) ((attrOf T.keyN k.value).bind fun o=>gd (plainBase o) (b2 (f x) (f o) (.sortH T.keyF)))
noncomputable def hCallA(T:Tb)(f:PySem.Expr→Option X)(o:PySem.Expr)(n:Str)(args:List PySem.Expr):Option X:=match biMeth n args.length with
 |some b=>b2 (f o) (trL f args) (.bm b)
 |none=>b3 (T.meths.lookup n) (f o) (trL f args) .callM
noncomputable def hCallK(T:Tb)(f:PySem.Expr→Option X)(sc:Scope)(n:Str)(args:List PySem.Expr)(kws:List Keyword):Option X:=
 bif kws.isEmpty then hCallN T f sc n args else gd (n==("sorted":Str)&&glb sc "sorted") ((one args).bind fun x=>hSorted T f sc x kws)
noncomputable def hCall(T:Tb)(f:PySem.Expr→Option X)(sc:Scope)(fn:PySem.Expr)(args:List PySem.Expr)(kws:List Keyword)(p:Pos):Option X:=match nameOf fn with
 |some n=>hCallK T f sc n args kws
 |none=>(atOf fn).bind fun x=>gd (kws.isEmpty&&(x.2.2.endLine==p.line)&&decide (args.length<30)&&plainBase x.1) (hCallA T f x.1 x.2.1 args)
noncomputable def hLC(r:Tr)(sc:Scope)(sl:Sl)(elt:PySem.Expr)(gs:List Comprehension)(s:Scope):Option X:=match gs with
 |[]=>none
 |⟨t,it,ifs,a⟩::gs=>(nameOf t).bind fun v=>gd (a==0&&compChk sc s v) (b3 (trIt (r.x sc sl) sc it) (trIfs (r.co s (slIn s sl v)) ifs) (trComp r s gs (slIn s sl v) elt) (.lcomp (wm s sl)))
noncomputable def hDC(r:Tr)(sc:Scope)(sl:Sl)(k x:PySem.Expr)(gs:List Comprehension)(s:Scope):Option X:=match gs with
 |[]=>none
 |⟨t,it,ifs,a⟩::gs=>(nameOf t).bind fun v=>gd (a==0&&compChk sc s v&&ifs.isEmpty&&gs.isEmpty) (b3 (trIt (r.x sc sl) sc it) (r.x s (slIn s sl v) k) (r.x s (slIn s sl v) x) (.dcomp (wm s sl)))
noncomputable def xV(T:Tb)(r:Tr)(sc:Scope)(sl:Sl)(w:Vw):Option X:=
 w.el none hConst (hName T sc sl) (fun o f _=>gd (plainBase o) (b2 (nmOf f) (r.x sc sl o) fun k x=> .attr x k)) (fun op x=>hUn op (r.x sc sl x)) (fun l op y=>b3 (r.x sc sl l) (trOp op) (r.x sc sl y) fun a o b=> .bin o a b)
 (fun l ops cs=>b2 (one ops) (one cs) (fun o c=>(o,c))|>.bind fun p=>b3 (r.x sc sl l) (trCm p.1) (r.x sc sl p.2) fun a o b=> .cmp o a b) (fun t b o=>b3 (r.co sc sl t) (r.x sc sl b) (r.x sc sl o) .ite)
 (fun es=>gd (decide (es.length≤sz)) ((trL (r.x sc sl) es).map .list)) (fun es=>gd (decide (es.length≤sz)) ((trL (r.x sc sl) es).map .tup)) (hDict (r.x sc sl)) (hSub (r.x sc sl)) (hCall T (r.x sc sl) sc) (hLC r sc sl) (hDC r sc sl)
noncomputable def xStep(T:Tb)(r:Tr)(sc:Scope)(sl:Sl)(e:PySem.Expr):Option X:=xV T r sc sl (vw e)
noncomputable def coCmp(r:Tr)(sc:Scope)(sl:Sl)(l:PySem.Expr)(ops:List CmpOp)(cs:List PySem.Expr):Option X:=match two ops with
 |some (o1,o2)=>(two cs).bind fun q=>b2 (trCm o1) (trCm o2) (fun x y=>(x,y))|>.bind fun o=>b3 (r.x sc sl l) (r.x sc sl q.1) (r.x sc sl q.2) (.cmp2 o.1 o.2)
 |none=>b2 (one ops) (one cs) (fun o c=>(o,c))|>.bind fun p=>b3 (r.x sc sl l) (trCm p.1) (r.x sc sl p.2) fun a o b=> .cmp o a b
set_option genCtorIdx false in
inductive Co where
 |not (x:PySem.Expr)|and (es:List PySem.Expr)|or (es:List PySem.Expr)|cmp (l:PySem.Expr) (ops:List CmpOp) (cs:List PySem.Expr)|no
noncomputable def coU(op:UnaryOp)(x:PySem.Expr):Option Co:=match op with
 | .Not=>some (.not x)
 |_=>none
noncomputable def coB(op:BoolOp)(es:List PySem.Expr):Option Co:=match op with
 | .And=>some (.and es)
 | .Or=>some (.or es)
noncomputable def coV(w:Vw):Option Co:=w.el none (un:=coU) (bo:=coB) (cmp:=fun l ops cs=>some (.cmp l ops cs)) (ite:=fun _ _ _=>some .no)
noncomputable def coOf(e:PySem.Expr):Option Co:=coV (vw e)
noncomputable def IsCo(e:PySem.Expr):Co→Prop
 | .not x=>∃p,e= .UnaryOp .Not x p
 | .and es=>∃p,e= .BoolOp .And es p
 | .or es=>∃p,e= .BoolOp .Or es p
 | .cmp l ops cs=>∃p,e= .Compare l ops cs p
 | .no=>True
theorem coOf_inv(e:PySem.Expr):InvP (IsCo e) (coOf e):=by
 refine vw_inv (f:=coV) fun w q=>?_
 cases w<;>first|exact invN|exact invS q|exact invS trivial|skip
 all_goals (rename_i o _;cases o<;>first|exact invN|exact invS q)
noncomputable def coStep(T:Tb)(r:Tr)(sc:Scope)(sl:Sl)(e:PySem.Expr):Option X:=match coOf e with
 |some k=>match k with
  | .not x=>(r.co sc sl x).map .not
  | .and es=>trAnd (r.co sc sl) es
  | .or es=>trOr (r.co sc sl) es
  | .cmp l ops cs=>coCmp r sc sl l ops cs
  | .no=>none
 |none=>r.x sc sl e
noncomputable def tr(T:Tb):Nat→Tr
 |0=>⟨fun _ _ _=>none,fun _ _ _=>none,T⟩
 |n+1=>⟨xStep T (tr T n),coStep T (tr T n),T⟩
end Mine
end
section
open PySem PySem.W PySem.Calls PyProof.Rows
set_option tactic.hygienic false
namespace Mine
section
variable{c:Cx}{A:Around}{sp:Sp}{F:Nat→Addr}{sc:Scope}{sl:Sl}
structure Snd(c:Cx)(A:Around)(sp:Sp)(r:Tr):Prop where
 x:∀{sc:Scope} {sl:Sl} {e:PySem.Expr} {x:X},r.x sc sl e=some x→EvR c A sp sc sl e x
 co:∀{sc:Scope} {sl:Sl} {e:PySem.Expr} {x:X},r.co sc sl e=some x→CoR c A sp sc sl e x
 pl:∀{sc:Scope} {sl:Sl} {e:PySem.Expr} {x:X},r.x sc sl e=some x→vg e=true∧noSlice e=true
 t:r.T=c.T
theorem ev_of{r:Tr}(S:Snd c A sp r){es:List PySem.Expr}{xs:List X}(h:trL (r.x sc sl) es=some xs):EvsR c A sp sc sl es xs:=by
 induction es generalizing xs with
 |nil=>cases h;exact .nil
 |cons e es ih=>
  obtain ⟨x,y,h1,h2,rfl⟩:=b2_eq h
  exact .cons (S.pl h1).1 (S.x h1) (ih h2)
theorem op_of{r:Tr}(S:Snd c A sp r){o:Option PySem.Expr}{x:X}(h:trO (r.x sc sl) o=some x):OpR c A sp sc sl o x:=by
 induction o with
 |none=>cases h;exact op_none
 |some e=>exact op_some (S.x h)
theorem rangeArgs_eq{args:List PySem.Expr}{oa:Option PySem.Expr}{b:PySem.Expr}(h:rangeArgs args=some (oa,b)):args=oa.toList++[b]:=by
 induction args with
 |nil=>exact nsm h
 |cons a l=>induction l with
  |nil=>cases h;rfl
  |cons d l=>induction l with
   |nil=>cases h;rfl
   |cons _ _=>exact nsm h
theorem isRange_eq{e:PySem.Expr}{oa:Option PySem.Expr}{b:PySem.Expr}(h:isRange sc e=some (oa,b)):glb sc "range"=true∧∃np pos,e= .Call (.Name "range" np) (oa.toList++[b]) [] pos:=by
 refine nn fun hC=>?_
 obtain ⟨x,h0,h⟩:=zd h
 obtain ⟨h1,h2⟩:=gd_eq h
 obtain ⟨h3,h4⟩:=and2 h1
 obtain ⟨h5,h6⟩:=and2 h3
 obtain ⟨np,h7⟩:=wu (eqO h5)
 refine hC ?_
 refine ⟨h6,np,x.2.2.2,?_⟩
 rw [show e=_ from callOf_inv e x h0,List.isEmpty_iff.mp h4,h7,rangeArgs_eq h2]
theorem it_of(L:Lw c A sp F){r:Tr}(S:Snd c A sp r){e:PySem.Expr}{x:X}(h:trIt (r.x sc sl) sc e=some x):ItR c A sp sc sl e x∧vg e=true:=by
 unfold trIt at h
 generalize hr:isRange sc e=zq;induction zq with
 |none=>
  rw [hr] at h
  obtain ⟨y,h1,rfl⟩:=wj h
  exact ⟨it_src L (S.x h1),(S.pl h1).1⟩
 |some p=>
  obtain ⟨oa,b⟩:=p
  rw [hr] at h
  obtain ⟨hg,np,pos,rfl⟩:=isRange_eq hr
  induction oa with
  |none=>
   obtain ⟨y,h1,rfl⟩:=wj h
   exact ⟨it_range1 L hg (S.pl h1).1 (S.x h1),rfl⟩
  |some a=>
   obtain ⟨y,z,h1,h2,rfl⟩:=b2_eq h
   exact ⟨it_range2 L hg (S.pl h1).1 (S.pl h2).1 (S.x h1) (S.x h2),rfl⟩
theorem ifs_of{r:Tr}(S:Snd c A sp r){es:List PySem.Expr}{x:X}(h:trIfs (r.co sc sl) es=some x):IfsR c A sp sc sl es x:=by
 induction es with
 |nil=>cases h;exact ifs_nil
 |cons e es=>induction es with
  |nil=>exact ifs_one (S.co h)
  |cons _ _=>cases h
theorem drop_at{α:Type}{l r:List α}{d:Nat}{a:α}(h:l.drop (d+1)=a::r):l[d+1]?=some a∧l.drop (d+1+1)=r:=by
 refine ⟨?_,?_⟩
 ·have:=congrArg (·[0]?) h
  simpa using this
 ·have:=congrArg (List.drop 1) h
  rw [List.drop_drop] at this
  simpa using this
theorem cp_of(L:Lw c A sp F){r:Tr}(S:Snd c A sp r){gens:List Comprehension}{elt:PySem.Expr}{scope:Scope}{pos:Pos}:∀{gs:List Comprehension} {sl:Sl} {d:Nat} {b:X},trComp r sc gs sl elt=some b→gens.drop (d+1)=gs→
  (∀g∈gs,g.is_async=0)∧((∀g∈gens,g.is_async=0)→CwR c A sp sc sl gens d elt scope pos b):=by
 intro gs
 induction gs with
 |nil=>
  intro sl d b h hd
  obtain ⟨y,h1,rfl⟩:=wj h
  exact ⟨fun g hg=>absurd hg List.not_mem_nil,fun _=>cw_emit (List.getElem?_eq_none (List.drop_eq_nil_iff.mp hd)) (S.x h1)⟩
 |cons g gs ih=>
  intro sl d b h hd
  obtain ⟨t,it,ifs,a⟩:=g
  obtain ⟨v,h1,h2⟩:=zd h
  obtain ⟨h3,h4⟩:=gd_eq h2
  obtain ⟨h5,h6⟩:=and2 h3
  obtain ⟨h7,h8⟩:=and2 h6
  obtain ⟨x,y,z,h9,h10,h11,rfl⟩:=b3_eq h4
  obtain ⟨p,rfl⟩:=wu h1
  obtain rfl:a=0:=beq_iff_eq.mp h5
  refine nn fun hC=>?_
  obtain ⟨hg,hd'⟩:=drop_at hd
  obtain ⟨i1,i2⟩:=ih h11 hd'
  obtain ⟨j1,j2⟩:=it_of L S h9
  refine hC ?_
  refine ⟨fun g hm=>?_,fun ha=>cw_for hg ha (fun env x=>plain_fold j2) h7 (by rw [Bool.not_eq_true'] at h8;exact h8) j1 (ifs_of S h10) (i2 ha)⟩
  rcases List.mem_cons.mp hm with rfl|hm
  ·rfl
  ·exact i1 g hm
theorem and_of{r:Tr}(S:Snd c A sp r){es:List PySem.Expr}{pos:Pos}:∀{x:X},trAnd (r.co sc sl) es=some x→CoR c A sp sc sl (.BoolOp .And es pos) x:=by
 induction es with
 |nil=>intro x h;cases h;exact co_and_nil
 |cons e es ih=>
  intro x h
  obtain ⟨y,z,h1,h2,rfl⟩:=b2_eq h
  exact co_and (S.co h1) (ih h2)
theorem or_of{r:Tr}(S:Snd c A sp r){es:List PySem.Expr}{pos:Pos}:∀{x:X},trOr (r.co sc sl) es=some x→CoR c A sp sc sl (.BoolOp .Or es pos) x:=by
 induction es with
 |nil=>intro x h;cases h;exact co_or_nil
 |cons e es ih=>
  intro x h
  obtain ⟨y,z,h1,h2,rfl⟩:=b2_eq h
  exact co_or (S.co h1) (ih h2)
theorem d_const{k:Const}{j:Nat}{pos:Pos}{x:X}(h:hConst k=some x):EvR c A sp sc sl (.Constant k j pos) x:=by
 induction k<;>try cases h
 ·exact ev_none
 ·exact ev_bool
 ·exact ev_int
 ·obtain ⟨i,h1,rfl⟩:=wj h
  exact ev_str h1
theorem d_name(L:Lw c A sp F){n:Str}{pos:Pos}{x:X}(h:hName c.T sc sl n=some x):EvR c A sp sc sl (.Name n pos) x:=by
 unfold hName at h
 generalize hk:kd sc n=zq;induction zq<;>rw [hk] at h<;>try cases h
 ·obtain ⟨i,h1,rfl⟩:=wj h
  exact ev_loc h1
 ·obtain ⟨i,h1,rfl⟩:=wj h
  exact ev_loc h1
 ·obtain ⟨h0,h2⟩:=gd_eq h
  obtain ⟨i,h1,rfl⟩:=wj h2
  exact ev_glb L (by unfold glb;rw [hk,h0];rfl) h1
theorem d_un{op:UnaryOp}{e:PySem.Expr}{y:X}{o:Option X}{pos:Pos}(ho:∀x,o=some x→EvR c A sp sc sl e x)(h:hUn op o=some y):EvR c A sp sc sl (.UnaryOp op e pos) y:=by
 induction op<;>try cases h
 ·obtain ⟨i,h1,rfl⟩:=wj h
  exact ev_not (ho _ h1)
 ·obtain ⟨i,h1,rfl⟩:=wj h
  exact ev_neg (ho _ h1)
theorem d_dictS{r:Tr}(S:Snd c A sp r){ks vs:List PySem.Expr}{pos:Pos}{x:X}(h:hDictS (r.x sc sl) ks vs=some x):EvR c A sp sc sl (.Dict (ks.map some) vs pos) x:=by
 obtain ⟨ss,h1,h2⟩:=zd h
 obtain ⟨is,h3,h4⟩:=zd h2
 obtain ⟨h5,h6⟩:=gd_eq h4
 obtain ⟨h7,h8⟩:=and2 h5
 obtain ⟨h9,h10⟩:=and2 h7
 obtain ⟨h11,h12⟩:=and2 h9
 obtain ⟨xs,h13,rfl⟩:=wj h6
 refine ev_dictS h1 h3 (beq_iff_eq.mp h12) (of_decide_eq_true h10) (of_decide_eq_true h8) ?_ (ev_of S h13)
 rintro rfl
 cases h11
theorem d_dict{r:Tr}(S:Snd c A sp r){ks:List (Option PySem.Expr)}{vs:List PySem.Expr}{pos:Pos}{x:X}(h:hDict (r.x sc sl) ks vs=some x):EvR c A sp sc sl (.Dict ks vs pos) x:=by
 unfold hDict at h
 cases h0:ks.isEmpty&&vs.isEmpty with
 |true=>
  rw [h0] at h
  cases h
  obtain ⟨h1,h2⟩:=and2 h0
  rw [List.isEmpty_iff.mp h1,List.isEmpty_iff.mp h2]
  exact ev_dict0
 |false=>
  rw [h0] at h
  obtain ⟨ks',h1,h2⟩:=zd h
  rw [allSome_eq h1]
  generalize h3:wv (ks'.map constStr)=zq;induction zq with
  |some ss=>rw [h3] at h2;exact d_dictS S h2
  |none=>
   rw [h3] at h2
   obtain ⟨p,h4,h5⟩:=zd h2
   obtain ⟨k,v,h6,h7,rfl⟩:=b2_eq h4
   obtain ⟨a,b,h8,h9,rfl⟩:=b2_eq h5
   rw [one_eq h6,one_eq h7]
   exact ev_dict1 (S.x h8) (S.x h9)
theorem d_sub{r:Tr}(S:Snd c A sp r){o i:PySem.Expr}{pos:Pos}{x:X}(h:hSub (r.x sc sl) o i=some x):EvR c A sp sc sl (.Subscript o i pos) x:=by
 unfold hSub at h
 generalize hs:sliceOf i=zq;induction zq with
 |none=>
  rw [hs] at h
  obtain ⟨x,y,h1,h2,rfl⟩:=b2_eq h
  exact ev_sub (sliceOf_no (by rw [hs];rfl)) (S.x h1) (S.x h2)
 |some q=>
  rw [hs] at h
  obtain ⟨p,h0⟩:=sliceOf_inv i q hs
  rw [h0]
  clear hs h0
  obtain ⟨lo,hi,st⟩:=q
  induction st with
  |none=>
   obtain ⟨x,y,z,h1,h2,h3,rfl⟩:=b3_eq h
   exact ev_slice (S.x h1) (op_of S h2) (op_of S h3)
  |some k=>
   refine nn fun hC=>?_
   obtain ⟨h1,h2⟩:=gd_eq h
   obtain ⟨h3,h4⟩:=and2 h1
   obtain ⟨h5,h6⟩:=and2 h3
   obtain ⟨a,b,d,h8⟩:=isM1_eq h4
   obtain ⟨y,h7,rfl⟩:=wj h2
   refine hC ?_
   rw [Option.isNone_iff_eq_none.mp h5,Option.isNone_iff_eq_none.mp h6,h8]
   exact ev_rev (S.x h7)
theorem d_callN(L:Lw c A sp F){r:Tr}(S:Snd c A sp r){n:Str}{np pos:Pos}{args:List PySem.Expr}{x:X}(h:hCallN c.T (r.x sc sl) sc n args=some x):EvR c A sp sc sl (.Call (.Name n np) args [] pos) x:=by
 obtain ⟨hg,h⟩:=gd_eq h
 cases h1:c.T.globs.lookup n with
 |some g=>
  rw [h1] at h
  obtain ⟨xs,h2,rfl⟩:=wj h
  exact ev_callG L hg h1 (ev_of S h2).es
 |none=>
  rw [h1] at h
  cases h2:n==c.T.cls with
  |true=>
   simp only [h2,cond_true] at h
   obtain ⟨xs,h3,rfl⟩:=wj h
   rw [eqS h2] at hg⊢
   exact ev_new L hg (ev_of S h3).es
  |false=>
   simp only [h2,cond_false] at h
   generalize h3:biOf n args.length=zq;induction zq with
   |some b=>
    rw [h3] at h
    obtain ⟨xs,h4,rfl⟩:=wj h
    exact ev_bi L hg h3 (ev_of S h4).es
   |none=>
    rw [h3] at h
    refine nn fun hC=>?_
    obtain ⟨p,h4,h5⟩:=zd h
    obtain ⟨h6,h7⟩:=gd_eq h5
    obtain ⟨h8,h9⟩:=and2 h6
    obtain ⟨h10,h11⟩:=and2 h8
    obtain ⟨y,h12,rfl⟩:=wj h7
    obtain ⟨q,h13⟩:=wu (eqO h11)
    refine hC ?_
    rw [two_eq h4,h13]
    rw [eqS h10] at hg⊢
    exact ev_isBool L hg h9 (S.pl h12).1 (S.x h12)
theorem kwIs_eq{n:Str}{k:Keyword}(h:kwIs n k=true):k=⟨some n,k.value,k.pos⟩:=by
 obtain ⟨a,v,p⟩:=k
 have:=eqO h
 simp only at this
 rw [this]
theorem d_sorted(L:Lw c A sp F){r:Tr}(S:Snd c A sp r){np pos:Pos}{e:PySem.Expr}{kws:List Keyword}{x:X}(hg:glb sc "sorted"=true)(h:hSorted c.T (r.x sc sl) sc e kws=some x):EvR c A sp sc sl (.Call (.Name "sorted" np) [e] kws pos) x:=by
 induction kws with
 |nil=>cases h
 |cons k l=>induction l with
  |nil=>
   obtain ⟨h1,h2⟩:=gd_eq h
   obtain ⟨h3,h4⟩:=and2 h1
   obtain ⟨h5,h6⟩:=and2 h3
   obtain ⟨y,h7,rfl⟩:=wj h2
   obtain ⟨q,h8⟩:=wu (eqO h6)
   rw [kwIs_eq h5,h8]
   exact ev_sortAbs L hg h4 (S.pl h7).1 (S.x h7)
  |cons q l=>
   refine nn fun hC=>?_
   obtain ⟨h1,h2⟩:=gd_eq h
   obtain ⟨h3,h4⟩:=and2 h1
   obtain ⟨h5,h6⟩:=and2 h3
   obtain ⟨h7,h8⟩:=and2 h5
   obtain ⟨o,h9,h10⟩:=zd h2
   obtain ⟨h11,h12⟩:=gd_eq h10
   obtain ⟨y,z,h13,h14,rfl⟩:=b2_eq h12
   obtain ⟨_,h15⟩:=attrOf_eq h9
   obtain ⟨_,_,h16⟩:=isTrueC_eq h4
   refine hC ?_
   rw [kwIs_eq h8,kwIs_eq h6,h15,h16,List.isEmpty_iff.mp h7]
   exact ev_sortH L hg (S.pl h13).1 h11 (S.x h13) (S.x h14)
theorem d_callK(L:Lw c A sp F){r:Tr}(S:Snd c A sp r){n:Str}{np pos:Pos}{args:List PySem.Expr}{kws:List Keyword}{x:X}(h:hCallK c.T (r.x sc sl) sc n args kws=some x):EvR c A sp sc sl (.Call (.Name n np) args kws pos) x:=by
 unfold hCallK at h
 generalize h0:kws.isEmpty=zq;induction zq with
 |true=>
  rw [h0] at h
  rw [List.isEmpty_iff.mp h0]
  exact d_callN L S h
 |false=>
  rw [h0] at h
  obtain ⟨h1,h2⟩:=gd_eq h
  obtain ⟨h3,h4⟩:=and2 h1
  obtain ⟨e,h5,h6⟩:=zd h2
  rw [eqS h3,one_eq h5]
  exact d_sorted L S h4 h6
theorem d_callA(L:Lw c A sp F){r:Tr}(S:Snd c A sp r){o:PySem.Expr}{n:Str}{ap pos:Pos}{args:List PySem.Expr}{x:X}(h4:plainBase o=true)(h8:(ap.endLine==pos.line)=true)(h6:args.length<30)(h2:hCallA c.T (r.x sc sl) o n args=some x):EvR c A sp sc sl (.Call (.Attribute o n ap) args [] pos) x:=by
 unfold hCallA at h2
 generalize h9:biMeth n args.length=zq;induction zq with
 |some b=>
  rw [h9] at h2
  obtain ⟨y,z,h10,h11,rfl⟩:=b2_eq h2
  exact ev_bm L h4 h8 h6 h9 (S.x h10) (ev_of S h11).es
 |none=>
  rw [h9] at h2
  obtain ⟨g,y,z,h10,h11,h12,rfl⟩:=b3_eq h2
  exact ev_callM L h4 h8 h6 h10 (S.x h11) (ev_of S h12).es
theorem d_call(L:Lw c A sp F){r:Tr}(S:Snd c A sp r){fn:PySem.Expr}{pos:Pos}{args:List PySem.Expr}{kws:List Keyword}{x:X}(h:hCall c.T (r.x sc sl) sc fn args kws pos=some x):EvR c A sp sc sl (.Call fn args kws pos) x:=by
 unfold hCall at h
 generalize hn:nameOf fn=zq;induction zq with
 |some n=>
  rw [hn] at h
  obtain ⟨np,h1⟩:=wu hn
  rw [h1]
  exact d_callK L S h
 |none=>
  rw [hn] at h
  refine nn fun hC=>?_
  obtain ⟨q,h0,h⟩:=zd h
  obtain ⟨h1,h2⟩:=gd_eq h
  obtain ⟨h3,h4⟩:=and2 h1
  obtain ⟨h5,h6⟩:=and2 h3
  obtain ⟨h7,h8⟩:=and2 h5
  refine hC ?_
  rw [List.isEmpty_iff.mp h7,show fn=_ from atOf_inv fn q h0]
  exact d_callA L S h4 h8 (of_decide_eq_true h6) h2
inductive LcR(c:Cx)(A:Around)(sp:Sp)(sc:Scope)(sl:Sl)(elt:PySem.Expr)(gs:List Comprehension)(s:Scope)(pos:Pos)(x:X):Prop
 |mk (v:Str) (pv:Pos) (iter:PySem.Expr) (ifs:List PySem.Expr) (gs':List Comprehension) (i cnd b:X) (e:gs=⟨.Name v pv,iter,ifs,0⟩::gs') (ex:x= .lcomp (wm s sl) i cnd b) (h1:CompOK sc s v) (h2:∀g∈gs',g.is_async=0) (h3:vg iter=true) (h4:ItR c A sp sc sl iter i)
  (h5:IfsR c A sp s (slIn s sl v) ifs cnd) (h6:CwR c A sp s (slIn s sl v) gs 0 elt s pos b)
theorem d_lc(L:Lw c A sp F){r:Tr}(S:Snd c A sp r){elt:PySem.Expr}{gs:List Comprehension}{s:Scope}{pos:Pos}{x:X}(h:hLC r sc sl elt gs s=some x):LcR c A sp sc sl elt gs s pos x:=by
 induction gs with
 |nil=>cases h
 |cons g gs=>
  obtain ⟨t,it,ifs,a⟩:=g
  obtain ⟨v,h1,h2⟩:=zd h
  obtain ⟨h3,h4⟩:=gd_eq h2
  obtain ⟨h5,h6⟩:=and2 h3
  obtain ⟨x,y,z,h9,h10,h11,rfl⟩:=b3_eq h4
  obtain ⟨p,rfl⟩:=wu h1
  obtain rfl:a=0:=beq_iff_eq.mp h5
  obtain ⟨j1,j2⟩:=it_of L S h9
  obtain ⟨k1,k2⟩:=cp_of (gens:=⟨.Name v p,it,ifs,0⟩::gs) (scope:=s) (pos:=pos) (d:=0) L S h11 rfl
  refine ⟨v,p,it,ifs,gs,x,y,z,rfl,rfl,compOK_of h6,k1,j2,j1,ifs_of S h10,k2 fun g hg=>?_⟩
  rcases List.mem_cons.mp hg with rfl|hg
  ·rfl
  ·exact k1 g hg
inductive DcR(c:Cx)(A:Around)(sp:Sp)(sc:Scope)(sl:Sl)(k e:PySem.Expr)(gs:List Comprehension)(s:Scope)(x:X):Prop
 |mk (v:Str) (pv:Pos) (iter:PySem.Expr) (i kx vx:X) (eg:gs=[⟨.Name v pv,iter,[],0⟩]) (ex:x= .dcomp (wm s sl) i kx vx) (h1:CompOK sc s v) (h2:vg iter=true) (h3:ItR c A sp sc sl iter i) (h4:EvR c A sp s (slIn s sl v) k kx) (h5:EvR c A sp s (slIn s sl v) e vx)
theorem d_dc(L:Lw c A sp F){r:Tr}(S:Snd c A sp r){k e:PySem.Expr}{gs:List Comprehension}{s:Scope}{x:X}(h:hDC r sc sl k e gs s=some x):DcR c A sp sc sl k e gs s x:=by
 induction gs with
 |nil=>cases h
 |cons g gs=>
  obtain ⟨t,it,ifs,a⟩:=g
  obtain ⟨v,h1,h2⟩:=zd h
  obtain ⟨h3,h4⟩:=gd_eq h2
  obtain ⟨h5,h6⟩:=and2 h3
  obtain ⟨h7,h8⟩:=and2 h5
  obtain ⟨h9,h10⟩:=and2 h7
  obtain ⟨x,y,z,h11,h12,h13,rfl⟩:=b3_eq h4
  obtain ⟨p,rfl⟩:=wu h1
  obtain rfl:a=0:=beq_iff_eq.mp h9
  obtain ⟨j1,j2⟩:=it_of L S h11
  rw [List.isEmpty_iff.mp h6,List.isEmpty_iff.mp h8]
  exact ⟨v,p,it,x,y,z,rfl,rfl,compOK_of h10,j2,j1,S.x h12,S.x h13⟩
end
end Mine
end
section
open PySem PySem.W PySem.Calls PyProof.Rows
namespace Mine
section
variable{c:Cx}{A:Around}{sp:Sp}{F:Nat→Addr}{sc:Scope}{sl:Sl}
noncomputable def XOk(c:Cx)(A:Around)(sp:Sp)(sc:Scope)(sl:Sl)(e:PySem.Expr)(x:X):Prop:=EvR c A sp sc sl e x
theorem snd_x'(L:Lw c A sp F){r:Tr}(S:Snd c A sp r)(e:PySem.Expr):InvP (XOk c A sp sc sl e) (xStep c.T r sc sl e):=by
 refine vw_inv (f:=xV c.T r sc sl) fun w q=>?_
 induction w<;>first|exact invN|(intro x h;first|obtain ⟨_,rfl⟩:=q|(obtain rfl:e=_:=q)|obtain ⟨_,_,rfl⟩:=q)
 case k=>exact d_const h
 case nm=>exact d_name L h
 case at_=>
  obtain ⟨h1,h2⟩:=gd_eq h
  obtain ⟨k,y,h3,h4,rfl⟩:=b2_eq h2
  exact ev_attr L.G L.hK h1 h3 (S.x h4)
 case un=>exact d_un (fun _=>S.x) h
 case bin=>
  obtain ⟨a,o,b,h1,h2,h3,rfl⟩:=b3_eq h
  rw [trOp_eq h2]
  exact ev_bin (S.x h1) (S.x h3)
 case cmp=>
  obtain ⟨p,h1,h2⟩:=zd h
  obtain ⟨o,d,h3,h4,rfl⟩:=b2_eq h1
  obtain ⟨a,o',b,h5,h6,h7,rfl⟩:=b3_eq h2
  rw [one_eq h3,one_eq h4,trCm_eq (op:=o) h6]
  exact ev_cmp L.G L.hu (S.pl h7).1 (S.x h5) (S.x h7)
 case ite=>
  obtain ⟨a,o,b,h1,h2,h3,rfl⟩:=b3_eq h
  exact ev_ite (S.co h1) (S.x h2) (S.x h3)
 case lst=>
  obtain ⟨h1,h2⟩:=gd_eq h
  obtain ⟨xs,h3,rfl⟩:=wj h2
  exact ev_list (of_decide_eq_true h1) (ev_of S h3).es
 case tup=>
  obtain ⟨h1,h2⟩:=gd_eq h
  obtain ⟨xs,h3,rfl⟩:=wj h2
  exact ev_tup (of_decide_eq_true h1) (ev_of S h3).es
 case dct=>exact d_dict S h
 case sub=>exact d_sub S h
 case call=>exact d_call L S h
 case lc=>
  obtain ⟨v,pv,iter,ifs,gs',i,cnd,b,rfl,rfl,h1,h2,h3,h4,h5,h6⟩:=d_lc L S h
  exact ev_lcomp h1 h2 (fun env x=>plain_fold h3) h4 h5 h6
 case dc=>
  obtain ⟨v,pv,iter,i,kx,vx,rfl,rfl,h1,h2,h3,h4,h5⟩:=d_dc L S h
  exact ev_dcomp h1 (fun env x=>plain_fold h2) h3 h4 h5
theorem snd_x(L:Lw c A sp F){r:Tr}(S:Snd c A sp r){e:PySem.Expr}{x:X}(h:xStep c.T r sc sl e=some x):EvR c A sp sc sl e x:=snd_x' L S e x h
noncomputable def PlOk(e:PySem.Expr)(_:X):Prop:=vg e=true∧noSlice e=true
theorem snd_pl'{r:Tr}(T:Tb)(e:PySem.Expr):InvP (PlOk e) (xStep T r sc sl e):=by
 refine vw_inv (f:=xV T r sc sl) fun w q=>?_
 induction w<;>first|exact invN|(obtain ⟨_,rfl⟩:=q;exact fun _ _=>⟨rfl,rfl⟩)|(obtain rfl:e=_:=q;exact fun _ _=>⟨rfl,rfl⟩)|(obtain ⟨_,_,rfl⟩:=q;exact fun _ _=>⟨rfl,rfl⟩)
theorem snd_pl{r:Tr}{e:PySem.Expr}{x:X}(T:Tb)(h:xStep T r sc sl e=some x):vg e=true∧noSlice e=true:=snd_pl' T e x h
noncomputable def CoPl(e:PySem.Expr):Prop:=∀{env:Env} {whole:Sem Value},isTrue e env whole=(do let v ←whole;standAt e.pos;holding [v] (truthy v))
theorem coPl(e:PySem.Expr)(h:(coOf e).isNone=true):CoPl e:=by
 cases e
 case UnaryOp o _ _=>induction o<;>first|exact fun {_ _}=>rfl|cases h
 case BoolOp o _ _=>induction o<;>cases h
 all_goals first|exact fun {_ _}=>rfl|cases h
theorem d_cmp(L:Lw c A sp F){r:Tr}(S:Snd c A sp r){l:PySem.Expr}{ops:List CmpOp}{cs:List PySem.Expr}{p:Pos}{x:X}(h:coCmp r sc sl l ops cs=some x):CoR c A sp sc sl (.Compare l ops cs p) x:=by
 unfold coCmp at h
 generalize h0:two ops=zq;induction zq with
 |some o=>
  rw [h0] at h
  obtain ⟨q,h1,h2⟩:=zd h
  obtain ⟨oo,h3,h4⟩:=zd h2
  obtain ⟨o1,o2,h5,h6,rfl⟩:=b2_eq h3
  obtain ⟨a,b,d,h7,h8,h9,rfl⟩:=b3_eq h4
  rw [two_eq h0,two_eq h1,trCm_eq h5,trCm_eq h6]
  exact co_cmp2 L (S.pl h9).1 (S.x h7) (S.x h8) (S.x h9)
 |none=>
  rw [h0] at h
  obtain ⟨p,h1,h2⟩:=zd h
  obtain ⟨o,d,h3,h4,rfl⟩:=b2_eq h1
  obtain ⟨a,o',b,h5,h6,h7,rfl⟩:=b3_eq h2
  rw [one_eq h3,one_eq h4,trCm_eq (op:=o) h6]
  exact co_cmp L (S.pl h7).1 (S.x h5) (S.x h7)
theorem snd_co(L:Lw c A sp F){r:Tr}(S:Snd c A sp r){e:PySem.Expr}{x:X}(h:coStep c.T r sc sl e=some x):CoR c A sp sc sl e x:=by
 unfold coStep at h
 generalize h0:coOf e=zq;induction zq with
 |none=>
  rw [h0] at h
  exact co_plain (coPl e (by rw [h0];rfl)) (S.x h)
 |some k=>
  rw [h0] at h
  have q:=coOf_inv e k h0
  clear h0
  induction k with
  |not y=>
   obtain ⟨p,rfl⟩:=q
   obtain ⟨z,h1,rfl⟩:=wj h
   exact co_not (S.co h1)
  |and es=>
   obtain ⟨p,rfl⟩:=q
   exact and_of S h
  |or es=>
   obtain ⟨p,rfl⟩:=q
   exact or_of S h
  |cmp l ops cs=>
   obtain ⟨p,rfl⟩:=q
   exact d_cmp L S h
  |no=>exact @nsm _ _ _ h
theorem snd(L:Lw c A sp F):∀n:Nat,Snd c A sp (tr c.T n)
 |0=>⟨fun h=>(by cases h),fun h=>(by cases h),fun h=>(by cases h),rfl⟩
 |n+1=>⟨snd_x L (snd L n),snd_co L (snd L n),snd_pl c.T,rfl⟩
noncomputable def ownSlot(sc:Scope)(sl:Sl)(x:Str):Option Nat:=gd (varOK sc x) (slot sl x)
noncomputable def trSlots(sc:Scope)(sl:Sl):List PySem.Expr→Option (List Nat)
 |[]=>some []
 |e::es=>b2 ((nameOf e).bind (ownSlot sc sl)) (trSlots sc sl es) List.cons
noncomputable def subOf(e:PySem.Expr):Option (PySem.Expr×PySem.Expr):=(vw e).el none (sub:=fun o i=>some (o,i))
noncomputable def IsSub(e:PySem.Expr)(x:PySem.Expr×PySem.Expr):Prop:=∃p,e= .Subscript x.1 x.2 p
theorem subOf_inv(e:PySem.Expr):InvP (IsSub e) (subOf e):=vw_inv (f:=fun w=>w.el none (sub:=fun o i=>some (o,i))) fun w q=>by induction w<;>first|exact invN|exact invS q
noncomputable def hSwap(f:PySem.Expr→Option X)(ts vs:List PySem.Expr):Option S:=(two ts).bind fun t=>(two vs).bind fun v=>(subOf t.1).bind fun a=>(subOf t.2).bind fun b=>
 b3 (b2 (f a.1) (f a.2) fun x y=>(x,y)) (b2 (f b.1) (f b.2) fun x y=>(x,y)) (b2 (f v.1) (f v.2) fun x y=>(x,y)) fun p q r=> .swap p.1 p.2 q.1 q.2 r.1 r.2
noncomputable def tupOf(e:PySem.Expr):Option (List PySem.Expr):=(vw e).el none (tup:=some)
noncomputable def IsTup(e:PySem.Expr)(x:List PySem.Expr):Prop:=∃k p,e= .Tuple x k p
theorem tupOf_inv(e:PySem.Expr):InvP (IsTup e) (tupOf e):=vw_inv (f:=fun w=>w.el none (tup:=some)) fun w q=>by induction w<;>first|exact invN|exact invS q
noncomputable def hAsgT(f:PySem.Expr→Option X)(sc:Scope)(sl:Sl)(ts vs:List PySem.Expr):Option S:=match trSlots sc sl ts with
 |some js=>gd (ts.length==vs.length&&decide js.Nodup&&!vs.all (constantsAlone 8)&&decide (vs.length≤sz)) ((trL f vs).map (.asgN js))
 |none=>hSwap f ts vs
set_option genCtorIdx false in
inductive Tg where
 |name (x:Str)|at_ (o:PySem.Expr) (n:Str)|sub (o i:PySem.Expr)|tup (ts:List PySem.Expr)
noncomputable def tgV(w:Vw):Option Tg:=w.el none (nm:=fun x=>some (.name x)) (at_:=fun o n _=>some (.at_ o n)) (sub:=fun o i=>some (.sub o i)) (tup:=fun ts=>some (.tup ts))
noncomputable def tgOf(e:PySem.Expr):Option Tg:=tgV (vw e)
noncomputable def IsTg(e:PySem.Expr):Tg→Prop
 | .name x=>∃p,e= .Name x p
 | .at_ o n=>∃p,e= .Attribute o n p
 | .sub o i=>∃p,e= .Subscript o i p
 | .tup ts=>∃k p,e= .Tuple ts k p
theorem tgOf_inv(e:PySem.Expr):InvP (IsTg e) (tgOf e):=vw_inv (f:=tgV) fun w q=>by induction w<;>first|exact invN|exact invS q|exact invS ⟨_,q⟩
noncomputable def hAsgG(f:PySem.Expr→Option X)(sc:Scope)(sl:Sl)(v:PySem.Expr):Tg→Option S
 | .name x=>b2 (ownSlot sc sl x) (f v) .asg
 | .at_ o n=>b3 (nmOf n) (f v) (f o) fun k v o=> .setA o k v
 | .sub o i=>b3 (f v) (f o) (f i) fun v o i=> .setI o i v
 | .tup ts=>(tupOf v).bind (hAsgT f sc sl ts)
noncomputable def hAsg(f:PySem.Expr→Option X)(sc:Scope)(sl:Sl)(t v:PySem.Expr):Option S:=(tgOf t).bind (hAsgG f sc sl v)
noncomputable def isCall(e:PySem.Expr):Bool:=(callOf e).isSome
set_option genCtorIdx false in
inductive Sw where
 |pass|raise (e c:Option PySem.Expr)|ex (x:PySem.Expr)|ret (v:Option PySem.Expr)|ite (t:PySem.Expr) (b o:List Stmt)|whl (t:PySem.Expr) (b o:List Stmt)|for_ (t it:PySem.Expr) (b o:List Stmt)|asg (ts:List PySem.Expr) (v:PySem.Expr)|no
noncomputable def Sw.el{α:Type}(d:α)(w:Sw)(pass:α:=d)(raise:Option PySem.Expr→Option PySem.Expr→α:=fun _ _=>d)(ex:PySem.Expr→α:=fun _=>d)(ret:Option PySem.Expr→α:=fun _=>d)(ite:PySem.Expr→List Stmt→List Stmt→α:=fun _ _ _=>d)
  (whl:PySem.Expr→List Stmt→List Stmt→α:=fun _ _ _=>d) (for_:PySem.Expr→PySem.Expr→List Stmt→List Stmt→α:=fun _ _ _ _=>d) (asg:List PySem.Expr→PySem.Expr→α:=fun _ _=>d):α:=Sw.rec (motive:=fun _=>α) pass raise ex ret ite whl for_ asg d w
noncomputable def sw:Stmt→Sw
 | .Pass _=> .pass
 | .Raise e c _=> .raise e c
 | .Expr x _=> .ex x
 | .Return v _=> .ret v
 | .If t b o _=> .ite t b o
 | .While t b o _=> .whl t b o
 | .For t it b o _=> .for_ t it b o
 | .Assign ts v _=> .asg ts v
 |_=> .no
noncomputable def SwOk(st:Stmt)(w:Sw):Prop:=w.el True (∃p,st= .Pass p) (fun e c=>∃p,st= .Raise e c p) (fun x=>∃p,st= .Expr x p) (fun v=>∃p,st= .Return v p) (fun t b o=>∃p,st= .If t b o p) (fun t b o=>∃p,st= .While t b o p) (fun t it b o=>∃p,st= .For t it b o p) (fun ts v=>∃p,st= .Assign ts v p)
theorem sw_ok(st:Stmt):SwOk st (sw st):=by cases st<;>first|exact ⟨_,rfl⟩|exact trivial
theorem sw_inv{α:Type}{P:α→Prop}{f:Sw→Option α}{st:Stmt}(h:∀w,SwOk st w→InvP P (f w)):InvP P (f (sw st)):=h _ (sw_ok st)
noncomputable def fvOf(e:PySem.Expr):Option PySem.Expr:=(vw e).el none (fv:=fun v c s=>gd (c== -1&&s.isNone) (some v))
noncomputable def fstOf(e:PySem.Expr):Option (PySem.Expr×Str):=(vw e).el none (js:=fun vs=>(two vs).bind fun p=>b2 (fvOf p.1) (constStr p.2) fun a w=>(a,w))
noncomputable def rseC(r:Tr)(sc:Scope)(sl:Sl)(x:PySem.Expr×List PySem.Expr×List Keyword×Pos):Option S:=
 gd (x.2.2.1.isEmpty&&nameOf x.1==some r.T.excN&&glb sc r.T.excN) ((one x.2.1).bind fun a=>(fstOf a).bind fun p=>gd (decide (p.2.length≤1000)) ((r.x sc sl p.1).map .rse))
noncomputable def rseE(r:Tr)(sc:Scope)(sl:Sl)(e c:Option PySem.Expr):Option S:=gd c.isNone (e.bind fun e=>(callOf e).bind (rseC r sc sl))
noncomputable def boOf(e:PySem.Expr):Option (List PySem.Expr):=(vw e).el none (bo:=fun op es=>match op with
 | .And=>some es
 | .Or=>none)
noncomputable def notOf(e:PySem.Expr):Option PySem.Expr:=(unOf e).bind fun x=>match x.1 with
 | .Not=>some x.2
 |_=>none
noncomputable def limC(T:Tb)(sc:Scope)(e:PySem.Expr):Option (List PySem.Expr):=(notOf e).bind fun e=>(callOf e).bind fun x=>gd (x.2.2.1.isEmpty&&nameOf x.1==some T.limN&&glb sc T.limN) (some x.2.1)
noncomputable def limE(T:Tb)(sc:Scope)(t:PySem.Expr):Option (PySem.Expr×List PySem.Expr):=(boOf t).bind fun es=>(two es).bind fun p=>(limC T sc p.2).map fun as=>(p.1,as)
noncomputable def ifE(r:Tr)(rs:List Stmt→Option S)(sc:Scope)(sl:Sl)(t:PySem.Expr)(b o:List Stmt):Option S:=match limE r.T sc t with
 |some p=>(trL (r.x sc sl) p.2).bind fun xs=>b3 (r.co sc sl p.1) (rs b) (rs o) fun c s t=> .limC c xs s t
 |none=>b3 (r.co sc sl t) (rs b) (rs o) .ite
theorem fv_inv{e v:PySem.Expr}(h:fvOf e=some v):∃p,e= .FormattedValue v (-1) none p:=by
 have q:=vw_ok e
 unfold fvOf at h
 generalize vw e=w at q h
 induction w<;>first|exact nsm h|skip
 obtain ⟨h1,h2⟩:=gd_eq h
 obtain ⟨h3,h4⟩:=and2 h1
 obtain ⟨p,q⟩:=q
 exact ⟨p,by rw [q,Option.some.inj h2,beq_iff_eq.mp h3,Option.isNone_iff_eq_none.mp h4]⟩
theorem js_inv{e:PySem.Expr}{p:PySem.Expr×Str}(h:fstOf e=some p):∃vs,(∃q,e= .JoinedStr vs q)∧((two vs).bind fun p=>b2 (fvOf p.1) (constStr p.2) fun a w=>(a,w))=some p:=by
 have q:=vw_ok e
 unfold fstOf at h
 generalize vw e=w at q h
 induction w<;>first|exact nsm h|exact ⟨_,q,h⟩
theorem bo_inv{e:PySem.Expr}{es:List PySem.Expr}(h:boOf e=some es):∃p,e= .BoolOp .And es p:=by
 have q:=vw_ok e
 unfold boOf at h
 generalize vw e=w at q h
 induction w<;>first|exact nsm h|skip
 rename_i op es'
 induction op<;>cases h
 exact q
theorem not_inv{e x:PySem.Expr}(h:notOf e=some x):∃p,e= .UnaryOp .Not x p:=by
 obtain ⟨y,h1,h2⟩:=zd h
 obtain ⟨op,z⟩:=y
 induction op<;>cases h2
 exact unOf_inv e _ h1
noncomputable def sV(r:Tr)(rs:List Stmt→Option S)(sc:Scope)(sl:Sl)(w:Sw):Option S:=
 w.el none (some .skip) (rseE r sc sl) (fun x=>gd (isCall x) ((r.x sc sl x).map .ex)) (fun v=>(trO (r.x sc sl) v).map .ret) (ifE r rs sc sl) (fun t b o=>gd o.isEmpty (b2 (r.co sc sl t) (rs b) .whl))
  (fun t it b o=>gd o.isEmpty (b3 ((nameOf t).bind (ownSlot sc sl)) (trIt (r.x sc sl) sc it) (rs b) .for_)) (fun ts v=>(one ts).bind fun t=>hAsg (r.x sc sl) sc sl t v)
noncomputable def sStep(r:Tr)(rs:List Stmt→Option S)(sc:Scope)(sl:Sl)(st:Stmt):Option S:=sV r rs sc sl (sw st)
noncomputable def trSs(r:Tr)(sc:Scope)(sl:Sl):Nat→List Stmt→Option S
 |0,_=>none
 |n+1,ss=>match ss with
  |[]=>some .skip
  |s::rest=>b2 (sStep r (trSs r sc sl n) sc sl s) (trSs r sc sl n rest) .seq
end
section
variable{c:Cx}{A:Around}{sp:Sp}{F:Nat→Addr}{sc:Scope}{sl:Sl}{B:Bs}{env:Env}{own:List Str}{m:List V}{H:AH}{s:Shared}{E:Value→Shared→Prop}
noncomputable def StP(c:Cx)(B:Bs)(env:Env)(own:List Str)(sl:Sl)(Q:List V→AH→Prop)(R:V→AH→Prop)(fl:Flow)(s':Shared):Prop:=match fl with
 | .next=>Ex2 fun m' H'=>Rep c B env own sl m' H' s'∧Q m' H'
 | .ret v=>∃H',Hp c B H' s'∧rt R (av v) H'
 |_=>False
inductive XR(c:Cx)(B:Bs)(env:Env)(own:List Str)(sl:Sl)(R:V→AH→Prop)(e:Value)(s':Shared):Prop
 |mk (x:Addr) (m:List V) (H:AH) (he:e= .ref x) (R':Rep c B env own sl m H s') (hx:NewX c.X s'.heap x) (hB:B x=none) (hH:H x=none) (q:R .un H)
structure Ax(c:Cx)(A:Around)(B:Bs)(env:Env)(sc:Scope)(sl:Sl)(R:V→AH→Prop)(E:Value→Shared→Prop):Prop where
 hs:env.scope=sc
 fr:∃l,A.frames=some (env::l)
 po:PassesOwn (model c.prog c.w) A env E
 xr:∀e s',XR c B env (vp sc) sl R e s'→E e s'
theorem Ax.no{B':Bs}{R R':V→AH→Prop}{E:Value→Shared→Prop}(h:Ax c A B env sc sl R E)(n:∀H,¬R' .un H):Ax c A B' env sc sl R' fun _ _=>False:=⟨h.hs,h.fr,.never,fun _ _ ⟨_,_,H,_,_,_,_,_,q⟩=>n H q⟩
noncomputable abbrev StR(c:Cx)(A:Around)(sp:Sp)(sc:Scope)(sl:Sl)(t:Env→Sem Flow)(code:S):Prop:=
 ∀⦃B:Bs⦄ ⦃env:Env⦄ ⦃m:List V⦄ ⦃H:AH⦄ ⦃s:Shared⦄ ⦃Q:List V→AH→Prop⦄ ⦃R:V→AH→Prop⦄ ⦃E:Value→Shared→Prop⦄,Ax c A B env sc sl R E→Rep c B env (vp sc) sl m H s→code.wp sp m H Q R→
  wpAny (model c.prog c.w) A (t env) (StP c B env (vp sc) sl Q R) E s
theorem hsc_of{R:V→AH→Prop}{E:Value→Shared→Prop}(h:Ax c A B env sc sl R E):∀n,kd env.scope n=kd sc n:=fun n=>by rw [h.hs]
noncomputable abbrev UsR(c:Cx)(A:Around)(sp:Sp)(sc:Scope)(sl:Sl)(e:PySem.Expr)(x:X):Prop:=
 ∀⦃B:Bs⦄ ⦃env:Env⦄ ⦃own:List Str⦄ ⦃m:List V⦄ ⦃H:AH⦄ ⦃s:Shared⦄ ⦃Q:V→AH→Prop⦄ ⦃E:Value→Shared→Prop⦄ ⦃i:Nat⦄ ⦃y:Str⦄ ⦃py:Pos⦄ ⦃P:Shared→Prop⦄,(∀n,kd env.scope n=kd sc n)→Rep c B env own sl m H s→sl[i]?=some (some y)→y∈own→x.ev sp m H Q→
  (∀s' H' v,Rep c B env own sl (m.set i v) H' s'→Q v H'→P s')→wpAny (model c.prog c.w) A (evalThenUse e env (assign (.Name y py) env)) (fun _ s'=>P s') E s
noncomputable def isComp(e:PySem.Expr):Bool:=e.ctorIdx==8||e.ctorIdx==9||e.ctorIdx==10
theorem use_of(L:Lw c A sp F){r:Tr}(S:Snd c A sp r){v:PySem.Expr}{x:X}(h:xStep c.T r sc sl v=some x):isComp v=false∨UsR c A sp sc sl v x:=by
 cases v<;>first|exact .inl rfl|skip
 case ListComp=>
  obtain ⟨v,pv,iter,ifs,gs',i,cnd,b,rfl,rfl,h1,h2,h3,h4,h5,h6⟩:=d_lc L S h
  refine .inr fun _ _ _ _ _ _ _ _ _ _ _ _ hsc R hi ho q k=>?_
  rw [arm_evalThenUse_ListComp]
  exact wpAny_bind (lcomp_run (Q':=fun v s'=>wpAny (model c.prog c.w) A (pure ()) _ _ s') h1 h2 (fun env x=>plain_fold h3) h4 h5 h6 hsc R q fun acc C r s' hb=>post_use hi ho (fun s' H' v a b=>wpAny_pure (k s' H' v a b)) hb)
 case SetComp=>cases h
 case DictComp=>
  obtain ⟨v,pv,iter,i,kx,vx,rfl,rfl,h1,h2,h3,h4,h5⟩:=d_dc L S h
  refine .inr fun _ _ _ _ _ _ _ _ _ _ _ _ hsc R hi ho q k=>?_
  rw [arm_evalThenUse_DictComp]
  exact wpAny_bind (dcomp_run (Q':=fun v s'=>wpAny (model c.prog c.w) A (pure ()) _ _ s') h1 (fun env x=>plain_fold h2) h3 h4 h5 hsc R q fun acc C r s' hb=>post_use hi ho (fun s' H' v a b=>wpAny_pure (k s' H' v a b)) hb)
theorem swaps_plain{v:PySem.Expr}{t:Option PySem.Expr}{l:Nat}(h:isComp v=false):swapsWith v t l env=pure false:=by
 cases v<;>first|rfl|cases h
theorem swaps_name{v:PySem.Expr}{x:Str}{p:Pos}{l:Nat}:∃b,swapsWith v (some (.Name x p)) l env=pure b:=by
 cases v<;>exact ⟨_,rfl⟩
theorem swaps_at{v o:PySem.Expr}{f:Str}{p:Pos}{l:Nat}:swapsWith v (some (.Attribute o f p)) l env=pure false:=by cases v<;>rfl
theorem swaps_sub{v o i:PySem.Expr}{p:Pos}{l:Nat}:swapsWith v (some (.Subscript o i p)) l env=pure false:=by cases v<;>rfl
theorem own_var{x:Str}(h:varOK sc x=true):x∈vp sc:=by
 unfold varOK at h
 rw [Bool.or_eq_true,beq_iff_eq,beq_iff_eq] at h
 rcases h with q|q
 ·exact List.mem_map.mpr ⟨_,List.mem_filter.mpr ⟨mem_of_lookup q,rfl⟩,rfl⟩
 ·exact List.mem_map.mpr ⟨_,List.mem_filter.mpr ⟨mem_of_lookup q,rfl⟩,rfl⟩
theorem ownSlot_eq{x:Str}{i:Nat}(h:ownSlot sc sl x=some i):slot sl x=some i∧x∈vp sc:=by
 obtain ⟨h1,h2⟩:=gd_eq h
 exact ⟨h2,own_var h1⟩
theorem lift0{M:Model}{t:Sem Unit}{P:AH→Prop}(R:Rep c B env own sl m H s)(h:Hp c (wz s.heap H) H s→wpAny M A t (fun _ s'=>∃H',Hp c (wz s.heap H) H' s'∧P H') E s):
  wpAny M A t (fun _ s'=>∃H',Rep c B env own sl m H' s'∧P H') E s:=
 wpAny_mono (h R.hp.whole) (fun v s' ⟨H',a,b⟩=>⟨H',R.back a,b⟩) fun _ _ x=>x
theorem asg_tail{t v:PySem.Expr}{pos:Pos}{P:Flow→Shared→Prop}(hsw:swapsWith v (some t) pos.line env=pure false)(hst:swappedStores [t] v env=pure none)(hns:assignEach [t] env=[(false,assign t env)])
  (h:wpAny (model c.prog c.w) A (eval v env) (fun x s₁=>wpAny (model c.prog c.w) A (assign t env x) (fun _=>P .next) E s₁) E s):wpAny (model c.prog c.w) A (exec (.Assign [t] v pos) env) P E s:=by
 rw [arm_exec_Assign]
 refine wpAny_bind (wpAny_standAt (wpAny_bind (wpAny_of_eq hsw ?_)))
 rw [if_neg (by decide)]
 refine wpAny_bind (wpAny_mono h (fun x s₁ h₁=>?_) fun _ _ x=>x)
 rw [hst,hns]
 refine wpAny_bind (wpAny_pure ?_)
 show wpAny _ _ (do assignAll x [assign t env];pure Flow.next) _ _ _
 exact wpAny_bind (wpAny_mono h₁ (fun _ _ x=>wpAny_pure x) fun _ _ x=>x)
theorem st_asg(L:Lw c A sp F){v:PySem.Expr}{x:X}{n:Str}{p pos:Pos}{i:Nat}(hi:ownSlot sc sl n=some i)(hv:EvR c A sp sc sl v x)(hu:isComp v=false∨UsR c A sp sc sl v x):
  StR c A sp sc sl (exec (.Assign [.Name n p] v pos)) (.asg i x):=fun B env m H s Q R E hsc Re q=>by
 obtain ⟨h1,h2⟩:=ownSlot_eq hi
 have plain:swapsWith v (some (.Name n p)) pos.line env=pure false→wpAny (model c.prog c.w) A (exec (.Assign [.Name n p] v pos) env) (StP c B env (vp sc) sl Q R) E s:=fun hsw=>by
  refine asg_tail hsw rfl rfl (wpAny_mono (hv (hsc_of hsc) Re q) (fun y s1 e1=>?_) fun _ _ x=>x)
  obtain ⟨H1,R1,q1⟩:=e1
  rw [arm_assign_Name]
  exact wpAny_bind (wpAny_standAt (store_ok R1 h1 h2 fun s' R'=>⟨_,H1,R',q1⟩))
 rcases hu with hu|hu
 ·exact plain (swaps_plain hu)
 ·obtain ⟨b,hb⟩:=swaps_name (env:=env) (v:=v) (x:=n) (p:=p) (l:=pos.line)
  induction b with
  |false=>exact plain hb
  |true=>
   rw [arm_exec_Assign]
   refine wpAny_bind (wpAny_standAt (wpAny_bind (wpAny_of_eq hb ?_)))
   rw [if_pos rfl]
   refine wpAny_bind ?_
   exact hu (py:=p) (hsc_of hsc) Re (slot_spec h1).1 h2 q fun s' H' v a b=>wpAny_pure ⟨_,H',a,b⟩
theorem st_setA(G:Gd c)(hK:attrChk c.K c.C=true){o v:PySem.Expr}{x y:X}{f:Str}{p pos:Pos}{k:Nat}(hf:nmOf f=some k)(hv:EvR c A sp sc sl v x)(ho:EvR c A sp sc sl o y):
  StR c A sp sc sl (exec (.Assign [.Attribute o f p] v pos)) (.setA y k x):=fun B env m H s Q R E hsc Re q=>by
 refine asg_tail swaps_at rfl rfl (wpAny_mono (hv (hsc_of hsc) Re q) (fun z s1 e1=>?_) fun _ _ x=>x)
 obtain ⟨H1,R1,q1⟩:=e1
 rw [arm_assign_Attribute]
 refine wpAny_bind (wpAny_holding (wpAny_mono (ho (hsc_of hsc) R1 q1) (fun ov s2 e2=>?_) fun _ _ x=>x))
 obtain ⟨H2,R2,q2⟩:=e2
 obtain ⟨u,e,q3⟩:=zh q2
 obtain ⟨a,ha,hd,he⟩:=insV_eq e
 rw [vm ha]
 refine wpAny_bind (wpAny_standAt (wpAny_bind (wpAny_holding (wpAny_mono (lift0 (P:=Q m) R2 fun R3=>o_setA G hK R3 hf hd he q3.1 q3.2) (fun _ s3 e3=>?_) fun _ _ x=>x))))
 obtain ⟨H3,R3,q3⟩:=e3
 exact wpAny_release' ⟨m,H3,R3,q3⟩
theorem sub_tail{o i:PySem.Expr}{y z:X}{p:Pos}{v:Value}{P:AH→Prop}(hsc:∀n,kd env.scope n=kd sc n)(ho:EvR c A sp sc sl o y)(hi:EvR c A sp sc sl i z)(Re:Rep c B env own sl m H s)
  (q:y.ev sp m H fun ov H=>z.ev sp m H fun k H=>setIW H ov k (av v) P):wpAny (model c.prog c.w) A (assign (.Subscript o i p) env v) (fun _ s'=>∃H',Rep c B env own sl m H' s'∧P H') E s:=by
 rw [arm_assign_Subscript]
 refine wpAny_bind (wpAny_holding (wpAny_mono (ho hsc Re q) (fun ov s2 e2=>?_) fun _ _ x=>x))
 obtain ⟨H2,R2,q2⟩:=e2
 refine wpAny_bind (wpAny_holding (wpAny_mono (hi hsc R2 q2) (fun iv s3 e3=>?_) fun _ _ x=>x))
 obtain ⟨H3,R3,q3⟩:=e3
 exact wpAny_bind (wpAny_standAt (wpAny_bind (wpAny_holding (wpAny_mono (lift0 (P:=P) R3 fun R4=>o_setItem R4 q3) (fun _ s4 e4=>wpAny_release' e4) fun _ _ x=>x))))
theorem st_setI{o i v:PySem.Expr}{x y z:X}{p pos:Pos}(hv:EvR c A sp sc sl v x)(ho:EvR c A sp sc sl o y)(hi:EvR c A sp sc sl i z):
  StR c A sp sc sl (exec (.Assign [.Subscript o i p] v pos)) (.setI y z x):=fun B env m H s Q R E hsc Re q=>by
 refine asg_tail swaps_sub rfl rfl (wpAny_mono (hv (hsc_of hsc) Re q) (fun w s1 e1=>?_) fun _ _ x=>x)
 obtain ⟨H1,R1,q1⟩:=e1
 exact wpAny_mono (sub_tail (P:=Q m) (hsc_of hsc) ho hi R1 q1) (fun _ s2 ⟨H2,R2,q2⟩=>⟨m,H2,R2,q2⟩) fun _ _ x=>x
theorem tup_run{vs:List PySem.Expr}{xs:List X}{k:Nat}{tp:Pos}{P:Value→Shared→Prop}{Q:List V→AH→Prop}(hsc:∀n,kd env.scope n=kd sc n)(hl:vs.length≤sz)(hx:EsR c A sp sc sl vs xs)(R:Rep c B env own sl m H s)(q:X.evs sp xs m H Q)
  (h:∀t (items:List Value) H' s',Rep c B env own sl m H' s'→s'.heap.IsTuple t items.toArray→items.length=vs.length→Q (items.map av) H'→P (.ref t) s'):wpAny (model c.prog c.w) A (eval (.Tuple vs k tp) env) P E s:=by
 rw [arm_eval_Tuple,plain_each hx.1.1,back_each]
 refine wpAny_bind (wpAny_standAt (wpAny_bind (wpAny_mono (hx.2 hsc R q) (fun items s1 e1=>?_) fun _ _ x=>x)))
 obtain ⟨z,H1,R1,q1⟩:=e1
 refine wpAny_newTuple (h _ items H1 _ (R1.grow (t:=s1.toks) fun b o e=>Heap.get?_push_of_some _ e) ⟨_,Heap.get?_push_size _ rfl,rfl,_,rfl⟩ z q1) (wx (by rw [z];exact hl))
inductive NmR(sc:Scope)(sl:Sl):List PySem.Expr→List Str→List Nat→Prop
 |nil:NmR sc sl [] [] []
 |cons {n:Str} {p:Pos} {j:Nat} {ts:List PySem.Expr} {ns:List Str} {js:List Nat} (h:ownSlot sc sl n=some j) (r:NmR sc sl ts ns js):NmR sc sl (.Name n p::ts) (n::ns) (j::js)
theorem slots_names:∀{ts:List PySem.Expr} {js:List Nat},trSlots sc sl ts=some js→∃ns,NmR sc sl ts ns js
 |[],js,h=>by cases h;exact ⟨_,.nil⟩
 |t::ts,js,h=>by
  obtain ⟨j,js',h1,h2,rfl⟩:=b2_eq h
  obtain ⟨n,h3,h4⟩:=zd h1
  obtain ⟨p,rfl⟩:=wu h3
  obtain ⟨ns,r⟩:=slots_names h2
  exact ⟨_,.cons h4 r⟩
theorem NmR.len{ts:List PySem.Expr}{ns:List Str}{js:List Nat}(h:NmR sc sl ts ns js):ts.length=ns.length∧js.length=ns.length:=by
 induction h with
 |nil=>exact ⟨rfl,rfl⟩
 |cons _ _ ih=>exact ⟨congrArg (·+1) ih.1,congrArg (·+1) ih.2⟩
theorem set_comm{m:List V}{i j:Nat}{a b:V}(h:i≠j):(m.set i a).set j b=(m.set j b).set i a:=List.set_comm _ _ h
theorem puts_set:∀{js:List Nat} {vs m:List V} {j:Nat} {v:V},j∉js→(putsN js vs m).set j v=putsN js vs (m.set j v)
 |[],vs,m,j,v,_=>rfl
 |i::js,[],m,j,v,_=>rfl
 |i::js,w::vs,m,j,v,h=>by
  simp only [List.mem_cons,not_or] at h
  show (putsN js vs (m.set i w)).set j v=putsN js vs ((m.set j v).set i w)
  rw [puts_set h.2,set_comm h.1]
theorem puts_rev:∀{js:List Nat} {vs m:List V},js.Nodup→vs.length=js.length→putsN js.reverse vs.reverse m=putsN js vs m:=by
 have snoc:∀{js:List Nat} {vs m:List V} {j:Nat} {v:V},vs.length=js.length→putsN (js++[j]) (vs++[v]) m=(putsN js vs m).set j v:=by
  intro js
  induction js with
  |nil=>intro vs m j v h;induction vs with
   |nil=>rfl
   |cons _ _=>cases h
  |cons i js ih=>intro vs m j v h;induction vs with
   |nil=>cases h
   |cons w vs=>exact ih (m:=m.set i w) (by simpa using h)
 intro js
 induction js with
 |nil=>intro vs m _ h;induction vs with
  |nil=>rfl
  |cons _ _=>cases h
 |cons i js ih=>intro vs m hn h;induction vs with
  |nil=>cases h
  |cons w vs=>
   have hl:vs.length=js.length:=by simpa using h
   rw [List.nodup_cons] at hn
   rw [List.reverse_cons,List.reverse_cons,snoc (by simp [hl]),ih hn.2 hl,puts_set hn.1];rfl
theorem puts_ok:∀(ts:List (Value→Sem Unit)) (js:List Nat) (vals:List Value) {m:List V} {s:Shared},js.length=ts.length→vals.length=ts.length→
  (∀(k:Nat) (t:Value→Sem Unit) (j:Nat),ts[k]?=some t→js[k]?=some j→∀v m s (P:Unit→Shared→Prop),Rep c B env own sl m H s→(∀s',Rep c B env own sl (m.set j (av v)) H s'→P () s')→wpAny (model c.prog c.w) A (t v) P E s)→
  Rep c B env own sl m H s→wpAny (model c.prog c.w) A (assignInOrder ts vals) (fun _ s'=>Rep c B env own sl (putsN js (vals.map av) m) H s') E s
 |[],js,vals,m,s,h1,h2,_,R=>by
  induction js with
  |cons _ _=>cases h1
  |nil=>exact wpAny_pure R
 |t::ts,js,vals,m,s,h1,h2,h3,R=>by
  induction js with
  |nil=>cases h1
  |cons j js=>induction vals with
   |nil=>cases h2
   |cons v vals=>
    show wpAny _ _ (do holding vals (t v);assignInOrder ts vals) _ _ _
    refine wpAny_bind (wpAny_holding (h3 0 t j rfl rfl v m s _ R fun s' R'=>?_))
    exact puts_ok ts js vals (by simpa using h1) (by simpa using h2) (fun k t j a b=>h3 (k+1) t j a b) R'
end
section
variable{c:Cx}{A:Around}{sp:Sp}{F:Nat→Addr}{sc:Scope}{sl:Sl}{B:Bs}{env:Env}{own:List Str}{m:List V}{H:AH}{s:Shared}{E:Value→Shared→Prop}
theorem iteO{α:Type}{c:Prop} [Decidable c]{x y z:α}(h:¬c→y=x∨y=z):(if c then x else y)=x∨(if c then x else y)=z:=by
 by_cases q:c
 ·exact .inl (if_pos q)
 ·rw [if_neg q];exact h q
theorem iteN{α:Type}{c:Prop} [Decidable c]{x y:α}(h:¬c→y=x):(if c then x else y)=x:=by
 by_cases q:c
 ·exact if_pos q
 ·rw [if_neg q];exact h q
theorem bnn{a b:Nat}{c:Bool}(h:¬(a !=b||c)=true):a=b:=by
 generalize hb:(a !=b)=zq;induction zq with
 |false=>exact bne_eq_false_iff_eq.mp hb
 |true=>rw [hb] at h;exact absurd rfl h
theorem swap_ts{ts vs:List PySem.Expr}{ns:List Str}{js:List Nat}{k k':Nat}{p p':Pos}(N:NmR sc sl ts ns js)(hc:vs.all (constantsAlone 8)=false):
  swappedStores [.Tuple ts k p] (.Tuple vs k' p') env=pure none∨swappedStores [.Tuple ts k p] (.Tuple vs k' p') env=pure (some ns):=by
 have key:∀{ts:List PySem.Expr} {ns:List Str} {js:List Nat} (line:Nat),NmR sc sl ts ns js→(ts.filterMap fun
   | .Name id pos=>if (env.kindOf id==some .local&&pos.line==line)=true then some id else none
   |_=>none).length≤ns.length∧((ts.filterMap fun
   | .Name id pos=>if (env.kindOf id==some .local&&pos.line==line)=true then some id else none
   |_=>none).length=ns.length→(ts.filterMap fun
   | .Name id pos=>if (env.kindOf id==some .local&&pos.line==line)=true then some id else none
   |_=>none)=ns):=by
  intro ts ns js line N
  induction N with
  |nil=>exact ⟨Nat.le_refl _,fun _=>rfl⟩
  | @cons n p j ts ns js h r ih=>
   rw [List.filterMap_cons]
   dsimp only
   by_cases hb:(env.kindOf n==some .local&&p.line==line)=true
   ·rw [if_pos hb]
    exact ⟨Nat.succ_le_succ ih.1,fun e=>congrArg (n::·) (ih.2 (Nat.succ.inj e))⟩
   ·rw [if_neg hb]
    refine ⟨Nat.le_succ_of_le ih.1,fun e=>?_⟩
    have:=ih.1
    rw [e] at this
    exact absurd this (Nat.not_succ_le_self _)
 have hlen:=N.len.1
 refine iteO fun _=>iteO fun _=>iteO fun hn=>iteO fun _=>?_
 rw [if_neg (by rw [hc];decide)]
 refine .inr (congrArg (fun l=>pure (some l)) ((key _ N).2 ?_))
 rw [←hlen]
 exact bnn hn
theorem st_asgN(L:Lw c A sp F){ts vs:List PySem.Expr}{xs:List X}{js:List Nat}{k k':Nat}{p p' pos:Pos}(hs:trSlots sc sl ts=some js)(hl:ts.length=vs.length)(hn:js.Nodup)(hc:vs.all (constantsAlone 8)=false)(hz:vs.length≤sz)(hx:EsR c A sp sc sl vs xs):
  StR c A sp sc sl (exec (.Assign [.Tuple ts k p] (.Tuple vs k' p') pos)) (.asgN js xs):=fun B env m H s Q R E hsc Re q=>by
 obtain ⟨ns,N⟩:=slots_names hs
 obtain ⟨n1,n2⟩:=N.len
 have unp:∀t (items:List Value) H' s' (P:List Value→Shared→Prop),Rep c B env (vp sc) sl m H' s'→s'.heap.IsTuple t items.toArray→items.length=vs.length→(∀s'',Rep c B env (vp sc) sl m H' s''→P items s'')→wpAny (model c.prog c.w) A (unpackItems (.ref t) vs.length none) P E s':=fun t items H' s' P R' ht hi h=>by
  have:=wpAny_unpackItems_tuple (prog:=c.prog) (w:=c.w) (A:=A) (E:=E) (Q:=P) L.hh ht fun h' he=>h _ (R'.grow (t:=s'.toks) fun b o e=>he b o (Nat.ne_of_lt (Heap.lt_size e)) e)
  rwa [List.size_toArray,hi] at this
 have nth:∀{ts:List PySem.Expr} {ns:List Str} {js:List Nat},NmR sc sl ts ns js→∀(i:Nat) (n:Str) (j:Nat),ns[i]?=some n→js[i]?=some j→slot sl n=some j∧n∈vp sc:=by
  intro ts ns js N
  induction N with
  |nil=>intro i n j h _;simp at h
  |cons h r ih=>intro i n j h1 h2;induction i with
   |zero=>cases h1;cases h2;exact ownSlot_eq h
   |succ i=>exact ih i n j h1 h2
 rw [arm_exec_Assign]
 refine wpAny_bind (wpAny_standAt (wpAny_bind (wpAny_of_eq (show swapsWithSole [.Tuple ts k p] (.Tuple vs k' p') pos.line env=pure false from rfl) ?_)))
 rw [if_neg (by decide)]
 refine wpAny_bind (tup_run (hsc_of hsc) hz hx Re q fun t items H' s' R' ht hi q'=>?_)
 have fin:∀s'',Rep c B env (vp sc) sl (putsN js (items.map av) m) H' s''→StP c B env (vp sc) sl Q R .next s'':=fun s'' R''=>⟨_,H',R'',q'.2⟩
 rcases swap_ts (env:=env) (k:=k) (p:=p) (k':=k') (p':=p') N hc with e|e<;>rw [e]<;>refine wpAny_bind (wpAny_pure ?_)
 ·show wpAny _ _ (do assignAll (.ref t) [assign (.Tuple ts k p) env];pure Flow.next) _ _ _
  have each:∀{ts:List PySem.Expr} {ns:List Str} {js:List Nat},NmR sc sl ts ns js→(assignEach ts env).length=ns.length∧(assignEach ts env).findIdx? (·.1)=none∧((assignEach ts env).map (·.2)).length=ns.length∧
    ∀(k:Nat) (t:Value→Sem Unit) (j:Nat),((assignEach ts env).map (·.2))[k]?=some t→js[k]?=some j→∀v m s (P:Unit→Shared→Prop),Rep c B env (vp sc) sl m H' s→(∀s',Rep c B env (vp sc) sl (m.set j (av v)) H' s'→P () s')→wpAny (model c.prog c.w) A (t v) P E s:=by
   intro ts ns js N
   induction N with
   |nil=>exact ⟨rfl,rfl,rfl,fun k t j h=>nsm h⟩
   | @cons n p j ts ns js h r ih=>
    have e:assignEach (.Name n p::ts) env=(false,assign (.Name n p) env)::assignEach ts env:=rfl
    rw [e]
    refine ⟨congrArg (·+1) ih.1,?_,congrArg (·+1) ih.2.2.1,fun k t j' h1 h2=>?_⟩
    ·rw [List.findIdx?_cons];simp only [Bool.false_eq_true,if_false];rw [ih.2.1];rfl
    ·induction k with
     |zero=>
      cases h1;cases h2
      intro v m s P R hP
      show wpAny _ _ (assign (.Name n p) env v) _ _ _
      rw [arm_assign_Name]
      exact wpAny_bind (wpAny_standAt (store_ok R (ownSlot_eq h).1 (ownSlot_eq h).2 hP))
     |succ k=>exact ih.2.2.2 k t j' h1 h2
  refine nn fun hC=>?_
  obtain ⟨e1,e2,e3,e4⟩:=each N
  refine hC ?_
  refine wpAny_bind ?_
  show wpAny _ _ (assign (.Tuple ts k p) env (.ref t)) _ _ _
  rw [arm_assign_Tuple]
  refine wpAny_bind (wpAny_standAt ?_)
  unfold unpack
  rw [e1,e2,←n1,hl]
  refine wpAny_bind (wpAny_holding (unp t items H' s' _ R' ht hi fun s'' R''=>?_))
  exact wpAny_mono (puts_ok _ js items (n2.trans e3.symm) (by rw [hi,←hl,n1,e3]) e4 R'') (fun _ s3 R3=>wpAny_pure (fin s3 R3)) fun _ _ x=>x
 ·show wpAny _ _ (do rule "assign.swapped-stores";let items ←unpackItems (.ref t) ns.length none;assignInOrder (ns.reverse.map fun n=>bindName env n) items.reverse;pure Flow.next) _ _ _
  rw [←n1,hl]
  refine wpAny_bind (wpAny_rule (wpAny_bind (unp t items H' s' _ R' ht hi fun s'' R''=>?_)))
  refine wpAny_bind (wpAny_mono (puts_ok (ns.reverse.map fun n=>bindName env n) js.reverse items.reverse (by simp [n2]) (by simp [hi,←hl,n1]) (fun k t j h1 h2 v m s P R hP=>?_) R'') (fun _ s3 R3=>wpAny_pure (fin s3 ?_)) fun _ _ x=>x)
  ·rw [List.getElem?_map] at h1
   obtain ⟨n,h3,rfl⟩:=wj h1
   have hk:k<ns.length:=by have:=(List.getElem?_eq_some_iff.mp h3).1;simpa using this
   rw [List.getElem?_reverse hk] at h3
   rw [List.getElem?_reverse (by rw [n2];exact hk),n2] at h2
   obtain ⟨a1,a2⟩:=nth N _ n j h3 h2
   exact store_ok R a1 a2 hP
  ·rw [List.map_reverse,puts_rev hn (by simp [hi,←hl,n1,n2])] at R3
   exact R3
theorem st_swap(L:Lw c A sp F){o1 i1 o2 i2 v1 v2:PySem.Expr}{y1 z1 y2 z2 x1 x2:X}{k k':Nat}{q1 q2 p p' pos:Pos}(p1:vg v1=true)(p2:vg v2=true)(h1:EvR c A sp sc sl o1 y1)(h2:EvR c A sp sc sl i1 z1)(h3:EvR c A sp sc sl o2 y2)(h4:EvR c A sp sc sl i2 z2)(h5:EvR c A sp sc sl v1 x1)(h6:EvR c A sp sc sl v2 x2):
  StR c A sp sc sl (exec (.Assign [.Tuple [.Subscript o1 i1 q1,.Subscript o2 i2 q2] k p] (.Tuple [v1,v2] k' p') pos)) (.swap y1 z1 y2 z2 x1 x2):=fun B env m H s Q R E hsc Re q=>by
 have hsw:swappedStores [.Tuple [.Subscript o1 i1 q1,.Subscript o2 i2 q2] k p] (.Tuple [v1,v2] k' p') env=pure none:=iteN fun _=>iteN fun _=>rfl
 refine asg_tail rfl hsw rfl ?_
 refine tup_run (Q:=fun vs H=>ifS (pairL vs) fun w=>y1.ev sp m H fun v H=>z1.ev sp m H fun k H=>setIW H v k w.1 fun H=>y2.ev sp m H fun v H=>z2.ev sp m H fun k H=>setIW H v k w.2 fun H=>Q m H) (hsc_of hsc) (show 2≤sz by decide) (es_cons p1 h5 (es_cons p2 h6 es_nil)) Re q fun t items H' s' R' ht hi q'=>?_
 refine nn fun hC=>?_
 obtain ⟨w,e,q0⟩:=zh q'
 clear q'
 obtain ⟨a1,a2,rfl,e1,e2⟩:=map2 (pairL_inv _ _ e)
 clear e
 refine hC ?_
 rw [←e1,←e2] at q0
 refine wpAny_assign_Tuple L.hh ht rfl rfl fun h' he=>?_
 show wpAny _ _ (do holding [a2] (assign (.Subscript o1 i1 q1) env a1);assignInOrder [assign (.Subscript o2 i2 q2) env] [a2]) _ _ _
 refine wpAny_bind (wpAny_holding (wpAny_mono (sub_tail (hsc_of hsc) h1 h2 (R'.grow (t:=s'.toks) fun b o e=>he b o (Nat.ne_of_lt (Heap.lt_size e)) e) q0) (fun _ s2 e2=>?_) fun _ _ x=>x))
 obtain ⟨H2,R2,q2'⟩:=e2
 show wpAny _ _ (do holding [] (assign (.Subscript o2 i2 q2) env a2);assignInOrder [] []) _ _ _
 refine wpAny_bind (wpAny_holding (wpAny_mono (sub_tail (P:=Q m) (hsc_of hsc) h3 h4 R2 q2') (fun _ s3 e3=>?_) fun _ _ x=>x))
 obtain ⟨H3,R3,q3⟩:=e3
 exact wpAny_pure ⟨m,H3,R3,q3⟩
theorem st_if{t:PySem.Expr}{b o:List Stmt}{x:X}{sb so:S}{pos:Pos}(ht:CoR c A sp sc sl t x)(hb:StR c A sp sc sl (execs b) sb)(ho:StR c A sp sc sl (execs o) so):StR c A sp sc sl (exec (.If t b o pos)) (.ite x sb so):=fun B env m H s Q R E hsc Re q=>by
 refine wpAny_If (wpAny_mono (ht (hsc_of hsc) (fun v H h=>ifB_b h) Re q) (fun b s1 e1=>?_) fun _ _ x=>x)
 obtain ⟨H1,R1,q1⟩:=e1
 induction b with
 |true=>exact hb hsc R1 q1
 |false=>exact ho hsc R1 q1
theorem st_whl{t:PySem.Expr}{b:List Stmt}{x:X}{sb:S}{pos:Pos}(ht:CoR c A sp sc sl t x)(hb:StR c A sp sc sl (execs b) sb):StR c A sp sc sl (exec (.While t b [] pos)) (.whl x sb):=fun B env m H s Q R E hsc Re q=>by
 refine nn fun hC=>?_
 obtain ⟨I,n,h1,h2⟩:=q
 refine hC ?_
 refine wpAny_While ?_
 refine codeAny_whileLoop (fun n s=>Ex2 fun m H=>Rep c B env (vp sc) sl m H s∧I n m H) (fun n s hI=>?_) n ⟨m,H,Re,h1⟩
 refine nn fun hC=>?_
 obtain ⟨m1,H1,R1,q1⟩:=hI
 refine hC ?_
 refine wpAny_mono (ht (E:=fun _ _=>False) (hsc_of hsc) (fun v H h=>ifB_b h) R1 (h2 n m1 H1 q1)) (fun b s2 e2=>?_) fun _ _ f=>f.elim
 obtain ⟨H2,R2,q2⟩:=e2
 induction b with
 |false=>exact wpAny_execs_nil ⟨m1,H2,R2,q2⟩
 |true=>
  refine wpAny_mono (hb hsc R2 q2) (fun fl s3 e3=>?_) hsc.po
  induction fl with
  |next=>
   refine nn fun hC=>?_
   obtain ⟨m3,H3,R3,k,hk,q3⟩:=e3
   refine hC ?_
   exact ⟨k,hk,m3,H3,R3,q3⟩
  |ret v=>exact e3
  |brk=>exact e3.elim
  |cont=>exact e3.elim
theorem st_for{n:Str}{np pos:Pos}{it:PySem.Expr}{b:List Stmt}{x:X}{i:Nat}{sb:S}(hi:ownSlot sc sl n=some i)(hp:vg it=true)(ht:ItR c A sp sc sl it x)(hb:StR c A sp sc sl (execs b) sb):
  StR c A sp sc sl (exec (.For (.Name n np) it b [] pos)) (.for_ i x sb):=fun B env m H s Q R E hsc Re q=>by
 obtain ⟨hs,hown⟩:=ownSlot_eq hi
 refine wpAny_For (wpAny_mono (ht (hsc_of hsc) Re q) (fun v s1 e1=>wpAny_mono e1 (fun y s2 e2=>?_) fun _ _ x=>x) fun _ _ x=>x) (fun _=>plain_fold hp)
 obtain ⟨I,items,chk,thaw,H2,St,rfl,P⟩:=e2
 refine codeAny_forLoop (fun k s=>Ex3 fun i' m H=>An7 (k=items.length-i') (i'≤items.length) (Rep c B env (vp sc) sl m H s) (St i' s.heap) (Out B env H I) ((∃o,s.heap.get? I=some o)) (floop chk (fun v m H Q R=>sb.wp sp (m.set i v) H Q R) (items.drop i') m H (fun m H=>Q m (thaw H)) (rt fun v H=>chk H∧R v (thaw H)))) (fun k s hI=>?_) items.length ⟨0,m,H2,rfl,Nat.zero_le _,P.rep,P.st,P.out,P.live,P.k⟩
 refine nn fun hC=>?_
 obtain ⟨j,m1,H1,rfl,hj,R1,st,oI,⟨w0,aI⟩,hl⟩:=hI
 refine hC ?_
 generalize hx:items[j]?=zq;induction zq with
 |none=>
  obtain rfl:j=items.length:=Nat.le_antisymm hj (by simpa using hx)
  rw [List.drop_length] at hl
  refine P.it.done st R1.hp hl.1 fun h' tk he=>wpAny_execs_nil ?_
  exact ⟨m1,_,(R1.away oI he).thawed P.tw hl.1,hl.2⟩
 |some v=>
  obtain ⟨hlt,hxe⟩:=List.getElem?_eq_some_iff.mp hx
  rw [List.drop_eq_getElem_cons hlt,hxe] at hl
  refine P.it.item hx st R1.hp hl.1 fun y h' tk hy st' hs'=>?_
  have R2:=R1.away (t:=tk) oI hs'.extBut
  have ho:∀a∈[I],Out B env H1 a:=allC oI allN
  dsimp only
  rw [arm_assign_Name]
  refine wpAny_bind (wpAny_standAt (store_ok (R2.hold ho) hs hown fun s3 R3'=>?_))
  obtain ⟨w1,aI1⟩:=P.it.live st'
  obtain ⟨R3,k3⟩:=R2.unhold R3' ho
  obtain ⟨aI3,oI3⟩:=k3 I (.head _) _ aI1
  have ho3:∀a∈[I],Out B env H1 a:=allC oI3 allN
  rw [hy] at R3
  refine wpAny_mono (hb (hsc.no fun _ h=>h) (R3.hold ho3) hl.2) (fun fl s4 e4=>?_) fun _ _ f=>f.elim
  have hB:∀a∈[I],OutH B H1 a:=fun a ha=>⟨(ho3 a ha).b,(ho3 a ha).h⟩
  induction fl with
  |next=>
   refine nn fun hC=>?_
   obtain ⟨m4,H4,R4',q4⟩:=e4
   obtain ⟨R4,k4⟩:=R3.unhold R4' ho3
   obtain ⟨aI4,oI4⟩:=k4 I (.head _) _ aI3
   refine hC ?_
   exact ⟨items.length-(j+1),sub_s hlt,j+1,m4,H4,rfl,hlt,R4,P.it.frame st' (aI4.trans aI1.symm),oI4,⟨_,aI4⟩,q4⟩
  |ret v=>
   refine nn fun hC=>?_
   obtain ⟨H4,R4',q5⟩:=e4
   obtain ⟨ck,q4⟩:=rt_eq (rt_eq q5)
   refine hC ?_
   exact ⟨_,P.tw.1 _ _ _ (R3.hp.unhold R4' hB).1 ck,rt_mk (rt_ne q5) q4⟩
  |brk=>exact e4.elim
  |cont=>exact e4.elim
end
section
variable{c:Cx}{A:Around}{sp:Sp}{F:Nat→Addr}{sc:Scope}{sl:Sl}{B:Bs}{env:Env}{own:List Str}{m:List V}{H:AH}{s:Shared}{E:Value→Shared→Prop}
theorem st_skip:StR c A sp sc sl (execs []) .skip:=fun _ _ _ _ _ _ _ _ hsc R q=>wpAny_execs_nil ⟨_,_,R,q⟩
theorem st_seq{st:Stmt}{rest:List Stmt}{a b:S}(h1:StR c A sp sc sl (exec st) a)(h2:StR c A sp sc sl (execs rest) b):StR c A sp sc sl (execs (st::rest)) (.seq a b):=fun B env m H s Q R E hsc Re q=>by
 refine wpAny_execs_cons (wpAny_mono (h1 hsc Re q) (fun fl s1 e1=>?_) fun _ _ x=>x)
 induction fl with
 |next=>
  refine nn fun hC=>?_
  obtain ⟨m1,H1,R1,q1⟩:=e1
  refine hC ?_
  exact h2 hsc R1 q1
 |ret v=>exact e1
 |brk=>exact e1.elim
 |cont=>exact e1.elim
theorem st_ret{e:PySem.Expr}{x:X}{pos:Pos}(h:EvR c A sp sc sl e x):StR c A sp sc sl (exec (.Return (some e) pos)) (.ret x):=fun B env m H s Q R E hsc Re q=>
 wpAny_Return_some (wpAny_mono (h (hsc_of hsc) Re q) (fun v s1 ⟨H1,R1,q1⟩=>⟨H1,R1.hp,q1⟩) fun _ _ x=>x)
theorem st_ret0{pos:Pos}:StR c A sp sc sl (exec (.Return none pos)) (.ret (.c .none)):=fun B env m H s Q R E hsc Re q=>wpAny_Return_none ⟨H,Re.hp,q⟩
theorem st_ex{e:PySem.Expr}{x:X}{pos:Pos}(hc:isCall e=true)(h:EvR c A sp sc sl e x):StR c A sp sc sl (exec (.Expr e pos)) (.ex x):=fun B env m H s Q R E hsc Re q=>by
 have hi:interactive env=false:=by
  unfold interactive
  rw [Re.fm.eok.kind];rfl
 refine wpAny_Expr_any (wpAny_mono (h (hsc_of hsc) Re q) (fun v s1 ⟨H1,R1,q1⟩=>⟨m,H1,R1,q1⟩) fun _ _ x=>x) hi ?_
 obtain ⟨y,hy⟩:=Option.isSome_iff_exists.mp hc
 rw [show e=_ from callOf_inv e y hy]
 rfl
theorem snd_tup(L:Lw c A sp F){n:Nat}{ts vs:List PySem.Expr}{k k':Nat}{p p' pos:Pos}{code:S}(h2:hAsgT ((tr c.T (n+1)).x sc sl) sc sl ts vs=some code):StR c A sp sc sl (exec (.Assign [.Tuple ts k p] (.Tuple vs k' p') pos)) code:=by
 have S:=snd L (n+1)
 unfold hAsgT at h2
 generalize h3:trSlots sc sl ts=zq;induction zq with
 |some js=>
  rw [h3] at h2
  obtain ⟨h4,h5⟩:=gd_eq h2
  obtain ⟨h6,h7⟩:=and2 h4
  obtain ⟨h8,h9⟩:=and2 h6
  obtain ⟨h10,h11⟩:=and2 h8
  obtain ⟨xs,h12,rfl⟩:=wj h5
  rw [Bool.not_eq_true'] at h9
  exact st_asgN L h3 (beq_iff_eq.mp h10) (of_decide_eq_true h11) h9 (of_decide_eq_true h7) (ev_of S h12).es
 |none=>
  rw [h3] at h2
  obtain ⟨t,h4,h5⟩:=zd h2
  obtain ⟨v,h6,h7⟩:=zd h5
  obtain ⟨a,h8,h9⟩:=zd h7
  obtain ⟨b,h10,h11⟩:=zd h9
  obtain ⟨p1,p2,p3,h12,h13,h14,rfl⟩:=b3_eq h11
  obtain ⟨x1,y1,a1,a2,rfl⟩:=b2_eq h12
  obtain ⟨x2,y2,a3,a4,rfl⟩:=b2_eq h13
  obtain ⟨x3,y3,a5,a6,rfl⟩:=b2_eq h14
  obtain ⟨q1,e1⟩:=subOf_inv _ a h8
  obtain ⟨q2,e2⟩:=subOf_inv _ b h10
  rw [two_eq h4,two_eq h6,e1,e2]
  exact st_swap L (S.pl a5).1 (S.pl a6).1 (S.x a1) (S.x a2) (S.x a3) (S.x a4) (S.x a5) (S.x a6)
theorem snd_asg(L:Lw c A sp F){n:Nat}{t v:PySem.Expr}{pos:Pos}{code:S}(h:hAsg ((tr c.T (n+1)).x sc sl) sc sl t v=some code):StR c A sp sc sl (exec (.Assign [t] v pos)) code:=by
 have S:=snd L (n+1)
 obtain ⟨g,h0,hh⟩:=zd h
 clear h
 have e:=tgOf_inv t g h0
 clear h0
 induction g with
 |name x=>
  obtain ⟨p,rfl⟩:=e
  obtain ⟨i,x,h1,h2,rfl⟩:=b2_eq hh
  exact st_asg L h1 (S.x h2) (use_of L (snd L n) h2)
 |at_ o f=>
  obtain ⟨p,rfl⟩:=e
  obtain ⟨k,x,y,h1,h2,h3,rfl⟩:=b3_eq hh
  exact st_setA L.G L.hK h1 (S.x h2) (S.x h3)
 |sub o i=>
  obtain ⟨p,rfl⟩:=e
  obtain ⟨x,y,z,h1,h2,h3,rfl⟩:=b3_eq hh
  exact st_setI (S.x h1) (S.x h2) (S.x h3)
 |tup ts=>
  obtain ⟨k,p,rfl⟩:=e
  obtain ⟨vs,h1,h2⟩:=zd (show (tupOf v).bind _=_ from hh)
  obtain ⟨k',p',rfl⟩:=tupOf_inv v vs h1
  exact snd_tup L h2
theorem st_rse(L:Lw c A sp F){a:PySem.Expr}{x:X}{w:Str}{np fp kp jp cp pos:Pos}{k:Nat}(hg:glb sc c.T.excN=true)(hw:w.length≤1000)(ha:EvR c A sp sc sl a x):
  StR c A sp sc sl (exec (.Raise (some (.Call (.Name c.T.excN np) [.JoinedStr [.FormattedValue a (-1) none fp,.Constant (.str w) k kp] jp] [] cp)) none pos)) (.rse x):=fun B env m H s Q R E hsc Re q=>
 L.rs (P:=fun H=>R .un H) (hsc_of hsc) hg hw Re (wpAny_mono (ha (hsc_of hsc) Re q) (fun v s1 ⟨H1,R1,q1⟩=>by
  obtain ⟨i,hi,q2⟩:=zh q1
  obtain ⟨t,e⟩:=vq (V.i_eq hi)
  exact ⟨i,t,H1,e,q2.1,R1,q2.2⟩) fun _ _ x=>x) fun y s' H1 hP R1 hx hB hH=>hsc.xr _ _ ⟨y,m,H1,rfl,R1,hx,hB,hH,hP⟩
theorem st_limC(L:Lw c A sp F){c1:PySem.Expr}{args:List PySem.Expr}{x:X}{xs:List X}{b o:List Stmt}{sb so:S}{np cp up bp pos:Pos}(hg:glb sc c.T.limN=true)(ht:CoR c A sp sc sl c1 x)(hs:EsR c A sp sc sl args xs)(hb:StR c A sp sc sl (execs b) sb)(ho:StR c A sp sc sl (execs o) so):
  StR c A sp sc sl (exec (.If (.BoolOp .And [c1,.UnaryOp .Not (.Call (.Name c.T.limN np) args [] cp) up] bp) b o pos)) (.limC x xs sb so):=fun B env m H s Q R E hsc Re q=>by
 refine wpAny_If (isTrue_and (wpAny_mono (ht (hsc_of hsc) (fun v H h=>ifB_b h) Re q) (fun b1 s1 e1=>?_) fun _ _ x=>x))
 obtain ⟨H1,R1,q1⟩:=e1
 induction b1 with
 |false=>exact ho hsc R1 q1
 |true=>
  refine isTrue_and (isTrue_not (isTrue_plain (wpAny_mono (Call_Name rfl (name_glob L.G hg (hsc_of hsc) R1 L.tb.lim.1 (with_K L.G L.tb.lim.2 hs (hsc_of hsc) R1 q1 fun vs H' s' hl R' q'=>L.lim vs hsc.fr R' q'))) (fun v s2 e2=>?_) fun _ _ x=>x)))
  obtain ⟨H2,R2,q2⟩:=e2
  obtain ⟨b2,hb2,q3⟩:=ifB_eq q2
  rw [av_bool hb2]
  refine wpAny_truthy_bool ?_
  induction b2 with
  |true=>exact ho hsc R2 q3
  |false=>exact isTrue_and_nil (hb hsc R2 q3)
theorem snd_rse(L:Lw c A sp F){n:Nat}{e cc:Option PySem.Expr}{pos:Pos}{code:Mine.S}(h:rseE (tr c.T (n+1)) sc sl e cc=some code):StR c A sp sc sl (exec (.Raise e cc pos)) code:=by
 have S:=snd L (n+1)
 refine nn fun hC=>?_
 obtain ⟨h1,h⟩:=gd_eq h
 obtain ⟨e',h2,h⟩:=zd h
 obtain ⟨x,h3,h⟩:=zd h
 obtain ⟨h4,h⟩:=gd_eq h
 obtain ⟨a,h5,h⟩:=zd h
 obtain ⟨p,h6,h⟩:=zd h
 obtain ⟨h7,h⟩:=gd_eq h
 obtain ⟨y,h8,rfl⟩:=wj h
 obtain ⟨h4,h9⟩:=and2 h4
 obtain ⟨h10,h11⟩:=and2 h4
 obtain ⟨np,h12⟩:=wu (eqO h11)
 obtain ⟨vs,h13,h14⟩:=js_inv h6
 obtain ⟨q,h15,h16⟩:=zd h14
 obtain ⟨v,w,h17,h18,rfl⟩:=b2_eq h16
 obtain ⟨k,kp,h19⟩:=constStr_eq h18
 obtain ⟨fp,h20⟩:=fv_inv h17
 obtain ⟨jp,h13⟩:=h13
 refine hC ?_
 rw [h2,Option.isNone_iff_eq_none.mp h1,show e'=_ from callOf_inv e' x h3,h12,one_eq h5,h13,two_eq h15,h19,h20,List.isEmpty_iff.mp h10]
 exact st_rse L h9 (of_decide_eq_true h7) (S.x h8)
theorem snd_if(L:Lw c A sp F){n:Nat}{rs:List Stmt→Option Mine.S}(hr:∀{ss:List Stmt} {code:Mine.S},rs ss=some code→StR c A sp sc sl (execs ss) code){t:PySem.Expr}{b o:List Stmt}{pos:Pos}{code:Mine.S}(h:ifE (tr c.T (n+1)) rs sc sl t b o=some code):StR c A sp sc sl (exec (.If t b o pos)) code:=by
 have S:=snd L (n+1)
 unfold ifE at h
 generalize hl:limE (tr c.T (n+1)).T sc t=zq;induction zq with
 |none=>
  rw [hl] at h
  obtain ⟨x,y,z,h1,h2,h3,rfl⟩:=b3_eq h
  exact st_if (S.co h1) (hr h2) (hr h3)
 |some p=>
  rw [hl] at h
  refine nn fun hC=>?_
  obtain ⟨xs,h1,h⟩:=zd h
  obtain ⟨x,y,z,h2,h3,h4,rfl⟩:=b3_eq h
  obtain ⟨es,h5,hl⟩:=zd hl
  obtain ⟨q,h6,hl⟩:=zd hl
  obtain ⟨as,h7,rfl⟩:=wj hl
  obtain ⟨e,h8,h7⟩:=zd h7
  obtain ⟨w,h9,h7⟩:=zd h7
  obtain ⟨h10,h7⟩:=gd_eq h7
  obtain ⟨h10,h11⟩:=and2 h10
  obtain ⟨h12,h13⟩:=and2 h10
  obtain ⟨np,h14⟩:=wu (eqO h13)
  obtain ⟨bp,h15⟩:=bo_inv h5
  obtain ⟨up,h16⟩:=not_inv h8
  have h17:=Option.some.inj h7
  refine hC ?_
  rw [h15,two_eq h6,h16,show e=_ from callOf_inv e w h9,h14,h17,List.isEmpty_iff.mp h12]
  exact st_limC L h11 (S.co h2) (ev_of S h1).es (hr h3) (hr h4)
noncomputable def StOk(c:Cx)(A:Around)(sp:Sp)(sc:Scope)(sl:Sl)(st:Stmt)(code:S):Prop:=code≠ .fail→StR c A sp sc sl (exec st) code
theorem snd_st'(L:Lw c A sp F){n:Nat}{rs:List Stmt→Option Mine.S}(hr:∀{ss:List Stmt} {code:Mine.S},rs ss=some code→StR c A sp sc sl (execs ss) code)(st:Stmt):InvP (StOk c A sp sc sl st) (sStep (tr c.T (n+1)) rs sc sl st):=by
 have S:=snd L (n+1)
 refine sw_inv (f:=sV (tr c.T (n+1)) rs sc sl) fun w q=>?_
 induction w<;>first|exact invN|(intro code h hf;obtain ⟨_,rfl⟩:=q)
 case pass=>cases h;exact fun _ _ _ _ _ _ _ _ hsc R q=>wpAny_Pass ⟨_,_,R,q⟩
 case raise=>exact snd_rse L h
 case ex=>
  obtain ⟨h1,h2⟩:=gd_eq h
  obtain ⟨x,h3,rfl⟩:=wj h2
  exact st_ex h1 (S.x h3)
 case ret v _=>
  obtain ⟨x,h1,rfl⟩:=wj h
  induction v with
  |none=>cases h1;exact st_ret0
  |some e=>exact st_ret (S.x h1)
 case ite=>
  exact snd_if L hr h
 case whl=>
  obtain ⟨h1,h2⟩:=gd_eq h
  obtain ⟨x,y,h3,h4,rfl⟩:=b2_eq h2
  rw [List.isEmpty_iff.mp h1]
  exact st_whl (S.co h3) (hr h4)
 case for_=>
  obtain ⟨h1,h2⟩:=gd_eq h
  obtain ⟨i,x,y,h3,h4,h5,rfl⟩:=b3_eq h2
  obtain ⟨nn,h6,h7⟩:=zd h3
  obtain ⟨p,rfl⟩:=wu h6
  rw [List.isEmpty_iff.mp h1]
  obtain ⟨j1,j2⟩:=it_of L S h4
  exact st_for h7 j2 j1 (hr h5)
 case asg=>
  obtain ⟨t,h1,h2⟩:=zd h
  rw [one_eq h1]
  exact snd_asg L h2
theorem snd_st(L:Lw c A sp F){n:Nat}{rs:List Stmt→Option Mine.S}(hr:∀{ss:List Stmt} {code:Mine.S},rs ss=some code→StR c A sp sc sl (execs ss) code){st:Stmt}{code:Mine.S}(hf:code≠ .fail)
  (h:sStep (tr c.T (n+1)) rs sc sl st=some code):StR c A sp sc sl (exec st) code:=snd_st' L hr st code h hf
theorem st_fail{st:Stmt}:StR c A sp sc sl (exec st) .fail:=fun _ _ _ _ _ _ _ _ hsc R q=>q.elim
theorem snd_ss(L:Lw c A sp F){n:Nat}:∀{k:Nat} {ss:List Stmt} {code:Mine.S},trSs (tr c.T (n+1)) sc sl k ss=some code→StR c A sp sc sl (execs ss) code
 |0,ss,code,h=>by cases h
 |k+1,[],code,h=>by cases h;exact st_skip
 |k+1,st::rest,code,h=>by
  obtain ⟨a,b,h1,h2,rfl⟩:=b2_eq h
  refine st_seq ?_ (snd_ss L h2)
  by_cases hf:a= .fail
  ·rw [hf];exact st_fail
  ·exact snd_st L (fun h=>snd_ss L h) hf h1
structure Fa where
 np:Nat
 ns:Nat
 code:S
noncomputable def spN(tab:List Fa):Nat→Sp
 |0=>fun _ _ _ _=>False
 |n+1=>fun g vs H Q=>match tab[g]? with
  |some f=>vs.length=f.np∧f.code.wp (spN tab n) (vs++List.replicate (f.ns-f.np) .un) H (fun _ H=>Q .none H) (rt Q)
  |none=>False
theorem spN_s{tab:List Fa}{n g:Nat}{f:Fa}{vs:List V}{H:AH}{Q:V→AH→Prop}(hf:tab[g]?=some f):spN tab (n+1) g vs H Q=(vs.length=f.np∧f.code.wp (spN tab n) (vs++List.replicate (f.ns-f.np) V.un) H (fun _ H=>Q V.none H) (rt Q)):=by
 show (match tab[g]? with|some f=>vs.length=f.np∧f.code.wp (spN tab n) (vs++List.replicate (f.ns-f.np) V.un) H (fun _ H=>Q V.none H) (rt Q)|none=>False)=_
 rw [hf]
theorem spN_n{tab:List Fa}{n g:Nat}{vs:List V}{H:AH}{Q:V→AH→Prop}(hf:tab[g]?=none):spN tab (n+1) g vs H Q=False:=by
 show (match tab[g]? with|some f=>vs.length=f.np∧f.code.wp (spN tab n) (vs++List.replicate (f.ns-f.np) V.un) H (fun _ H=>Q V.none H) (rt Q)|none=>False)=_
 rw [hf]
noncomputable def spX(tab:List Fa)(n:Nat):Sp:=fun g vs H Q=>match tab[g]? with
  |some f=>vs.length=f.np∧f.code.wp (spN tab n) (vs++List.replicate (f.ns-f.np) .un) H (fun _ H=>Q .none H) Q
  |none=>False
structure Good(A:Around)(n:Nat):Prop where
 hh:A.handled=none
 dp:A.depth+5*n+20<recursionLimit
 un:A.units+50*n+100<cLine
 fr:∃l,A.frames=some l
theorem Good.dep{n:Nat}(g:Good A n):A.depth<recursionLimit:=Nat.lt_of_le_of_lt (Nat.le_trans (Nat.le_add_right _ (5*n)) (Nat.le_add_right _ 20)) g.dp
theorem Good.down{n:Nat}(g:Good A (n+1)):Good A n:=
 ⟨g.hh,Nat.lt_of_le_of_lt (Nat.add_le_add_right (Nat.add_le_add_left (Nat.mul_le_mul_left 5 (Nat.le_succ n)) _) _) g.dp,Nat.lt_of_le_of_lt (Nat.add_le_add_right (Nat.add_le_add_left (Nat.mul_le_mul_left 50 (Nat.le_succ n)) _) _) g.un,g.fr⟩
theorem gd_l{a n w k x L:Nat}(hw:w≤k)(h:a+k*(n+1)+x<L):a+w+k*n+x<L:=by
 refine Nat.lt_of_le_of_lt (Nat.add_le_add_right ?_ x) h
 rw [Nat.mul_succ,Nat.add_assoc,Nat.add_comm w]
 exact Nat.add_le_add_left (Nat.add_le_add_left hw _) _
theorem Good.deeper{n:Nat}(g:Good A (n+1)):Good (A.deeper env) n∧Good (A.deeper env).in1.in1 n∧∀a vs,Good ((A.deeper env).under (.builtin "type.__call__" ⟨.ref a::vs,[]⟩)) n:=by
 obtain ⟨h1,h2,h3,l,h4⟩:=g
 have h5:=Around.frames_deeper (env:=env) h4
 refine ⟨⟨h1,?_,?_,_,h5⟩,⟨h1,?_,?_,_,h5⟩,fun a vs=>⟨h1,?_,?_,_,h5⟩⟩
 ·exact gd_l (w:=1) (by decide) h2
 ·exact gd_l (w:=3) (by decide) h3
 ·exact gd_l (w:=1) (by decide) h2
 ·exact gd_l (w:=5) (by decide) h3
 ·show A.depth+1+(Code.builtin "type.__call__" ⟨.ref a::vs,[]⟩).weight+5*n+20<_
  have:(Code.builtin "type.__call__" ⟨.ref a::vs,[]⟩).weight≤4:=Nat.le_of_ble_eq_true (by kernel_rfl)
  rw [Nat.add_assoc A.depth]
  exact gd_l (Nat.add_le_add_left this 1) h2
 ·show A.units+3+(Code.builtin "type.__call__" ⟨.ref a::vs,[]⟩).cUnits+50*n+100<_
  have:(Code.builtin "type.__call__" ⟨.ref a::vs,[]⟩).cUnits≤40:=Nat.le_of_ble_eq_true (by kernel_rfl)
  rw [Nat.add_assoc A.units]
  exact gd_l (Nat.le_trans (Nat.add_le_add_left this 3) (by decide)) h3
end
section
variable{c:Cx}{A:Around}{sp:Sp}{F:Nat→Addr}{B:Bs}{m:List V}{H:AH}{s:Shared}{E:Value→Shared→Prop}
structure SupOK(c:Cx)(C:Addr)(v:Value)(fd:FuncData)(f:Addr)(ar:Arg):Prop where
 par:(fd.params.posonlyargs++fd.params.args).head?=some ar
 look:∃o,c.K.lookup f=some o∧o.data= .func fd
 code:Ex7 fun cda ccl cdd vs ccs file tf=>An4 (fd.code= .ref cda) (c.K.lookup cda=some ⟨ccl,cdd,.fields vs,ccs⟩) (vs[2]?=some (.str file tf)) (((c.prog.main.file:Str)==file)=true)
 cell:Ex6 fun cc cl cld csl D cdD=>An5 (fd.closure.lookup ("__class__":Str)=some cc) (c.K.lookup cc=some ⟨cl,cld,.cell (some (.ref D)),csl⟩) (clsIn c.K D=some cdD) (mroIn c.K C (.ref D)=some true) (ks_superIn c.K C D "__init__"=some (some v))
 top:(c.prog.main.scope.names.lookup ("super":Str)).isSome=false
 any:nsIn c.K cStatics "thirdparty.any"=some none
 sup:fd.scope.names.lookup ("super":Str)=some .globalImplicit
 cls:fd.scope.names.lookup ("__class__":Str)=some .free
 self:slot (zm fd.scope) ar.arg=some 0
 bi:nsIn c.K mainGlobals "super"=some none
noncomputable abbrev supO(D a C:Addr):Obj:={cls:= .type "super",dict:=none,data:= .fields #[.ref D,.ref a,.ref C],slots:= #[]}
theorem sup_at(G:Gd c){C:Addr}{v:Value}{fd:FuncData}{f L a:Addr}{ar:Arg}{body:List Stmt}{p0 p1 p2 p3 ap:Pos}{args:List PySem.Expr}{o:Obj}{Q:Flow→Shared→Prop}(hline:(ap.endLine==p2.line)=true)
  (hform:methodCallForm (args.length+([]:List Keyword).length) (backTo p2 (starEach args (callEnv fd L f))) (backToKw p2 (keywordEach [] (callEnv fd L f)))=true) (S:SupOK c C v fd f ar)
  (h0:∀b o,c.h₀.get? b=some o→s.heap.get? b=some o) (hk:fd.scope.kind= .function) (hg:fd.globals=mainGlobals) (hb:fd.builtins=builtinsNs) (hself:∀{Q E},Q (.ref a) s→wpAny (model c.prog c.w) A (loadName (callEnv fd L f) ar.arg) Q E s)
  (ha:s.heap.get? a=some o) (hc:o.cls= .ref C) (hd:∀cd,o.data≠ .cls cd)
  (h:∀D l h' pl,alongIn c.K "__init__" l=some (some v)→(∃cd,clsIn c.K C=some cd∧(cd.mro.dropWhile (·!= .ref D)).drop 1=l)→h'.get? s.heap.objs.size=some (supO D a C)→(∀b o,s.heap.get? b=some o→h'.get? b=some o)→
   wpAny (model c.prog c.w) A (getMethod (.ref s.heap.objs.size) "__init__" pl) (fun fx s₂=>wpAny (model c.prog c.w) A (callWith p2 fx.1 fx.2 (backTo p2 (starEach args (callEnv fd L f))) []) (fun _=>Q .next) E s₂) E {s with heap:=h'}):
  _root_.PySem.wpAt (model c.prog c.w) A (.func body (callEnv fd L f)) (exec (.Expr (.Call (.Attribute (.Call (.Name "super" p0) [] [] p1) "__init__" ap) args [] p2) p3) (callEnv fd L f)) Q E s:=by
 refine nn fun hC=>?_
 obtain ⟨S1,⟨of,S2,S2'⟩,⟨cda,ccl,cdd,vs,ccs,file,tf,S3,S4,S5,S6⟩,⟨cc,cl,cld,csl,D,cdD,S7,S8,S9,S10,S11⟩,S13,S14,S15,S16,S17,S18⟩:=S
 refine hC ?_
 have X:c.K.In s.heap:=G.kin.keeps h0
 have hi:interactive (callEnv fd L f)=false:=by unfold interactive;rw [show (callEnv fd L f).scope.kind=_ from hk];rfl
 refine ks_wpAt_Expr_any ?_ hi rfl
 refine ks_wpAt_MethodCall (pl:=(do return (←importBound (.Call (.Name "super" p0) [] [] p1) (callEnv fd L f)).getD true)) ?_ ?_
 rotate_left
 ·rw [arm_eval_Call]
  have hpos:methodCallPos true (.Call (.Name "super" p0) [] [] p1) (callEnv fd L f) ap p2=pure p2:=by unfold methodCallPos;simp [hline]
  unfold methodCall calleeOf
  rw [hform,hpos]
  simp only [if_true,pure_bind]
  rfl
 obtain ⟨oD,hD1,hD2⟩:∃oD,s.heap.get? D=some oD∧oD.data= .cls cdD:=by
  unfold clsIn at S9
  generalize ho:c.K.lookup D=zq;induction zq with
  |none=>rw [ho] at S9;exact nsm S9
  |some o=>
   rw [ho] at S9
   obtain ⟨c',d',x,sl⟩:=o
   induction x<;>first|exact nsm S9|(cases S9;exact ⟨_,X _ _ ho,rfl⟩)
 refine ks_wpAt_super_base (fd:=fd) S15 S16 rfl rfl (X _ _ S2) S2' S1 S3 (X _ _ S4) rfl S5 S6 S13 ?_
 refine nn fun hC=>?_
 obtain ⟨mg,hmg⟩:=G.mg
 obtain ⟨mb,hmb,hbb⟩:=G.mb
 refine hC ?_
 have hmg':=hmg.keeps h0
 have hmb':=hmb.keeps h0
 refine ks_loadName_global hk S15 (loadGlobal_builtin (by rw [show (callEnv fd L f).globals=_ from hg];exact hmg') (mg_none_of X hmg' S18) (by rw [show (callEnv fd L f).builtins=_ from hb];exact hmb') ((hbb "super" (by decide+kernel)).trans boot_super) ⟨rfl,?_⟩)
 refine wpAny_loadName_free hk S16 S7 ⟨_,X _ _ S8,rfl⟩ ?_ (by decide+kernel)
 refine hself ?_
 refine ks_wpAny_isType_cls hD1 hD2 ⟨rfl,?_⟩
 refine nn fun hC=>?_
 obtain ⟨cd,hcd,hal⟩:∃cd,clsIn c.K C=some cd∧alongIn c.K "__init__" ((cd.mro.dropWhile (·!= .ref D)).drop 1)=some (some v):=by
  unfold ks_superIn at S11
  exact Option.bind_eq_some_iff.mp S11
 refine hC ?_
 exact ks_wpAny_call_super hD1 hD2 ha hc hd (looks_mroIn X S10) fun h' e k=>h D _ h' _ hal ⟨cd,hcd,rfl⟩ e k
noncomputable abbrev FnK(K:Frag)(g2:Addr):Prop:=Ex2 fun o fd2=>An3 (K.lookup g2=some o) (o.data= .func fd2) (o.cls= .type "function")
theorem st_sup(G:Gd c){fd:FuncData}{f:Addr}{L:Addr}{g:Nat}{ar:Arg}{body:List Stmt}{p0 p1 p2 p3 ap:Pos}{a d:Addr}{es:List (Nat×V)}{r:List V}{Q:AH→Prop}(hline:(ap.endLine==p2.line)=true)(hc:Calls c A sp F)(hg:g<1000)(S:SupOK c c.C (.ref (F g)) fd f ar)(S2:FnK c.K (F g))
  (Re:Rep c B (callEnv fd L f) (vp fd.scope) (zm fd.scope) (.ref a::r) H s) (ha:H a=some (.inst d)) (hd:H d=some (.att es)) (q:sp g [.ref a] H fun _ H=>Q H):
  _root_.PySem.wpAt (model c.prog c.w) A (.func body (callEnv fd L f)) (exec (.Expr (.Call (.Attribute (.Call (.Name "super" p0) [] [] p1) "__init__" ap) [] [] p2) p3) (callEnv fd L f))
   (fun fl s'=>fl= .next∧∃H',Rep c B (callEnv fd L f) (vp fd.scope) (zm fd.scope) (.ref a::r) H' s'∧Q H') E s:=by
 refine nn fun hC=>?_
 obtain ⟨o2,fd2,S12,S12',S12''⟩:=S2
 obtain ⟨l,n,kvs,I,ho,hkk,hp,hn,e1,e2⟩:=inst_at Re.hp ha hd
 refine hC ?_
 refine sup_at G hline rfl S Re.hp.h0 Re.fm.eok.kind Re.fm.eok.glob Re.fm.eok.bi (fun q=>load_ok Re S.self (v:= .ref a) rfl (by simp) fun x hx=>?_) I.at_ I.cls (fun c' e=>?_) fun D lm h' pl hal hcd e k=>?_
 ·obtain rfl:=vm hx
  exact q
 ·cases e
 have R2:Rep c B (callEnv fd L f) (vp fd.scope) (zm fd.scope) (.ref a::r) H {s with heap:=h'}:=Re.grow (t:=s.toks) k
 have X2:=R2.hp.kin G
 refine nn fun hC=>?_
 obtain ⟨l2,n2,kvs2,I2,_⟩:=inst_at R2.hp ha hd
 obtain ⟨cd,hcd,hlm⟩:=hcd
 refine hC ?_
 refine ks_wpAny_getMethod_super e (looks_opaque X2 S.any) (l₀:=cd.mro) ?_ hlm X2 hal (X2 _ _ S12) S12'' (ks_ne X2 I2 hcd) (by decide+kernel) ?_
 ·exact (looks_clsIn X2 hcd).andThen .now
 have R3:Rep c B (callEnv fd L f) (vp fd.scope) (zm fd.scope) (.ref a::r) H {s with heap:=h'.push {cls:= .type "method",data:= .fields #[.ref (F g),.ref a]},toks:=s.toks+1}:=R2.grow (t:=s.toks+1) fun b o e=>Heap.get?_push_of_some _ e
 refine callWith_of (P:=fun h=>h.get? h'.objs.size=some {cls:= .type "method",data:= .fields #[.ref (F g),.ref a]}∧h.get? (F g)=some o2) rfl (fun h ⟨y1,y2⟩=>⟨.boundFrame,.inr (.inr rfl),fun A Q E s k z=>?_⟩) (evalArgs_nil3 ⟨⟨Heap.get?_push_size _ rfl,(R3.hp.kin G) _ _ S12⟩,?_⟩)
 ·unfold keeperOf
  refine wpAny_bind (wpAny_load (k _ _ y1) ?_)
  show wpAny _ _ (load (F g)>>=_) _ _ _
  refine wpAny_bind (wpAny_load (k _ _ y2) ?_)
  rw [S12']
  exact wpAny_pure z
 ·refine wpAny_call (ks_codeAny_call_bound (x:= .ref a) (f:=F g) (Heap.get?_push_size _ rfl) ?_)
  refine codeAny_mono (hc g [.ref a] hg R3.hp.whole q) fun rr s' hr=>?_
  refine nn fun hC=>?_
  obtain ⟨v,rfl,H',b1,b2⟩:=hr
  refine hC ?_
  exact ⟨rfl,H',R3.back b1,b2⟩
end
noncomputable def isSupB(e:PySem.Expr):Bool:=(callOf e).any fun x=>x.2.1.isEmpty&&x.2.2.1.isEmpty&&nameOf x.1==some ("super":Str)
noncomputable def isSupE(e:PySem.Expr):Bool:=(callOf e).any fun x=>(atOf x.1).any fun y=>x.2.1.isEmpty&&x.2.2.1.isEmpty&&y.2.1==("__init__":Str)&&(y.2.2.endLine==x.2.2.2.line)&&isSupB y.1
noncomputable def exOf(st:Stmt):Option PySem.Expr:=(sw st).el none (ex:=some)
noncomputable def IsEx(st:Stmt)(e:PySem.Expr):Prop:=∃p,st= .Expr e p
theorem exOf_inv(st:Stmt):InvP (IsEx st) (exOf st):=sw_inv (f:=fun w=>w.el none (ex:=some)) fun w q=>by induction w<;>first|exact invN|exact invS q
noncomputable def isSup(st:Stmt):Bool:=(exOf st).any isSupE
theorem isSup_eq{st:Stmt}(h:isSup st=true):Ex5 fun p0 p1 p2 p3 ap=>st= .Expr (.Call (.Attribute (.Call (.Name "super" p0) [] [] p1) "__init__" ap) [] [] p2) p3∧(ap.endLine==p2.line)=true:=by
 refine nn fun hC=>?_
 obtain ⟨e,h1,h⟩:=anyO h
 obtain ⟨x,h2,h⟩:=anyO h
 obtain ⟨y,h3,h⟩:=anyO h
 obtain ⟨h,h4⟩:=and2 h
 obtain ⟨h,h5⟩:=and2 h
 obtain ⟨h,h6⟩:=and2 h
 obtain ⟨h7,h8⟩:=and2 h
 obtain ⟨z,k1,h4⟩:=anyO h4
 obtain ⟨h4,k2⟩:=and2 h4
 obtain ⟨k3,k4⟩:=and2 h4
 obtain ⟨p3,e1⟩:=exOf_inv st e h1
 obtain ⟨p0,e2⟩:=wu (eqO k2)
 refine hC ?_
 refine ⟨p0,z.2.2.2,x.2.2.2,p3,y.2.2,?_,h5⟩
 rw [e1,show e=_ from callOf_inv e x h2,show x.1=_ from atOf_inv _ y h3,show y.1=_ from callOf_inv _ z k1,e2,List.isEmpty_iff.mp h7,List.isEmpty_iff.mp h8,List.isEmpty_iff.mp k3,List.isEmpty_iff.mp k4,eqS h6]
noncomputable def trBody(T:Tb)(n:Nat)(sc:Scope):List Stmt→Option S
 |[]=>some .skip
 |st::rest=>bif isSup st then (trSs (tr T (n+1)) sc (zm sc) 60 rest).map fun rc=> .seq (.ex (.sup T.supF)) rc else trSs (tr T (n+1)) sc (zm sc) 60 (st::rest)
section
variable{c:Cx}{F:Nat→Addr}
structure FnC(c:Cx)(F:Nat→Addr)(g:Nat)(f:Fn):Prop where
 ok:FnOK c f
 addr:F g=f.addr
 code:trBody c.T 30 f.fd.scope f.body=some f.code
 sup:(f.body.head?.any isSup)=true→f.fd.closure.isEmpty=false∧FnK c.K (F c.T.supF)∧∃ar,SupOK c c.C (.ref (F c.T.supF)) f.fd f.addr ar
noncomputable def tabOf(fns:List Fn):List Fa:=fns.map fun f=>⟨f.ps.length,(zm f.fd.scope).length,f.code⟩
structure Txt(c:Cx)(F:Nat→Addr)(fns:List Fn):Prop where
 G:Gd c
 hK:attrChk c.K c.C=true
 tb:TbOK c F
 key:keyChk c.K c.C c.T.keyN (F c.T.keyF)=true
 cls:clsChk c.K c.C c.T.cls (F c.T.initF)=true
 len:fns.length≤1000
 fns:∀(g:Nat) (f:Fn),fns[g]?=some f→FnC c F g f
 lt:TbLt c.T
 rs:∀{A:Around} {n:Nat},Good A n→RaiseR c A
theorem no_lim{fns:List Fn}(T:Txt c F fns){n:Nat}{vs:List V}{H:AH}{Q:V→AH→Prop}:¬spN (tabOf fns) n 3000 vs H Q:=by
 induction n with
 |zero=>exact id
 |succ n=>
  intro h
  have e:(tabOf fns)[3000]?=none:=List.getElem?_eq_none (by unfold tabOf;rw [List.length_map];exact Nat.le_trans T.len (show 1000≤3000 by decide))
  rw [spN_n e] at h;exact h
theorem lw_of{fns:List Fn}(T:Txt c F fns){n:Nat}(ih:∀{A:Around},Good A n→Calls c A (spN (tabOf fns) n) F){A:Around}(gA:Good A (n+1))(env:Env):Lw c (A.deeper env) (spN (tabOf fns) n) F:=by
 obtain ⟨g1,g2,g3⟩:=gA.deeper (env:=env)
 exact ⟨T.G,g1.hh,Nat.lt_of_le_of_lt (Nat.add_le_add (Nat.le_add_right _ _) (by decide)) g1.un,T.hK,T.tb,T.lt,T.key,T.cls,ih g1,fun vs=>ih (g3 _ vs),ih g2,T.rs g1,fun _ _ _ _ _ _ _ _ _ _ _ _ h=>(no_lim T h).elim⟩
theorem calls_ok{fns:List Fn}(T:Txt c F fns):∀(n:Nat) {A:Around},Good A n→Calls c A (spN (tabOf fns) n) F:=by
 intro n
 induction n with
 |zero=>intro A g B H s Q i vs _ R h;exact False.elim h
 |succ n ih=>
  intro A gA B H s Q i vs _ R h
  have h':match (tabOf fns)[i]? with
   |some f=>(vs.map av).length=f.np∧f.code.wp (spN (tabOf fns) n) (vs.map av++List.replicate (f.ns-f.np) .un) H (fun _ H=>Q .none H) (rt Q)
   |none=>False:=h
  unfold tabOf at h'
  rw [List.getElem?_map] at h'
  generalize hf:fns[i]?=zq;induction zq with
  |none=>rw [hf] at h';exact h'.elim
  |some f=>
   rw [hf] at h'
   have h2:(vs.map av).length=f.ps.length∧f.code.wp (spN (tabOf fns) n) (vs.map av++List.replicate ((zm f.fd.scope).length-f.ps.length) .un) H (fun _ H=>Q .none H) (rt Q):=h'
   obtain ⟨hl,hw⟩:=h2
   have C:=T.fns i f hf
   have hl':vs.length=f.ps.length:=by rw [List.length_map] at hl;exact hl
   have L:∀env,Lw c (A.deeper env) (spN (tabOf fns) n) F:=lw_of T ih gA
   have ax:∀{B:Bs} {env:Env},env.scope=f.fd.scope→Ax c (A.deeper env) B env f.fd.scope (zm f.fd.scope) (rt Q) fun _ _=>False:=fun he=>⟨he,let ⟨l,h⟩:=gA.fr;⟨l,Around.frames_deeper h⟩,.never,fun _ _ ⟨_,_,_,_,_,_,_,_,q⟩=>q⟩
   have hm:m0 f.fd.scope (vs.map av)=vs.map av++List.replicate ((zm f.fd.scope).length-f.ps.length) .un:=by
    unfold m0;rw [List.length_map,hl']
   have fin:∀{B:Bs} {env:Env} {fl:Flow} {s':Shared},StP c B env (vp f.fd.scope) (zm f.fd.scope) (fun _ H=>Q .none H) (rt Q) fl s'→PH c B Q (match fl with| .ret v=>v|_=> .none) s':=fun {B env fl s'} x=>by
    induction fl with
    |next=>obtain ⟨m',H',a,b⟩:=x;exact ⟨H',a.hp,b⟩
    |ret v=>obtain ⟨H',a,b⟩:=x;exact ⟨H',a,rt_eq (rt_eq b)⟩
    |brk=>exact x.elim
    |cont=>exact x.elim
   rw [C.addr]
   have hcode:=C.code
   refine code_fn T.G C.ok gA.dep R hl' ?_
   generalize hb:f.body=zq;induction zq with
   |nil=>
    rw [hb] at hcode
    refine .inl fun env' s₁ he Re=>wpAny_execs_nil ?_
    have hcode':f.code= .skip:=(Option.some.inj hcode).symm
    rw [hcode'] at hw
    exact ⟨H,Re.hp,hw⟩
   |cons st rest=>
    rw [hb] at hcode
    replace hcode:(bif isSup st then (trSs (tr c.T 31) f.fd.scope (zm f.fd.scope) 60 rest).map (fun rc=>Mine.S.seq (.ex (.sup c.T.supF)) rc) else trSs (tr c.T 31) f.fd.scope (zm f.fd.scope) 60 (st::rest))=some f.code:=hcode
    generalize hs:isSup st=zq;induction zq with
    |false=>
     rw [hs] at hcode
     refine .inl fun env' s₁ he Re=>?_
     exact wpAny_mono (snd_ss (L env') hcode (ax he) Re (by rw [hm];exact hw)) (fun fl s' x=>fin x) fun _ _ x=>x
    |true=>
     rw [hs] at hcode
     refine nn fun hC=>?_
     obtain ⟨rc,h1,h2⟩:=wj hcode
     obtain ⟨p0,p1,p2,p3,ap,rfl,hline⟩:=isSup_eq hs
     obtain ⟨hcl,SF,ar,SO⟩:=C.sup (by rw [hb];exact hs)
     refine hC ?_
     refine .inr ⟨hcl,fun s₁ Re=>?_⟩
     rw [←h2] at hw
     rw [hm] at Re
     have hw':X.ev (spN (tabOf fns) n) (.sup c.T.supF) (vs.map av++List.replicate ((zm f.fd.scope).length-f.ps.length) .un) H (fun _ H=>rc.wp (spN (tabOf fns) n) (vs.map av++List.replicate ((zm f.fd.scope).length-f.ps.length) .un) H (fun _ H=>Q .none H) (rt Q)):=hw
     generalize hmm:vs.map av++List.replicate ((zm f.fd.scope).length-f.ps.length) .un=m at hw' Re
     induction m with
     |nil=>exact hw'.elim
     |cons v r=>
      obtain ⟨p,e,hw2⟩:=zh (show ifS (insV H v) _ from hw')
      clear hw' hw
      obtain ⟨a,ha,hi,hd⟩:=insV_eq e
      subst ha
      refine ks_wpAt_execs_cons (ks_wpAt_mono (st_sup T.G hline (L _).calls T.lt.sup SO SF Re hi hd hw2) (fun fl s2 e2=>?_) fun _ _ x=>x)
      obtain ⟨rfl,H2,R2,q2⟩:=e2
      exact wpAt_of_wpAny (wpAny_mono (snd_ss (L _) h1 (ax rfl) R2 q2) (fun fl s' x=>fin x) fun _ _ x=>x)
end
end Mine
end
section
open PySem PySem.W PySem.Calls PyProof.Rows
set_option tactic.hygienic false
namespace Mine
section
variable{c:Cx}{F:Nat→Addr}{A:Around}{B:Bs}{H:AH}{s:Shared}{Q:V→AH→Prop}
noncomputable abbrev frs(fs:List Env):List Addr:=fs.filterMap (·.frame)
noncomputable def FrB(c:Cx)(B:Bs):List Env→Prop
 |[]=>True
 |env::r=>(env.scope.kind≠ .module∧∃L o,env.frame=some L∧B L=some o∧(∀vs,o.data≠ .fields vs)∧c.h₀.get? L=none)∧FrB c B r
theorem FrB.mem{fs:List Env}(h:FrB c B fs){L:Addr}(hL:L∈frs fs):∃o,B L=some o∧(∀vs,o.data≠ .fields vs)∧c.h₀.get? L=none:=by
 induction fs with
 |nil=>cases hL
 |cons env r ih=>
  refine nn fun hC=>?_
  obtain ⟨⟨_,L',o,h1,h2,h3,h4⟩,hr⟩:=h
  refine hC ?_
  unfold frs at hL
  rw [List.filterMap_cons,h1] at hL
  rcases List.mem_cons.mp hL with rfl|hL
  ·exact ⟨o,h2,h3,h4⟩
  ·exact ih hr hL
theorem FrB.imp{B':Bs}{fs:List Env}(h:FrB c B fs)(k:∀b o,B b=some o→B' b=some o):FrB c B' fs:=by
 induction fs with
 |nil=>trivial
 |cons env r ih=>
  refine nn fun hC=>?_
  obtain ⟨⟨h0,L,o,h1,h2,h3,h4⟩,hr⟩:=h
  refine hC ?_
  exact ⟨⟨h0,L,o,h1,k _ _ h2,h3,h4⟩,ih hr⟩
theorem FrB.fun{base h:Heap}{fs:List Env}(x:FrB c B fs)(k:∀b o,B b=some o→h.get? b=some o)(n:∀L∈frs fs,base.get? L=none):h.FunFrames base fs:=by
 induction fs with
 |nil=>trivial
 |cons env r ih=>
  obtain ⟨⟨h0,L,o,h1,h2,h3,h4⟩,hr⟩:=x
  have e:frs (env::r)=L::frs r:=by unfold frs;rw [List.filterMap_cons,h1]
  rw [e] at n
  exact ⟨h0,⟨L,o,h1,n L (.head _),k _ _ h2,h3⟩,ih hr fun L' h=>n L' (.tail _ h)⟩
noncomputable def WkB(fs:List Addr)(B B1:Bs):Prop:=∀b o,B b=some o→∃sl,B1 b=some {o with slots:=sl}∧(b∉fs→sl=o.slots)
structure Flown(c:Cx)(fs:List Env)(B:Bs)(H:AH)(x:Addr)(s:Shared)(B1:Bs)(base:Heap)(a0:Value):Prop where
 wk:WkB (frs fs) B B1
 hp:Hp c B1 H s
 nB:B1 x=none
 nH:H x=none
 fl:Heap.FlyingW base fs x (.ref c.X) a0 s.heap
 cov:∀b,(B1 b≠none∨H b≠none)→b∉frs fs→base.get? b=s.heap.get? b
 fb:FrB c B1 fs
theorem leave_ok{env:Env}{wh:List Env}{x:Addr}{oe:Obj}{vs:Array Value}{a0:Value}{Q:Unit→Shared→Prop}{E:Value→Shared→Prop}(hA:A.frames=some (env::wh))(hk:env.scope.kind≠ .module)(hf:env.frame=some env.locals){oL:Obj}(hL:s.heap.get? env.locals=some oL)(hd:∀vs,oL.data≠ .fields vs)
  (fb:FrB c B wh) (R:Hp c B H s) (locB:B env.locals=none) (locH:H env.locals=none) (nB:B x=none) (nH:H x=none) (he:s.heap.get? x=some oe) (hc:oe.cls= .ref c.X) (hx:oe.data= .fields vs) (h1:vs[1]?=some .none) (h0:vs[0]?=some a0)
  (q:∀s' B1 base,Flown c wh B H x s' B1 base a0→Q () s'):wpAny (model c.prog c.w) A (leaving env (.ref x)) Q E s:=by
 have hfr:frs (env::wh)=env.locals::frs wh:=by unfold frs;rw [List.filterMap_cons,hf]
 generalize hbase:hideAll s.heap (x::frs (env::wh))=base
 have hno:∀L∈frs (env::wh),base.get? L=none:=fun L h=>by rw [←hbase];exact hideAll_none _ (.tail _ h)
 have hff:s.heap.FunFrames base (env::wh):=⟨hk,⟨env.locals,oL,hf,hno _ (by rw [hfr];exact .head _),hL,hd⟩,fb.fun R.keep fun L h=>hno L (by rw [hfr];exact .tail _ h)⟩
 refine wpAny_leaving_firstW hA hff hf he (fun b o h=>of_hideAll _ (by rw [hbase];exact h)) (by rw [←hbase];exact hideAll_none _ (.head _)) hx h1 h0 fun h' hl=>?_
 refine nn fun hC=>?_
 obtain ⟨k1,⟨_,_,k2⟩,k3,k4⟩:=hl
 refine hC ?_
 have hne:∀L∈frs wh,∃o,B L=some o∧(∀vs,o.data≠ .fields vs)∧c.h₀.get? L=none:=fun L h=>fb.mem h
 have stay:∀b o,s.heap.get? b=some o→b≠x→b≠env.locals→b∉frs wh→base.get? b=some o∧h'.get? b=some o:=fun b o h n1 n2 n3=>by
  have:base.get? b=some o:=by
   rw [←hbase]
   refine hideAll_get _ h fun m=>?_
   rcases List.mem_cons.mp m with e|m
   ·exact n1 e
   ·rw [hfr] at m
    rcases List.mem_cons.mp m with e|m
    ·exact n2 e
    ·exact n3 m
  exact ⟨this,k1 b o this⟩
 have inB:∀b o,B b=some o→b∉frs wh→base.get? b=some o∧h'.get? b=some o:=fun b o h n=>stay b o (R.keep b o h) (fun e=>by rw [e,nB] at h;cases h) (fun e=>by rw [e,locB] at h;cases h) n
 have nf:∀b y,H b=some y→b∉frs wh:=fun b y h m=>by
  obtain ⟨o,h1,_⟩:=hne b m
  rw [R.apart b y h] at h1;cases h1
 have inH:∀b y,H b=some y→∃o,s.heap.get? b=some o∧base.get? b=some o∧h'.get? b=some o:=fun b y h=>by
  obtain ⟨o,ho⟩:=(R.real b y h).get
  exact ⟨o,ho,stay b o ho (fun e=>by rw [e,nH] at h;cases h) (fun e=>by rw [e,locH] at h;cases h) (nf b y h)⟩
 classical
 let B1:Bs:=fun b=>if b∈frs wh then h'.get? b else B b
 have b1f:∀b,b∈frs wh→B1 b=h'.get? b:=fun b h=>if_pos h
 have b1n:∀b,b∉frs wh→B1 b=B b:=fun b h=>if_neg h
 have wk:WkB (frs wh) B B1:=fun b o h=>by
  by_cases m:b∈frs wh
  ·refine nn fun hC=>?_
   obtain ⟨o',h2,h3,_⟩:=hne b m
   refine hC ?_
   rw [h] at h2
   cases h2
   obtain ⟨sl,hs⟩:=k4 b o (R.keep b o h) h3
   exact ⟨sl,(b1f b m).trans hs,fun n=>absurd m n⟩
  ·exact ⟨o.slots,(b1n b m).trans h,fun _=>rfl⟩
 have nx:x∉frs wh:=fun m=>by obtain ⟨o,h2,_⟩:=hne x m;rw [nB] at h2;cases h2
 refine q {s with heap:=h'} B1 base ⟨wk,⟨R.gens,fun b o h=>?_,fun b o h=>?_,fun a y h=>?_,fun a y h=>?_⟩,(b1n x nx).trans nB,nH,⟨k1,by rw [←hbase];exact hideAll_none _ (.head _),k2,by rw [←hc];exact k3⟩,fun b h n=>?_,?_⟩
 ·by_cases m:b∈frs wh
  ·obtain ⟨_,_,_,h4⟩:=hne b m;rw [h4] at h;cases h
  ·exact (b1n b m).trans (R.base b o h)
 ·by_cases m:b∈frs wh
  ·rw [b1f b m] at h;exact h
  ·rw [b1n b m] at h;exact (inB b o h m).2
 ·refine nn fun hC=>?_
  obtain ⟨o,h1,h2,h3⟩:=inH a y h
  refine hC ?_
  exact (R.real a y h).congr (h3.trans h1.symm)
 ·exact (b1n a (nf a y h)).trans (R.apart a y h)
 ·rcases h with h|h
  ·rw [b1n b n] at h
   generalize hb:B b=zq;induction zq with
   |none=>exact absurd hb h
   |some o=>exact (inB b o hb n).1.trans (inB b o hb n).2.symm
  ·generalize hb:H b=zq;induction zq with
   |none=>exact absurd hb h
   |some y=>
    refine nn fun hC=>?_
    obtain ⟨o,h1,h2,h3⟩:=inH b y hb
    refine hC ?_
    exact h2.trans h3.symm
 ·clear k2 hff hfr hno hA hbase inB stay
  have:∀fs,FrB c B fs→(∀L∈frs fs,L∈frs wh)→FrB c B1 fs:=by
   intro fs
   induction fs with
   |nil=>exact fun _ _=>trivial
   |cons env r ih=>
    intro hb hm
    obtain ⟨⟨z0,L,o,z1,z2,z3,z4⟩,hr⟩:=hb
    have e:frs (env::r)=L::frs r:=by unfold frs;rw [List.filterMap_cons,z1]
    rw [e] at hm
    refine nn fun hC=>?_
    obtain ⟨sl,w1,_⟩:=wk L o z2
    refine hC ?_
    exact ⟨⟨z0,L,_,z1,w1,z3,z4⟩,ih hr fun L' h=>hm L' (.tail _ h)⟩
  exact this wh fb fun _ h=>h
theorem Hp.inB(R:Hp c B H s){b:Addr}{o:Obj}(h:B b=some o):wz s.heap H b=some o:=by
 unfold wz
 generalize q:H b=zq;induction zq with
 |none=>exact R.keep _ _ h
 |some x=>have:=R.apart _ _ q;rw [h] at this;cases this
inductive XPost(c:Cx)(wh:List Env)(B:Bs)(Q:V→AH→Prop)(r:Result)(s':Shared):Prop
 |ret (v:Value) (H':AH) (e:r= .ok (.ret v)) (hp:Hp c B H' s') (q:rt Q (av v) H')
 |exc (x:Addr) (H':AH) (B1:Bs) (base:Heap) (a0:Value) (e:r= .error (.ref x)) (fl:Flown c wh B H' x s' B1 base a0) (q:Q .un H')
theorem callX{fns:List Fn}(T:Txt c F fns){n:Nat}(gA:Good A (n+1)){wh:List Env}(hA:A.frames=some wh){g:Nat}{f:Fn}{vs:List Value}(hg:fns[g]?=some f)(hsup:f.body.head?.any isSup=false)(R:Hp c B H s)(fb:FrB c B wh)
  (h:spX (tabOf fns) n g (vs.map av) H Q):codeAny (model c.prog c.w) A (.call (.ref (F g)) ⟨vs,[]⟩) (XPost c wh (wz s.heap H) Q) s:=by
 have h':(vs.map av).length=f.ps.length∧f.code.wp (spN (tabOf fns) n) (vs.map av++List.replicate ((zm f.fd.scope).length-f.ps.length) .un) H (fun _ H=>Q .none H) Q:=by
  have e:(tabOf fns)[g]?=some ⟨f.ps.length,(zm f.fd.scope).length,f.code⟩:=by unfold tabOf;rw [List.getElem?_map,hg];rfl
  unfold spX at h
  rw [e] at h;exact h
 clear h
 obtain ⟨hl,hw⟩:=h'
 have C:=T.fns g f hg
 have hl':vs.length=f.ps.length:=by rw [List.length_map] at hl;exact hl
 have hm:m0 f.fd.scope (vs.map av)=vs.map av++List.replicate ((zm f.fd.scope).length-f.ps.length) .un:=by
  unfold m0;rw [List.length_map,hl']
 have hcode:trSs (tr c.T 31) f.fd.scope (zm f.fd.scope) 60 f.body=some f.code∨(f.body=[]∧f.code= .skip):=by
  have:=C.code
  generalize hb:f.body=zq;induction zq with
  |nil=>rw [hb] at this;exact .inr ⟨rfl,(Option.some.inj this).symm⟩
  |cons st rest=>
   rw [hb] at this hsup
   replace this:(bif isSup st then (trSs (tr c.T 31) f.fd.scope (zm f.fd.scope) 60 rest).map (fun rc=>Mine.S.seq (.ex (.sup c.T.supF)) rc) else trSs (tr c.T 31) f.fd.scope (zm f.fd.scope) 60 (st::rest))=some f.code:=this
   rw [show isSup st=false from hsup] at this
   exact .inl this
 rw [C.addr]
 have fb0:FrB c (wz s.heap H) wh:=fb.imp fun b o h=>R.inB h
 refine code_fnG T.G C.ok gA.dep R hl' (.inl fun env' s₁ he hf Re=>?_)
 rcases hcode with hcode|⟨hb,hc⟩
 ·have hA':=Around.frames_deeper (env:=env') hA
  refine wpAny_mono (snd_ss (lw_of T (calls_ok T n) gA env') hcode (Q:=fun _ H=>Q .none H) (R:=Q) (E:=LvE c A env' _) ⟨he,⟨_,hA'⟩,by passes_own,fun e s' x=>?_⟩ Re (by rw [hm];exact hw)) (fun fl s' x=>?_) fun _ _ x=>x
  ·refine nn fun hC=>?_
   obtain ⟨x,m,H1,rfl,R1,⟨oe,vs',a,q1,q2,q3,q4,q5⟩,nB,nH,q⟩:=x
   obtain ⟨oL,hL,hd⟩:∃o,s'.heap.get? env'.locals=some o∧∀vs,o.data≠ .fields vs:=by
    refine nn fun hC=>?_
    obtain ⟨mm,o,es,ep,ho,hd,_⟩:=R1.fm.ns
    refine hC ?_
    exact ⟨o,ho,fun vs e=>by rw [hd] at e;cases e⟩
   refine hC ?_
   exact leave_ok hA' (by rw [Re.fm.eok.kind];exact fun h=>nomatch h) hf hL hd fb0 R1.hp R1.fm.locB R1.fm.locH nB nH q1 q2 q3 q4 q5 fun s2 B1 base fl=> .exc x H1 B1 base a rfl fl q
  ·induction fl with
   |next=>obtain ⟨m',H',a,b⟩:=x;exact .ret .none H' rfl a.hp b
   |ret v=>obtain ⟨H',a,b⟩:=x;exact .ret v H' rfl a b
   |brk=>exact x.elim
   |cont=>exact x.elim
 ·rw [hb]
  rw [hc] at hw
  exact wpAny_execs_nil (.ret .none H rfl Re.hp hw)
end
end Mine
end
section
open PySem PySem.W PySem.Calls PyProof.Rows
set_option maxHeartbeats 4000000
namespace Mine
section
variable{M:Model}{A:Around}{E:Value→Shared→Prop}{s:Shared}{α:Type}{Q:α→Shared→Prop}{c:Bool}{a b:Sem α}
theorem ifF(hc:c=false)(h:wpAny M A b Q E s):wpAny M A (if c=true then a else b) Q E s:=by rw [hc];exact h
theorem ifT(hc:c=true)(h:wpAny M A a Q E s):wpAny M A (if c=true then a else b) Q E s:=by rw [hc];exact h
end
theorem zk{l:List Bool}(h:l.all id=true){i:Nat}{b:Bool}(e:l[i]?=some b):b=true:=List.all_eq_true.mp h b (List.mem_of_getElem? e)
structure MakesX(M:Model)(h:Heap)(C:Addr):Prop where
 obj:∃oc od cd sl,h.get? C=some ⟨oc,od,.cls cd,sl⟩∧cd.abstract=false∧cd.hasDel=false∧cd.mro.isEmpty=false
 made:Looks M h (Bind.madeBy (.ref C)) (some "Exception.__new__")
 base:Looks M h (Bind.staticBase (.ref C)) (.ref C)
 here:Looks M h (Bind.madeHere "BaseException.__new__" (.ref C)) ()
 self:Looks M h (isSubtype (.ref C) (.ref C)) true
 exc:Looks M h (isSubtype (.ref C) (.type "Exception")) true
 noA:Looks M h (isSubtype (.ref C) (.type "AttributeError")) false
 noN:Looks M h (isSubtype (.ref C) (.type "NameError")) false
 call:Looks M h (specialOf (.ref C) "__call__") (some (.builtin "type.__call__"))
 typ:Looks M h (isInstance (.ref C) (.type "type")) true
 base0:Looks M h (isSubtype (.ref C) (.type "BaseException")) true
 chk:∀v,Looks M h (checkBuiltinCall "Exception.__new__" ⟨[.ref C,v],[]⟩) ()
abbrev excO (C t:Addr):Obj:={cls:= .ref C,data:= .fields #[.ref t,.none,.none,.none,.bool false,.none]}
abbrev tupO (rest:List Value):Obj:={cls:= .type "tuple",data:= .seq rest.toArray}
section
variable{prog:Program}{w:World}{A:Around}{K:Frag}{C:Addr}{R:Result→Shared→Prop}{h:Heap}{g:Array GenState}{d:Drawn}{t:Nat}{os:OsState}
theorem newX{v:Value}(Y:MakesX (model prog w) h C)
  (hq:R (.ok (.ret (.ref (h.objs.size+1)))) ⟨(h.push (tupO [v])).push (excO C h.objs.size),g,d,t,os⟩):
  codeAny (model prog w) A (.call (.builtin "Exception.__new__") ⟨[.ref C,v],[]⟩) R ⟨h,g,d,t,os⟩:=by
 obtain ⟨⟨oc,od,cd,sl,hC,e1,e2,e4⟩,made,base,here,self,exc,noA,noN,call,typ,_,chk⟩:=Y
 have F:=PySem.F.excBase_Exception
 refine codeAny_call_builtin_code (Code.quiet_builtin _ F.quiet) ((chk v).at ?_)
 refine codeAny_builtinAt F.entry ?_
 unfold Builtin.«BaseException.__new__»
 refine PySem.wpAt_bind ?_
 show PySem.wpAt _ _ _ (stack>>=_) _ _ _
 refine PySem.wpAt_bind (PySem.wpAt_stack fun p below=>PySem.wpAt_of_wpAny ?_)
 dsimp only
 rw [if_pos F.ends]
 refine wpAny_pure (PySem.wpAt_of_wpAny ?_)
 rw [F.owner]
 unfold isType
 repeat (first|with_reducible refine ifF (by rfl) ?_|with_reducible refine ifT (by rfl) ?_|lk)
 refine wpAny_load (Heap.get?_push_of_some _ (Heap.get?_push_of_some _ hC)) ?_
 refine wpAny_pure (ifF e2 (wpAny_pure (wpAny_pure ?_)))
 show R _ _
 rw [Heap.size_push]
 exact hq
theorem makeX{v:Value}{init:Value}(Y:MakesX (model prog w) h C)(hi:Looks (model prog w) h (typeLookup (.ref C) "__init__") (some init))
  (hb:∀self,Looks (model prog w) h (bindSpecial init self) (init,[self]))
  (hq:codeAny (model prog w) (A.under (.builtin "type.__call__" ⟨[.ref C,v],[]⟩)) (.call init ⟨[.ref (h.objs.size+1),v],[]⟩) (InitBack (h.objs.size+1) R) ⟨(h.push (tupO [v])).push (excO C h.objs.size),g,d,t,os⟩):
  codeAny (model prog w) A (.call (.ref C) ⟨[v],[]⟩) R ⟨h,g,d,t,os⟩:=by
 have Y':=Y
 obtain ⟨⟨oc,od,cd,sl,hC,e1,e2,e4⟩,made,base,here,self,exc,noA,noN,call,typ,_,chk⟩:=Y
 refine codeAny_of_tree ?_
 show wpAny _ _ (callAny (.ref C) _) _ _ _
 refine nd_load hC ?_
 show wpAny _ _ (callAny.viaDunder (.ref C) _) _ _ _
 unfold callAny.viaDunder
 refine wpAny_bind (call.at ?_)
 dsimp only
 rw [tc_bind]
 refine wpAny_bind (wpAny_pure (wpAny_bind (wpAny_pure ?_)))
 refine wpAny_pure (a:=Fin.again (.call (.builtin "type.__call__") ⟨[.ref C,v],[]⟩)) (And.intro rfl ?_)
 refine codeAny_call_builtin_at (Code.quiet_builtin _ (by decide+kernel)) entry_typeCall (check_slot tc_kind tc_split typ (tc_args _ _ _) ?_)
 unfold Builtin.«type.__call__»
 have hm:Looks (model prog w) h (mroOf (.ref C)) cd.mro:=((Looks.ld (part:=none) hC).andThen .now).andThen .now
 repeat (first|with_reducible refine ifF (by first|exact e4|rfl) ?_|with_reducible refine ifT (by rfl) ?_|with_reducible refine wpAny_call ?_|lk)
 refine newX Y' ?_
 have k:∀b o,h.get? b=some o→((h.push (tupO [v])).push (excO C h.objs.size)).get? b=some o:=fun b o e=>Heap.get?_push_of_some _ (Heap.get?_push_of_some _ e)
 have hx:((h.push (tupO [v])).push (excO C h.objs.size)).get? (h.objs.size+1)=some (excO C h.objs.size):=by heap_get
 have t1:Looks (model prog w) ((h.push (tupO [v])).push (excO C h.objs.size)) (typeOf (.ref (h.objs.size+1))) (.ref C):=(Looks.ld hx).andThen .now
 have s1:=self.keeps k
 have i1:=hi.keeps k
 have b1:=(hb (.ref (h.objs.size+1))).keeps k
 unfold isInstance callSpecial? specialOf
 repeat (first|with_reducible refine wpAny_call ?_|lk)
 refine codeAny_mono hq fun r s' z=>?_
 rcases r with e|(v|_|_|_)<;>first|exact z|exact z.elim|skip
 obtain ⟨rfl,z⟩:=z
 exact wpAny_pure (wpAny_pure z)
end
theorem slot_wg:Slot "wrapper_descriptor" "__get__" "wrapper_descriptor.__get__":= .of (owner:="wrapper_descriptor") (n:="__get__") (by rw [typeLookup_type,builtinLookup_eq_fast];kernel_rfl) (by decide+kernel) (by decide+kernel) (by decide+kernel) (.inl (by decide+kernel)) (by rw [isSubtype_type];kernel_rfl)
theorem entry_wg:entryFor table "wrapper_descriptor.__get__"=some Builtin.«wrapper_descriptor.__get__»:=entryFor_of_tree (by kernel_rfl)
theorem args_wg(a b c:Value):argsOk "wrapper_descriptor.__get__" ⟨[a,b,c],[]⟩:=by unfold argsOk;kernel_rfl
theorem type_ei:typeOf (.builtin "Exception.__init__")=pure (.type "wrapper_descriptor"):=by show builtinType _=_;rw [builtinType_eq_fast];exact of_pureOf (by kernel_rfl)
section
variable{prog:Program}{w:World}{A:Around}{E:Value→Shared→Prop}{h:Heap}{g:Array GenState}{d:Drawn}{t:Nat}{os:OsState}
abbrev mwO (x:Addr):Obj:={cls:= .type "method-wrapper",data:= .fields #[.builtin "Exception.__init__",.ref x]}
theorem superX_ga{so D x C:Addr}{l₀ l:List Value}{K:Frag}{name:Str}{tk:Tok}{Q:Fin→Shared→Prop}{t0:Addr}
  (hso:h.get? so=some {cls:= .type "super",dict:=none,data:= .fields #[.ref D,.ref x,.ref C],slots:= #[]}) (hno:Looks (model prog w) h (opaqueClassAbove (.ref C)) none)
  (hC:Looks (model prog w) h (mroOf (.ref C)) l₀) (hl:(l₀.dropWhile (·!= .ref D)).drop 1=l) (X:K.In h)
  (hf:alongIn K name l=some (some (.builtin "Exception.__init__"))) (hx:h.get? x=some (excO C t0)) (hsub:Looks (model prog w) h (isSubtype (.ref C) (.type "Exception")) true) (hxC:x≠C) (hn:(name==("__class__":Str))=false)
  (hq:Q (.done (.ret (.ref h.objs.size))) ⟨h.push (mwO x),g,d,t,os⟩):
  wpAny (model prog w) A (Builtin.«super.__getattribute__» ⟨[.ref so,.str name tk],[]⟩) Q E ⟨h,g,d,t,os⟩:=by
 have hlk:=slot_wg.lookup
 have hne:(Value.ref x==Value.ref C)=false:=by simp [hxC]
 have hcn:(Value.ref C==Value.none)=false:=by simp
 have hint:(".".intercalate ("Exception.__init__".cutAt '.').dropLast)="Exception":=by decide+kernel
 have hsub':Looks (model prog w) h (isSubtype (.ref C) (.type (".".intercalate ("Exception.__init__".cutAt '.').dropLast))) true:=by rw [hint];exact hsub
 have hTf:(⟨h,g,d,t,os⟩:Shared).TypeIs (.builtin "Exception.__init__") "wrapper_descriptor":=type_ei
 have hdt:({cls:= .type "super",dict:=none,data:= .fields #[.ref D,.ref x,.ref C],slots:= #[]}:Obj).data= .fields #[.ref D,.ref x,.ref C]:=rfl
 have f0:(#[.ref D,.ref x,.ref C]:Array Value)[0]?=some (.ref D):=rfl
 have f1:(#[.ref D,.ref x,.ref C]:Array Value)[1]?=some (.ref x):=rfl
 have f2:(#[.ref D,.ref x,.ref C]:Array Value)[2]?=some (.ref C):=rfl
 unfold Builtin.«super.__getattribute__»
 repeat (first
  |(with_reducible refine wpAny_field hso hdt f0 ?_)|(with_reducible refine wpAny_field hso hdt f1 ?_)|(with_reducible refine wpAny_field hso hdt f2 ?_)
  |(with_reducible refine ks_wpAny_notOpaque hno ?_)
  |(with_reducible refine Looks.at hC ?_;rw [hl])
  |(refine ks_forIn_along X (fun _ _=>rfl) rfl ?_ hf)
  |(with_reducible refine wpAny_typeOf hTf ?_)
  |(with_reducible refine wpAny_call_entry slot_wg hTf entry_wg ?_ (args_wg _ _ _))
  |(with_reducible refine wpAny_loadPart_at hx ?_)
  |(with_reducible refine Looks.at hsub' ?_)
  |(with_reducible refine ⟨_,rfl,?_⟩)
  |(with_reducible refine ifF rfl ?_)
  |(with_reducible refine ifF (by rw [hn,hne];rfl) ?_)
  |(with_reducible refine ifF (by rw [hn,hcn];rfl) ?_)
  |wp_step
  |dsimp only
  |(simp only [hne,Bool.false_eq_true,if_false]))
 all_goals exact hq
theorem getMethodX{so D x C:Addr}{l₀ l:List Value}{K:Frag}{name:Str}{pl:Sem Bool}{Q:Value×List Value→Shared→Prop}{t0:Addr}
  (hso:h.get? so=some {cls:= .type "super",dict:=none,data:= .fields #[.ref D,.ref x,.ref C],slots:= #[]}) (hno:Looks (model prog w) h (opaqueClassAbove (.ref C)) none)
  (hC:Looks (model prog w) h (mroOf (.ref C)) l₀) (hl:(l₀.dropWhile (·!= .ref D)).drop 1=l) (X:K.In h)
  (hf:alongIn K name l=some (some (.builtin "Exception.__init__"))) (hx:h.get? x=some (excO C t0)) (hsub:Looks (model prog w) h (isSubtype (.ref C) (.type "Exception")) true) (hxC:x≠C) (hn:(name==("__class__":Str))=false)
  (hq:Q (.ref h.objs.size,[]) ⟨h.push (mwO x),g,d,t+1,os⟩):
  wpAny (model prog w) A (getMethod (.ref so) name pl) Q E ⟨h,g,d,t,os⟩:=by
 have hlk:=PySem.F.ks_slot_super_ga.lookup
 have hcan:=PySem.F.ks_canon_super_ga
 have hT:∀t',(⟨h,g,d,t',os⟩:Shared).TypeIs (.ref so) "super":=fun _=>⟨_,hso,rfl⟩
 unfold getMethod
 refine wpAny_bind (wpAny_specialOf (hT _) hlk ?_)
 show wpAny _ _ (if (Manifest.canonical "super.__getattribute__" !="object.__getattribute__")=true then _ else _) _ _ _
 rw [if_pos hcan]
 unfold getAttr getAttrBy
 refine wpAny_bind (wpAny_bind (wpAny_mkText (wpAny_holding (wpAny_bind (wpAny_typeOf (hT _) (wpAny_bind (wpAny_of_eq hlk ?_)))))))
 show wpAny _ _ (getAttrByItsOwn (.ref so) (.str name t) (.type "super") (.builtin "super.__getattribute__") true false) _ _ _
 unfold getAttrByItsOwn hookBefore callGetattribute boundAndCalled
 refine wpAny_bind (wpAny_of_eq (show (if onTheHeap (.type "super") then typeLookup (.type "super") "__getattr__" else pure none)=pure none from rfl) ?_)
 refine wpAny_bind (wpAny_attempt (wpAny_holding ?_))
 show wpAny _ _ (bindSpecial (.builtin "super.__getattribute__") (.ref so)>>=_) _ _ _
 refine wpAny_bind (wpAny_of_eq (PySem.F.ks_slot_super_ga.bind _) ?_)
 refine wpAny_mono (Q:=fun v s'=>v= .ref h.objs.size∧s'=⟨h.push (mwO x),g,d,t+1,os⟩) (E:=fun _ _=>False)
  (wpAny_call_entry PySem.F.ks_slot_super_ga (hT _) PySem.F.ks_entry_super_ga (superX_ga hso hno hC hl X hf hx hsub hxC hn ⟨_,rfl,rfl,rfl⟩) (PySem.F.ks_gaArgs_super _ _)) (fun v s' hv=>?_) fun _ _ z=>z.elim
 obtain ⟨rfl,rfl⟩:=hv
 exact wpAny_pure (wpAny_pure hq)
theorem initX{C x t0 b:Addr}{v:Value}{R:Result→Shared→Prop}(hb:h.get? b=some (mwO x))(hx:h.get? x=some (excO C t0))(hC:∃oc od cd sl,h.get? C=some ⟨oc,od,.cls cd,sl⟩)
  (hq:∀h',(∀y o,h.get? y=some o→y≠x→h'.get? y=some o)→(∃t1,h'.get? x=some (excO C t1))→R (.ok (.ret .none)) ⟨h',g,d,t,os⟩):
  codeAny (model prog w) A (.call (.ref b) ⟨[v],[]⟩) R ⟨h,g,d,t,os⟩:=by
 have F:=PySem.F.excBase_Exception
 refine codeAny_of_tree ?_
 show wpAny _ A.in1 (callAny (.ref b) _) _ _ _
 unfold callAny
 refine wpAny_bind (wpAny_load hb ?_)
 show wpAny _ _ (checkBoundCall "Exception.__init__" ⟨[.ref x,v],[]⟩>>=fun _=>again (.builtin "Exception.__init__" ⟨[.ref x,v],[]⟩)) _ _ _
 refine wpAny_bind ?_
 have hstar:=F.noStar
 have e:checkBoundCall "Exception.__init__" ⟨[.ref x,v],[]⟩=Bind.checkArgs "Exception.__init__" ⟨.positional,"*","Exception",.self,[⟨"args",.varPos,false⟩]⟩ ⟨[.ref x,v],[]⟩:=by kernel_rfl
 rw [e]
 obtain ⟨oc,od,cd,sl,hC⟩:=hC
 unfold Bind.checkArgs
 repeat (first|with_reducible refine wpAny_load hC ?_|wp_step)
 refine ⟨Code.quiet_builtin _ (by decide+kernel),codeAny_builtin F.initEntry ?_⟩
 unfold Builtin.«BaseException.__init__»
 repeat (first|with_reducible refine wpAny_load hx ?_|wp_step)
 refine hq _ (fun y o hy hn=>?_) ⟨h.objs.size,?_⟩
 ·rw [Heap.get?_update_other _ _ hn.symm]
  exact Heap.get?_push_of_some _ hy
 ·rw [Heap.get?_update_self _ (Heap.get?_push_of_some _ hx) rfl]
  rfl
end
end Mine
end
section
open PySem PySem.W PySem.Calls PyProof.Rows Builtin Builtin.ObjectAttr
namespace Mine
noncomputable def isR(v:Value):Bool:=(av v).r?.isSome
noncomputable def excTail:List Value:=[.type "Exception",.type "BaseException",.type "object"]
theorem refuse_tail(self:Value):refuseLoop self "__setattr__" excTail=pure ():=by
 unfold excTail;kernel_rfl
theorem refuse_exc(self:Value){l:List Value}(h:l.dropWhile isR=excTail):refuseLoop self "__setattr__" l=pure ():=by
 induction l with
 |nil=>cases h
 |cons v r ih=>
  rw [List.dropWhile_cons] at h
  generalize hv:isR v=zq;induction zq with
  |false=>rw [hv] at h;rw [show v::r=excTail from h];exact refuse_tail self
  |true=>
   rw [hv] at h
   obtain ⟨c,hc⟩:=Option.isSome_iff_exists.mp hv
   rw [vm (V.r_eq hc),refuseLoop_ref]
   exact ih h
theorem exc_has{l:List Value}(h:l.dropWhile isR=excTail):l.contains (.type "object")=true:=by
 induction l with
 |nil=>cases h
 |cons v r ih=>
  rw [List.dropWhile_cons] at h
  generalize hv:isR v=zq;induction zq with
  |false=>rw [hv] at h;rw [show v::r=excTail from h];unfold excTail;rfl
  |true=>rw [hv] at h;rw [List.contains_cons,ih h,Bool.or_true]
section
variable{prog:Program}{w:World}{A:Around}{E:Value→Shared→Prop}{s:Shared}{K:Frag}{C x:Addr}{R:Result→Shared→Prop}
theorem osaX{ox:Obj}{od:Option Obj}{name:Str}{tk:Tok}{v:Value}{cd:ClassData}(X:K.In s.heap)(I:InstAt s.heap x ox C od)(hc:clsIn K C=some cd)(ho:cd.mro.dropWhile isR=excTail)(ht:takerIn K C name=some none)
  (h:∀b,wpAny (model prog w) A.in1 (storeInOwnDict (.ref x) (.ref C) (.str name tk) name v b)
   (fun fin s'=>match fin with| .done f=>R (.ok f) s'| .again c'=>c'.quiet=true∧codeAny (model prog w) A c' R s') (fun e s'=>R (.error e) s') s):
  codeAny (model prog w) A (.call (.builtin "object.__setattr__") ⟨[.ref x,.str name tk,v],[]⟩) R s:=by
 have SF:=PySem.F.store_object
 have ne:cd.mro.isEmpty=false:=by generalize q:cd.mro=zq;induction zq with|nil=>rw [q] at ho;cases ho|cons _ _=>rfl
 have sub:Looks (model prog w) s.heap (isInstance (.ref x) (.type "object")) true:=I.type.andThen (looks_mroIn X (by unfold mroIn;rw [hc,Option.bind_some,if_neg (by rw [ne];decide),exc_has ho]))
 refine codeAny_call_builtin SF.slot.plain SF.entry (@check_slot (model prog w) _ _ s "object.__setattr__" "object" "__setattr__" (.ref x) [.str name tk,v] [] _ SF.kind SF.split sub (SF.args (.ref x) (.str name tk) v) ?_)
 refine nn fun hC=>?_
 obtain ⟨attr,ha,hr⟩:=Option.bind_eq_some_iff.mp ht
 refine hC ?_
 have hm:Looks (model prog w) s.heap (mroOf (.ref C)) cd.mro:=(looks_clsIn X hc).andThen .now
 have L3:Looks (model prog w) s.heap (storeTaker? attr) none:=by
  induction attr with
  |none=>cases hr;exact .now
  |some a=>
   obtain ⟨b,hb,e⟩:=Option.map_eq_some_iff.mp hr
   refine (looks_takesIn X hb).andThen ?_
   induction b<;>first|exact .now|cases e
 rw [osa_eq,refuse_eq]
 refine wpAny_bind (wpAny_bind (I.type.here (wpAny_bind (hm.here ?_))))
 rw [refuse_exc _ ho]
 refine wpAny_pure (wpAny_bind (I.type.here (wpAny_bind ((looks_findIn X ha).here (wpAny_bind (L3.here ?_))))))
 exact h _
theorem storeX{name:Str}{tk:Tok}{v:Value}{b:Bool}{cd:ClassData}{t0:Addr}{Q:Fin→Shared→Prop}(X:K.In s.heap)(hx:s.heap.get? x=some (excO C t0))(hc:clsIn K C=some cd)(hd:cd.hasDict=true)
  (h:∀h' tk,(∀y o,s.heap.get? y=some o→y≠x→h'.get? y=some o)→(∃d,h'.get? x=some {excO C t0 with dict:=some d})→Q (.done (.ret .none)) {s with heap:=h',toks:=tk}):
  wpAny (model prog w) A (storeInOwnDict (.ref x) (.ref C) (.str name tk) name v b) Q E s:=by
 refine wpAny_bind (wpAny_pure (wpAny_bind (wpAny_bind (wpAny_loadPart hx (wpAny_bind ((looks_clsIn X hc).here ?_))))))
 rw [hd]
 refine (?_:wpAny _ _ (alloc emptyDict>>=fun d=>update x (fun o=>{o with dict:=some d})>>=fun _=>dictMade (.ref C) x d) _ _ _)
 refine wpAny_bind (wpAny_alloc (wpAny_bind ?_))
 have hx1:=Heap.get?_push_of_some emptyDict hx
 have hxd:x≠s.heap.objs.size:=Nat.ne_of_lt (Heap.lt_size hx)
 refine wpAny_update hx1 ?_
 have hx2:((s.heap.push emptyDict).update x fun o=>{o with dict:=some s.heap.objs.size}).get? x=some {excO C t0 with dict:=some s.heap.objs.size}:=Heap.get?_update_self _ hx1 rfl
 have hd2:((s.heap.push emptyDict).update x fun o=>{o with dict:=some s.heap.objs.size}).get? s.heap.objs.size=some emptyDict:=by
  rw [Heap.get?_update_other _ _ hxd]
  exact Heap.get?_push_size _ rfl
 have hk2:∀y o,s.heap.get? y=some o→y≠x→((s.heap.push emptyDict).update x fun o=>{o with dict:=some s.heap.objs.size}).get? y=some o:=fun y o hy hn=>by
  rw [Heap.get?_update_other _ _ hn.symm]
  exact Heap.get?_push_of_some _ hy
 generalize ((s.heap.push emptyDict).update x fun o=>{o with dict:=some s.heap.objs.size})=h2 at hx2 hd2 hk2
 refine wpAny_pure ?_
 refine wpAny_bind (wpAny_pure (wpAny_bind ?_))
 unfold nsSet
 refine wpAny_bind (wpAny_bind (wpAny_askSetting (wpAny_pure (wpAny_bind (wpAny_mkText (wpAny_bind (wpAny_loadPart hd2 ?_)))))))
 dsimp only
 have cc:(!(#[]:Array DictEntry).any (·.key.isStr name)&&(#[]:Array DictEntry).any (·.refKey))=false:=by simp
 rw [aRefKeyMayBeTheName_at,cc]
 refine wpAny_updatePart hd2 ?_
 have he:=putName_dict name (PyData.keyHash w.params name) (.str name s.toks) v [] 0
 have g:(h2.update s.heap.objs.size (Obj.putName name (PyData.keyHash w.params name) (.str name s.toks) v)).get? s.heap.objs.size=some (dictOf (putL name (PyData.keyHash w.params name) (.str name s.toks) v []) (putN name [] 0)):=by
  rw [←he];exact Heap.get?_update_self _ hd2 (by rw [he];rfl)
 refine wpAny_bind (wpAny_lookBehind g (pastItsLine_dict (by rw [List.size_toArray,sizeLine_eq];show 1≤_;decide)) ?_)
 refine wpAny_pure (h _ _ (fun y o hy hn=>?_) ⟨s.heap.objs.size,?_⟩)
 ·rw [Heap.get?_update_other _ _ (Nat.ne_of_gt (Heap.lt_size hy))]
  exact hk2 y o hy hn
 ·rw [Heap.get?_update_other _ _ hxd.symm]
  exact hx2
theorem setX{name:Str}{v:Value}{cd:ClassData}{t0:Addr}{Q:Unit→Shared→Prop}(X:K.In s.heap)(hx:s.heap.get? x=some (excO C t0))(hc:clsIn K C=some cd)(ho:cd.mro.dropWhile isR=excTail)(hd:cd.hasDict=true)
  (ht:takerIn K C name=some none) (hs:findIn K (.ref C) "__setattr__"=some (some (.builtin "object.__setattr__")))
  (h:∀h' tk,(∀y o,s.heap.get? y=some o→y≠x→h'.get? y=some o)→(∃d,h'.get? x=some {excO C t0 with dict:=some d})→Q () {s with heap:=h',toks:=tk}):
  wpAny (model prog w) A (setAttr (.ref x) name v) Q E s:=
 have I:InstAt s.heap x (excO C t0) C none:=⟨hx,rfl,rfl,trivial⟩
 set_plain X I hs (osaX (s:={s with toks:=s.toks+1}) X I hc ho ht fun b=>storeX X hx hc hd fun h' tk k1 k2=>h h' tk k1 k2)
end
end Mine
end
section
open PySem PySem.W PySem.Calls PyProof.Rows
namespace Mine
noncomputable def clsD:Data→Option ClassData
 | .cls cd=>some cd
 |_=>none
theorem clsD_inv(d:Data):InvP (fun cd=>d= .cls cd) (clsD d):=by induction d<;>first|exact invN|exact invS rfl
noncomputable def pkX(S:Setting)(K:Frag)(C:Addr):Bool:=
 [(K.lookup C).any fun o=>(clsD o.data).any fun cd=>[!cd.abstract,!cd.hasDel,cd.hasDict,!cd.mro.isEmpty,cd.mro.dropWhile isR==excTail].all id,peek K S (Bind.madeBy (.ref C))==some (some "Exception.__new__"),peek K S (Bind.staticBase (.ref C))==some (.ref C),(peek K S (Bind.madeHere "BaseException.__new__" (.ref C))).isSome,
 peek K S (isSubtype (.ref C) (.ref C))==some true,peek K S (isSubtype (.ref C) (.type "Exception"))==some true,peek K S (isSubtype (.ref C) (.type "AttributeError"))==some false,peek K S (isSubtype (.ref C) (.type "NameError"))==some false,peek K S (specialOf (.ref C) "__call__")==some (some (.builtin "type.__call__")),peek K S (isInstance (.ref C) (.type "type"))==some true,peek K S (isSubtype (.ref C) (.type "BaseException"))==some true].all id
structure PkX(K:Frag)(S:Setting)(C:Addr):Prop where
 b:pkX S K C=true
 ck:∀v,(peek K S (checkBuiltinCall "Exception.__new__" ⟨[.ref C,v],[]⟩)).isSome=true
theorem makesX_of{K:Frag}{M:Model}{h:Heap}(X:K.In h){C:Addr}(e:PkX K ⟨M.prog,M.w.params⟩ C):MakesX M h C∧∃cd,An3 (clsIn K C=some cd) (cd.mro.dropWhile isR=excTail) (cd.hasDict=true):=by
 have pk:∀{α:Type} [BEq α] [LawfulBEq α] {t:Sem α} {r:α},(peek K ⟨M.prog,M.w.params⟩ t==some r)=true→Looks M h t r:=fun e=>Looks.of_peek X (beq_iff_eq.mp e)
 have pu:∀{t:Sem Unit},(peek K ⟨M.prog,M.w.params⟩ t).isSome=true→Looks M h t ():=fun e=>by
  obtain ⟨u,hu⟩:=Option.isSome_iff_exists.mp e
  exact Looks.of_peek X hu
 have nb:∀{b:Bool},(!b)=true→b=false:=fun h=>by rwa [Bool.not_eq_true'] at h
 have e':=e.b
 refine nn fun hC=>?_
 obtain ⟨o,ho,e0⟩:=anyO (zk e' (i:=0) rfl)
 obtain ⟨oc,od,dt,sl⟩:=o
 obtain ⟨cd,hc,e0⟩:=anyO e0
 have hd:dt= .cls cd:=clsD_inv _ _ hc
 rw [hd] at ho
 refine hC ?_
 exact ⟨⟨⟨oc,od,cd,sl,X _ _ ho,nb (zk e0 (i:=0) rfl),nb (zk e0 (i:=1) rfl),nb (zk e0 (i:=3) rfl)⟩,pk (zk e' (i:=1) rfl),pk (zk e' (i:=2) rfl),pu (zk e' (i:=3) rfl),pk (zk e' (i:=4) rfl),pk (zk e' (i:=5) rfl),pk (zk e' (i:=6) rfl),pk (zk e' (i:=7) rfl),pk (zk e' (i:=8) rfl),pk (zk e' (i:=9) rfl),pk (zk e' (i:=10) rfl),fun v=>pu (e.ck v)⟩,
  cd,by unfold clsIn;rw [ho],beq_iff_eq.mp (zk e0 (i:=4) rfl),zk e0 (i:=2) rfl⟩
section
variable{M:Model}{A:Around}{E:Value→Shared→Prop}{env:Env}{C:Addr}
theorem raiseX{s:Shared}{x:Sem Value}{Q:Flow→Shared→Prop}(hh:A.handled=none)
  (h:wpAny M A x (fun v s₁=>Ex2 fun e ox=>An5 (v= .ref e) (s₁.heap.get? e=some ox) ((ox.cls= .ref C∧∃vs,ox.data= .fields vs∧vs[1]?=some .none)∧∃oc,s₁.heap.get? C=some oc∧oc.cls= .type "type") (Looks M s₁.heap (isSubtype (.ref C) (.type "BaseException")) true) (E (.ref e) s₁)) E s):
  wpAny M A (raiseStmt env (some x) none) Q E s:=by
 unfold raiseStmt
 refine wpAny_bind (wpAny_mono h (fun v s₁ h₁=>?_) fun _ _ x=>x)
 obtain ⟨e,ox,rfl,he,hcl,hsub,hE⟩:=h₁
 obtain ⟨⟨hcl,vs,hno,h1⟩,oc,hC,hCt⟩:=hcl
 obtain ⟨hp,g,d,tk,os⟩:=s₁
 repeat (first|with_reducible refine wpAny_loadPart_at he ?_|with_reducible refine Looks.at hsub ?_|with_reducible refine wpAny_loadPart_at hC ?_|(simp only [hcl])|(simp only [hno])|(simp only [hCt])|(simp only [h1])|wp_step)
 exact wpAny_raiseNew_none hh hE
end
end Mine
end
section
open PySem PySem.W PySem.Calls PyProof.Rows Builtin Builtin.ObjectAttr
namespace Mine
inductive InitX(c:Cx)(f:Addr):Prop
 |mk (o:Obj) (fd:FuncData) (a0 a1:Arg) (an:Str) (p0 p1 p2 p3 ap q0 q1 q2 q3 q4:Pos) (hline:(ap.endLine==p2.line)=true) (S:SupOK c c.X (.builtin "Exception.__init__") fd f a0)
  (look:c.K.lookup f=some o) (data:o.data= .func fd) (hb:fd.body= .stmts [.Expr (.Call (.Attribute (.Call (.Name "super" p0) [] [] p1) "__init__" ap) [.Name a1.arg q0] [] p2) p3,.Assign [.Attribute (.Name a0.arg q1) an q2] (.Name a1.arg q3) q4])
  (hp:fd.params=⟨[],[a0,a1],none,[],[],none,[]⟩) (code:codeIn c.K fd.code fd.qualname=true) (chk:fdChk fd [a0,a1]=true) (cel:∀z∈fd.scope.names,z.2≠ .cell)
  (k0:fd.scope.names.lookup a0.arg=some .local) (k1:fd.scope.names.lookup a1.arg=some .local) (n0:(a0.arg==("__debug__":Str))=false) (n1:(a1.arg==("__debug__":Str))=false)
  (ty:∃o,c.K.lookup c.X=some o∧o.cls= .type "type") (mk:PkX c.K ⟨c.prog,c.w.params⟩ c.X) (tk:takerIn c.K c.X an=some none) (st:findIn c.K (.ref c.X) "__setattr__"=some (some (.builtin "object.__setattr__")))
section
variable{c:Cx}{A:Around}
theorem initF(G:Gd c){f x t0:Addr}{v:Value}{R:Result→Shared→Prop}{s:Shared}(I:InitX c f)(hroom:A.depth<recursionLimit)(h0:∀b o,c.h₀.get? b=some o→s.heap.get? b=some o)(nx:c.h₀.get? x=none)(hx:s.heap.get? x=some (excO c.X t0))
  (hq:∀h' tk,(∀y o,s.heap.get? y=some o→y≠x→h'.get? y=some o)→(∃t1 d,h'.get? x=some {excO c.X t1 with dict:=d})→R (.ok (.ret .none)) {s with heap:=h',toks:=tk}):
  codeAny (model c.prog c.w) A (.call (.ref f) ⟨[.ref x,v],[]⟩) R s:=by
 refine nn fun hC=>?_
 obtain ⟨o,fd,a0,a1,an,p0,p1,p2,p3,ap,q0,q1,q2,q3,q4,hline,S,look,data,hb,hp,code,chk,cel,k0,k1,n0,n1,ty,mk,tk,st⟩:=I
 refine hC ?_
 have hc':=chk
 unfold fdChk at hc'
 simp only [Bool.and_eq_true,beq_iff_eq,decide_eq_true_eq] at hc'
 refine nn fun hC=>?_
 obtain ⟨⟨⟨⟨⟨⟨c1,c2⟩,c3⟩,c4⟩,c5⟩,c6⟩,c7⟩:=hc'
 refine hC ?_
 unfold scopeChk at c1
 simp only [Bool.and_eq_true,beq_iff_eq,decide_eq_true_eq,Bool.not_eq_true'] at c1
 refine nn fun hC=>?_
 obtain ⟨⟨⟨d1,d2⟩,d3⟩,d4⟩:=c1
 refine hC ?_
 have X:c.K.In s.heap:=G.kin.keeps h0
 have hbind:=bind_plain (vals:=[.ref x,v]) hp c3 c4 c2 rfl
 have hne:a1.arg≠a0.arg:=fun e=>by
  have:=(List.nodup_cons.mp c2).1
  rw [List.map_cons,e] at this
  exact this (.head _)
 refine ks_codeAny_call_defAt hroom (X _ _ look) data ((G.nolimit).keeps h0) (codeRec_of X code) hb (BindsTo.of_eq hbind) cel (fun y hy=>?_) (fun h₁ hns hkp=>?_) d3 d2 d1
 ·rcases List.mem_cons.mp hy with rfl|hy
  ·exact k0
  ·rcases List.mem_cons.mp hy with rfl|hy
   ·exact k1
   ·exact absurd hy List.not_mem_nil
 generalize hL:s.heap.objs.size=L at hns
 have hl0:([a0,a1].map (·.arg)).zip [.ref x,v]=[(a0.arg,.ref x),(a1.arg,v)]:=rfl
 rw [hl0] at hns
 have m0:[(a0.arg,Value.ref x),(a1.arg,v)].reverse.lookup a0.arg=some (.ref x):=by
  show List.lookup a0.arg [(a1.arg,v),(a0.arg,Value.ref x)]=_
  rw [List.lookup_cons,beq_eq_false_iff_ne.mpr hne.symm,List.lookup_cons,beq_self_eq_true]
 have m1:[(a0.arg,Value.ref x),(a1.arg,v)].reverse.lookup a1.arg=some v:=by
  show List.lookup a1.arg [(a1.arg,v),(a0.arg,Value.ref x)]=_
  rw [List.lookup_cons,beq_self_eq_true]
 generalize [(a0.arg,Value.ref x),(a1.arg,v)].reverse=bs at hns m0 m1
 have h1:∀b o,c.h₀.get? b=some o→h₁.get? b=some o:=fun b o e=>hkp b o (h0 b o e)
 have hx1:=hkp _ _ hx
 have xL:x≠L:=by rw [←hL];exact Nat.ne_of_lt (Heap.lt_size hx)
 have name:∀{a:Str} {u:Value} {p:Pos} {s':Shared} {Q:Value→Shared→Prop} {A':Around} {E:Value→Shared→Prop},fd.scope.names.lookup a=some .local→bs.lookup a=some u→(a==("__debug__":Str))=false→s'.heap.Ns L (fun z=>bs.lookup z)→Q u s'→wpAny (model c.prog c.w) A' (eval (.Name a p) (callEnv fd L f)) Q E s':=
  fun ka ma na hn q=>wpAny_Name (wpAny_loadName_local d1 ka hn ma q) na
 refine ks_wpAt_execs_cons (sup_at G hline rfl S h1 d1 c5 c6 (fun q=>wpAny_loadName_local d1 k0 hns m0 q) hx1 rfl (fun _ e=>nomatch e) fun D lm h2 pl hal hcd e2 kp2=>?_)
 have X2:c.K.In h2:=G.kin.keeps fun b o e=>kp2 b o (h1 b o e)
 refine nn fun hC=>?_
 obtain ⟨MX,cd',hcd',ho,hdict⟩:=makesX_of (M:=model c.prog c.w) X2 mk
 obtain ⟨cd,hcd,hlm⟩:=hcd
 refine hC ?_
 have hxX:x≠c.X:=fun e=>by
  obtain ⟨oC,hoC,_⟩:=anyO (zk mk.b (i:=0) rfl)
  have:=G.kin _ _ hoC
  rw [←e,nx] at this;cases this
 refine getMethodX e2 (looks_opaque X2 S.any) ((looks_clsIn X2 hcd).andThen .now) hlm X2 hal (kp2 _ _ hx1) MX.exc hxX (by decide+kernel) ?_
 have kp3:∀b o,h2.get? b=some o→(h2.push (mwO x)).get? b=some o:=fun b o e=>Heap.get?_push_of_some _ e
 refine callWith_of (P:=fun h=>h.get? h2.objs.size=some (mwO x)) rfl (fun h y=>⟨.machine,.inr (.inl rfl),(Looks.ld y).andThen .now⟩) (evalArgs_plain (spliced_cons (name k1 m1 n1 (hns.keeps fun b o e=>kp3 b o (kp2 b o e)) (spliced_nil ⟨Heap.get?_push_size _ rfl,wpAny_call (initX (Heap.get?_push_size _ rfl) (kp3 _ _ (kp2 _ _ hx1)) ?_ fun h3 k3 x3=>?_)⟩))))
 ·obtain ⟨oc,od,cd,sl,e,_⟩:=MX.obj
  exact ⟨oc,od,cd,sl,kp3 _ _ e⟩
 obtain ⟨t1,hx3⟩:=x3
 have up3:∀b o,h₁.get? b=some o→b≠x→h3.get? b=some o:=fun b o e n=>k3 b o (kp3 b o (kp2 b o e)) n
 have X3:c.K.In h3:=G.kin.keeps fun b o e=>up3 b o (h1 b o e) fun q=>by rw [q,nx] at e;cases e
 have ns3:h3.Ns L (fun z=>bs.lookup z):=by
  obtain ⟨oL,es,ep,e1,r⟩:=hns
  exact ⟨oL,es,ep,up3 _ _ e1 xL.symm,r⟩
 refine wpAt_of_wpAny (wpAny_execs_cons (asg_tail rfl rfl rfl (name k1 m1 n1 ns3 ?_)))
 rw [arm_assign_Attribute]
 refine wpAny_bind (wpAny_holding (name k0 m0 n0 ns3 ?_))
 refine wpAny_bind (wpAny_standAt (wpAny_bind (wpAny_holding (setX X3 hx3 hcd' ho hdict tk st fun h4 tk4 k4 x4=>wpAny_release' (wpAny_execs_nil ?_)))))
 obtain ⟨d4,hx4⟩:=x4
 exact hq _ _ (fun y o e n=>k4 y o (up3 y o (hkp y o e) n) n) ⟨t1,some d4,hx4⟩
end
end Mine
end
section
open PySem PySem.W PySem.Calls PyProof.Rows
namespace Mine
structure ExcOK(c:Cx)(f:Addr):Prop where
 glob:nsIn c.K mainGlobals c.T.excN=some (some (.ref c.X))
 keep:keepIn c.K (.ref c.X)=true
 find:findIn c.K (.ref c.X) "__init__"=some (some (.ref f))
 fn:typeIn c.K (.ref f)=some (.type "function")
 ty:∃o,c.K.lookup c.X=some o∧o.cls= .type "type"
 mkx:PkX c.K ⟨c.prog,c.w.params⟩ c.X
 init:InitX c f
theorem raise_ok{c:Cx}{A:Around}{f:Addr}{n:Nat}(G:Gd c)(Y:ExcOK c f)(gA:Good A n):RaiseR c A:=by
 intro B env own sl m H s E P Q sc a w np fp kp jp cp pos k hsc hg hw R ha hE
 have lenO:∀{x:Str},Str.empty++x=x:=fun {x}=>Str.empty_append x
 rw [arm_exec_Raise]
 refine wpAny_bind (wpAny_standAt ?_)
 show wpAny _ _ (raiseStmt env (some (eval (.Call (.Name c.T.excN np) [.JoinedStr [.FormattedValue a (-1) none fp,.Constant (.str w) k kp] jp] [] cp) env>>=fun v=>standAt pos>>=fun _=>pure v)) none) _ _ _
 refine raiseX (C:=c.X) gA.hh (wpAny_bind (wpAny_mono (Call_Name rfl (name_glob G hg hsc R Y.glob (callWith_of (P:=c.K.In) rfl (fun h X=>keeps_K Y.keep h X) (evalArgs_plain (spliced_cons ?_))))) (fun v s1 h1=>wpAny_bind (wpAny_standAt (wpAny_pure h1))) fun _ _ x=>x))
 rw [if_neg Bool.false_ne_true]
 refine JoinedStr_many (joinParts_cons (FormattedValue_plain (wpAny_mono ha (fun v s1 e1=>?_) fun _ _ x=>x)))
 obtain ⟨i,t,H1,rfl,hi,R1,q⟩:=e1
 obtain ⟨h,g,dr,tk,os⟩:=s1
 have hd:i.natAbs.log2<1920:=by
  by_cases h0:i.natAbs=0
  ·rw [h0];decide
  ·exact (Nat.log2_lt h0).mpr (Nat.lt_of_le_of_lt hi (Nat.lt_of_lt_of_le (show 1000000<2^20 by decide) (Nat.pow_le_pow_right (by decide) (by decide))))
 have X:=R1.hp.kin G
 have hl:=int_text_length_le (k:=1920) (a:=i) (by decide) hd
 have hz1:(Str.ofString (toString i)).length≤sizeLine:=int_text_fits hd
 have hz2:(Str.ofString (toString i)++w).length≤sizeLine:=by
  rw [strLen_append,PySem.ofString_length,sizeLine_eq];lia
 refine formatField_int_small hd ⟨by rw [lenO];exact hz1,joinParts_cons (Constant_str ⟨by rw [lenO];exact hz2,joinParts_nil (spliced_nil ⟨X,wpAny_call ?_⟩) (by rw [lenO];exact hz2)⟩)⟩
 have MX:=(makesX_of (M:=model c.prog c.w) X Y.mkx).1
 generalize Value.str (Str.empty++Str.ofString (toString i)++w) _=sv
 have R2:Rep c B env own sl m H1 ⟨h.push (tupO [sv]),g,dr,tk,os⟩:=R1.grow (t:=tk) fun b o e=>Heap.get?_push_of_some _ e
 have e1:(h.push (tupO [sv])).objs.size=h.objs.size+1:=Heap.size_push ..
 have ox:Out B env H1 (h.objs.size+1):=by rw [←e1];exact R2.out (freshA ⟨h.push (tupO [sv]),g,dr,tk,os⟩)
 have gx:((h.push (tupO [sv])).push (excO c.X h.objs.size)).get? (h.objs.size+1)=some (excO c.X h.objs.size):=by rw [←e1];exact Heap.get?_push_size _ rfl
 have up:∀b o,h.get? b=some o→((h.push (tupO [sv])).push (excO c.X h.objs.size)).get? b=some o∧b≠h.objs.size+1:=fun b o e=>⟨Heap.get?_push_of_some _ (Heap.get?_push_of_some _ e),Nat.ne_of_lt (Nat.lt_succ_of_lt (Heap.lt_size e))⟩
 have hn0:c.h₀.get? (h.objs.size+1)=none:=by
  generalize q:c.h₀.get? (h.objs.size+1)=zq;induction zq with
  |none=>rfl
  |some o=>exact absurd rfl (up _ _ (R1.hp.h0 _ _ q)).2
 refine makeX MX (looks_findIn X Y.find) (fun self=>bind_fn X self Y.fn) (initF G Y.init ?_ (fun b o e=>(up b o (R1.hp.h0 b o e)).1) hn0 gx fun h' tk' k' x'=>⟨rfl,?_⟩)
 ·have:(Code.builtin "type.__call__" ⟨.ref c.X::[sv],[]⟩).weight≤4:=Nat.le_of_ble_eq_true (by kernel_rfl)
  exact Nat.lt_of_le_of_lt (Nat.add_le_add (Nat.le_add_right _ (5*n)) (Nat.le_trans this (by decide))) gA.dp
 ·obtain ⟨t1,d1,hx'⟩:=x'
  obtain ⟨oc,hoc,hty⟩:=Y.ty
  have R3:Rep c B env own sl m H1 ⟨h',g,dr,tk',os⟩:=R1.grow (t:=tk') fun b o e=>k' b o (up b o e).1 (up b o e).2
  have X3:=R3.hp.kin G
  have MX3:=(makesX_of (M:=model c.prog c.w) X3 Y.mkx).1
  exact ⟨h.objs.size+1,_,rfl,hx',⟨⟨rfl,_,rfl,rfl⟩,oc,X3 _ _ hoc,hty⟩,MX3.base0,hE _ _ H1 q R3 ⟨_,_,_,hx',rfl,rfl,rfl,rfl⟩ ox.b ox.h⟩
section
variable{c:Cx}{B:Bs}{env:Env}{own:List Str}{sl:Sl}{m:List V}{H:AH}{s:Shared}{A:Around}{E:Value→Shared→Prop}
theorem Flown.at{fs:List Env}{x:Addr}{B1:Bs}{base h':Heap}{a0:Value}{tk:Nat}(f:Flown c fs B H x s B1 base a0)(k1:base.StaysIn h')(k2:s.heap.UpToSlots h'):∃B2,WkB (frs fs) B B2∧Hp c B2 H {s with heap:=h',toks:=tk}:=by
 refine nn fun hC=>?_
 obtain ⟨wk,hp,nB,nH,fl,cov,fb⟩:=f
 refine hC ?_
 classical
 have inB:∀b o,B1 b=some o→b∉frs fs→h'.get? b=some o:=fun b o h n=>k1 b o ((cov b (.inl fun e=>by rw [h] at e;cases e) n).trans (hp.keep b o h))
 have nf:∀a y,H a=some y→a∉frs fs:=fun a y h n=>by
  obtain ⟨o,h1,_⟩:=fb.mem n
  rw [hp.apart a y h] at h1;cases h1
 let B2:Bs:=fun b=>if b∈frs fs then h'.get? b else B1 b
 have pos:∀b,b∈frs fs→B2 b=h'.get? b:=fun b h=>if_pos h
 have neg:∀b,b∉frs fs→B2 b=B1 b:=fun b h=>if_neg h
 refine ⟨B2,fun b o h=>?_,hp.gens,fun b o h=>?_,fun b o h=>?_,fun a y h=>?_,fun a y h=>(neg a (nf a y h)).trans (hp.apart a y h)⟩
 ·obtain ⟨sl,h1,h2⟩:=wk b o h
  by_cases n:b∈frs fs
  ·refine nn fun hC=>?_
   obtain ⟨o',e1,e2,_⟩:=fb.mem n
   refine hC ?_
   rw [h1] at e1
   cases e1
   obtain ⟨sl',e3⟩:=k2 b _ (hp.keep _ _ h1) e2
   exact ⟨sl',(pos b n).trans e3,fun z=>absurd n z⟩
  ·exact ⟨sl,(neg b n).trans h1,h2⟩
 ·refine (neg b fun n=>?_).trans (hp.base b o h)
  obtain ⟨_,_,_,e⟩:=fb.mem n
  rw [e] at h;cases h
 ·by_cases n:b∈frs fs
  ·rw [pos b n] at h;exact h
  ·rw [neg b n] at h;exact inB b o h n
 ·have e:=cov a (.inr fun e=>by rw [h] at e;cases e) (nf a y h)
  obtain ⟨o,ho⟩:=(hp.real a y h).get
  exact (hp.real a y h).congr ((k1 a o (e.trans ho)).trans ho.symm)
theorem Rep.wk{fs:List Addr}{B2 B':Bs}{H':AH}{s2:Shared}{own':List Str}(R:Rep c B env own sl m H s)(wk:WkB fs (wz s.heap H) B2)(R2:Hp c B2 H' s2)(R':Hp c B' H' s2)(locB:B' env.locals=none)(ho:∀n,n∈own'→n∈own)
  (celB:∀n d,n∈own'→env.cells.lookup n=some d→B' d=none):Rep c B' env own' sl m H' s2:=by
 have at_:∀b o,s.heap.get? b=some o→H b=none→(∃sl,s2.heap.get? b=some {o with slots:=sl})∧H' b=none:=fun b o h n=>by
  refine nn fun hC=>?_
  obtain ⟨sl,h1,_⟩:=wk b o (by unfold wz;rw [n];exact h)
  refine hC ?_
  refine ⟨⟨sl,R2.keep _ _ h1⟩,?_⟩
  generalize q:H' b=zq;induction zq with
  |none=>rfl
  |some y=>have:=R2.apart _ _ q;rw [h1] at this;cases this
 have cl:∀{d v},s.heap.IsCell d v→H d=none→s2.heap.IsCell d v:=fun {d v} x n=>by
  obtain ⟨o,h1,h2⟩:=x
  obtain ⟨⟨sl,h3⟩,_⟩:=at_ _ _ h1 n
  exact ⟨_,h3,h2⟩
 have ns:∀{mm},s.heap.Ns env.locals mm→s2.heap.Ns env.locals mm:=fun {mm} x=>by
  refine nn fun hC=>?_
  obtain ⟨o,es,ep,h1,r⟩:=x
  obtain ⟨⟨sl,h3⟩,_⟩:=at_ _ _ h1 R.fm.locH
  refine hC ?_
  exact ⟨_,es,ep,h3,r⟩
 have F:=R.fm
 refine ⟨R',F.eok,F.len,F.nd,fun n h=>F.ownK n (ho n h),?_,locB,?_,fun n d e=>?_,fun n d e=>?_,celB,fun n h k=>?_,fun i n v a b d=>?_⟩
 ·obtain ⟨mm,h⟩:=F.ns
  exact ⟨mm,ns h⟩
 ·obtain ⟨o,h⟩:=F.alive
  exact (at_ _ _ h F.locH).2
 ·obtain ⟨o,h⟩:=F.celA n d e
  exact (at_ _ _ h (F.celH n d e)).2
 ·obtain ⟨o,h⟩:=F.celA n d e
  obtain ⟨⟨sl,h3⟩,_⟩:=at_ _ _ h (F.celH n d e)
  exact ⟨_,h3⟩
 ·refine nn fun hC=>?_
  obtain ⟨d,v,e,x⟩:=F.cell n (ho n h) k
  refine hC ?_
  exact ⟨d,v,e,cl x (F.celH n d e)⟩
 ·induction F.read i n v a b d with
  |loc e x mm a b d=>exact .loc e x mm (ns a) b d
  |cel e cc x a b d=>exact .cel e cc x a (cl b (F.celH n cc a)) d
theorem Hp.less{B2 B':Bs}(R:Hp c B2 H s)(h0:∀b o,c.h₀.get? b=some o→B' b=some o)(h:∀b o,B' b=some o→B2 b=some o):Hp c B' H s:=
 ⟨R.gens,h0,fun b o e=>R.keep b o (h b o e),R.real,fun a y e=>by
  generalize q:B' a=zq;induction zq with
  |none=>rfl
  |some o=>have:=R.apart _ _ e;rw [h _ _ q] at this;cases this⟩
end
section
variable{M:Model}{A:Around}{E:Value→Shared→Prop}{h:Heap}{g:Array GenState}{d:Drawn}{t:Nat}{os:OsState}
theorem matchX{C e:Addr}{oe oC:Obj}{cd:ClassData}{Q:Bool→Shared→Prop}(he:h.get? e=some oe)(hcls:oe.cls= .ref C)(hC:h.get? C=some oC)(hCt:oC.cls= .type "type")(hCd:oC.data= .cls cd)
  (sub:Looks M h (isSubtype (.ref C) (.type "BaseException")) true) (self:Looks M h (isSubtype (.ref C) (.ref C)) true) (hq:Q true ⟨h,g,d,t,os⟩):wpAny M A (excMatches (.ref e) (.ref C)) Q E ⟨h,g,d,t,os⟩:=by
 have f:=tc_notTuple
 unfold excMatches
 repeat (first|(with_reducible refine wpAny_loadPart_at he ?_;rw [hcls])|(with_reducible refine wpAny_loadPart_at hC ?_)|with_reducible refine Looks.at sub ?_|with_reducible refine Looks.at self ?_|rw [hCt]|rw [hCd]|wp_step)
 exact hq
end
section
variable{c:Cx}{B:Bs}{env:Env}{own:List Str}{sl:Sl}{m:List V}{H:AH}{s:Shared}{A:Around}{E:Value→Shared→Prop}
noncomputable def IsSet(x an:Str)(z:Int)(st:Stmt):Prop:=Ex5 fun p1 p2 k p3 p4=>st= .Assign [.Attribute (.Name x p1) an p2] (.Constant (.int z) k p3) p4
theorem set_lit(G:Gd c)(hK:attrChk c.K c.C=true){sp:Sp}{x0 an:Str}{z:Int}{k i:Nat}{st:Stmt}{K:List V→AH→Prop}{W:V→AH→Prop}(hst:IsSet x0 an z st)(hf:nmOf an=some k)(hs:slot sl x0=some i)(R:Rep c B env own sl m H s)
  (q:(S.setA (.loc i) k (.c (.int z))).wp sp m H K W):wpAny (model c.prog c.w) A (exec st env) (fun fl s'=>fl= .next∧∃H',Rep c B env own sl m H' s'∧K m H') E s:=by
 obtain ⟨p1,p2,kk,p3,p4,rfl⟩:=hst
 refine asg_tail rfl rfl rfl (wpAny_mono (ev_int (sp:=sp) (sc:=env.scope) (fun _=>rfl) R q) (fun v s1 e1=>?_) fun _ _ x=>x)
 refine nn fun hC=>?_
 obtain ⟨H1,R1,q1⟩:=e1
 refine hC ?_
 rw [arm_assign_Attribute]
 refine wpAny_bind (wpAny_holding (wpAny_mono (ev_loc (sp:=sp) (sc:=env.scope) hs (fun _=>rfl) R1 q1) (fun ov s2 e2=>?_) fun _ _ x=>x))
 refine nn fun hC=>?_
 obtain ⟨H2,R2,q2⟩:=e2
 obtain ⟨u,e,q3⟩:=zh q2
 obtain ⟨a,ha,hd,he⟩:=insV_eq e
 refine hC ?_
 rw [vm ha]
 refine wpAny_bind (wpAny_standAt (wpAny_bind (wpAny_holding (wpAny_mono (lift0 (P:=K m) R2 fun R3=>o_setA G hK R3 hf hd he q3.1 q3.2) (fun _ s3 e3=>?_) fun _ _ x=>x))))
 exact wpAny_release' ⟨rfl,e3⟩
end
noncomputable def IsAsk(T:Tb)(x w:Str)(st:Stmt):Prop:=Ex7 fun mn q1 ap q2 q3 q4 cp=>An3 (∃q5,st= .Expr (.Call (.Attribute (.Name x q1) mn ap) [.Call (.Name "list" q2) [.Name w q3] [] q4] [] cp) q5) (T.meths.lookup mn=some 18) ((ap.endLine==cp.line)=true)
noncomputable def IsGt(x cn:Str)(e:PySem.Expr):Prop:=Ex5 fun t1 t2 k t3 t4=>e= .Compare (.Attribute (.Name x t1) cn t2) [.Gt] [.Constant (.int 0) k t3] t4
noncomputable def IsRetS(P:PySem.Expr→Prop)(st:Stmt):Prop:=Ex2 fun e p=>st= .Return (some e) p∧P e
noncomputable def IsTrueE(e:PySem.Expr):Prop:=∃k p,e= .Constant (.bool true) k p
noncomputable def IsTryS(T:Tb)(x w an cn:Str)(st:Stmt):Prop:=Ex6 fun sq b1 b2 q6 q7 q8=>An4 (st= .Try [sq] [.ExceptHandler (some (.Name T.excN q6)) none [b1,b2] q7] [] [] q8) (IsAsk T x w sq) (IsSet x an 0 b1) (IsRetS (IsGt x cn) b2)
inductive LimF(c:Cx)(f:Fn):Prop
 |mk (ok:FnOK c f) (addr:c.L=f.addr) (a0 a1:Arg) (an cn:Str) (t1 t2 t3 t4:Stmt) (hps:f.ps=[a0,a1]) (hsl:(zm f.fd.scope).length=2) (s0:slot (zm f.fd.scope) a0.arg=some 0) (s1:slot (zm f.fd.scope) a1.arg=some 1) (h15:nmOf an=some 15) (h14:nmOf cn=some 14)
  (gl:glb f.fd.scope "list"=true) (gx:glb f.fd.scope c.T.excN=true) (hb:f.body=[t1,t2,t3,t4]) (b1:IsSet a0.arg an 1 t1) (b2:IsTryS c.T a0.arg a1.arg an cn t2) (b3:IsSet a0.arg an 0 t3) (b4:IsRetS IsTrueE t4)
noncomputable def fragAt(as:List Addr)(h:Heap):Frag:=as.filterMap fun a=>(h.get? a).map fun o=>(a,o)
theorem frag_in{as:List Addr}{h:Heap}:(fragAt as h).In h:=fun a o e=>by
 obtain ⟨l,l',e1,_⟩:=List.lookup_eq_some_iff.mp e
 have hm:(a,o)∈fragAt as h:=by rw [e1];simp
 obtain ⟨b,_,h2⟩:=List.mem_filterMap.mp hm
 obtain ⟨o',h3,h4⟩:=wj h2
 cases h4
 exact h3
noncomputable def funcOf:Data→Option FuncData
 | .func fd=>some fd
 |_=>none
noncomputable def stmtsOf:FuncBody→Option (List Stmt)
 | .stmts b=>some b
 |_=>none
theorem funcOf_inv(d:Data):InvP (fun fd=>d= .func fd) (funcOf d):=by induction d<;>first|exact invN|exact invS rfl
theorem stmtsOf_inv(d:FuncBody):InvP (fun b=>d= .stmts b) (stmtsOf d):=by induction d<;>first|exact invN|exact invS rfl
theorem args_mk{p ps k:List Arg}{v w:Option Arg}{kd:List (Option PySem.Expr)}{df:List PySem.Expr}(h1:p=[])(h2:v=none)(h3:k=[])(h4:kd=[])(h5:w=none)(h6:df=[]):(⟨p,ps,v,k,kd,w,df⟩:Arguments)=⟨[],ps,none,[],[],none,[]⟩:=by
 rw [h1,h2,h3,h4,h5,h6]
noncomputable def psOf(a:Arguments):Option (List Arg):=gd ([a.posonlyargs.isEmpty,a.vararg.isNone,a.kwonlyargs.isEmpty,a.kw_defaults.isEmpty,a.kwarg.isNone,a.defaults.isEmpty].all id) (some a.args)
theorem psOf_eq{a:Arguments}{ps:List Arg}(h:psOf a=some ps):a=⟨[],ps,none,[],[],none,[]⟩:=by
 obtain ⟨h1,h2⟩:=gd_eq h
 cases h2
 obtain ⟨p,ps,v,k,kd,w,df⟩:=a
 exact args_mk (List.isEmpty_iff.mp (zk h1 (i:=0) rfl)) (Option.isNone_iff_eq_none.mp (zk h1 (i:=1) rfl)) (List.isEmpty_iff.mp (zk h1 (i:=2) rfl)) (List.isEmpty_iff.mp (zk h1 (i:=3) rfl)) (Option.isNone_iff_eq_none.mp (zk h1 (i:=4) rfl)) (List.isEmpty_iff.mp (zk h1 (i:=5) rfl))
noncomputable def fn0(K:Frag)(a:Addr):Option Fn:=(K.lookup a).bind fun o=>(funcOf o.data).bind fun fd=>(stmtsOf fd.body).bind fun b=>(psOf fd.params).map fun ps=>⟨a,o,fd,b,ps,.skip⟩
theorem fn0_eq{K:Frag}{a:Addr}{f:Fn}(h:fn0 K a=some f):An5 (f.addr=a) (K.lookup a=some f.obj) (f.obj.data= .func f.fd) (f.fd.body= .stmts f.body) (f.fd.params=⟨[],f.ps,none,[],[],none,[]⟩):=by
 refine nn fun hC=>?_
 obtain ⟨o,h1,h⟩:=zd h
 obtain ⟨fd,h2,h⟩:=zd h
 obtain ⟨b,h3,h⟩:=zd h
 obtain ⟨ps,h4,rfl⟩:=wj h
 refine hC ?_
 exact ⟨rfl,h1,funcOf_inv _ _ h2,stmtsOf_inv _ _ h3,psOf_eq h4⟩
noncomputable def fnAt(T:Tb)(K:Frag)(a:Addr):Option Fn:=(fn0 K a).bind fun f=>(trBody T 30 f.fd.scope f.body).map fun code=>⟨f.addr,f.obj,f.fd,f.body,f.ps,code⟩
noncomputable def refOf:Value→Option Addr
 | .ref a=>some a
 |_=>none
noncomputable def strOf:Value→Option Str
 | .str s _=>some s
 |_=>none
noncomputable def fieldsOf:Data→Option (Array Value)
 | .fields v=>some v
 |_=>none
noncomputable def cellOf:Data→Option (Option Value)
 | .cell v=>some v
 |_=>none
theorem refOf_inv(v:Value):InvP (fun a=>v= .ref a) (refOf v):=by induction v<;>first|exact invN|exact invS rfl
theorem strOf_inv(v:Value):InvP (fun a=>∃t,v= .str a t) (strOf v):=by induction v<;>first|exact invN|exact invS ⟨_,rfl⟩
theorem fieldsOf_inv(v:Data):InvP (fun a=>v= .fields a) (fieldsOf v):=by induction v<;>first|exact invN|exact invS rfl
theorem cellOf_inv(v:Data):InvP (fun a=>v= .cell a) (cellOf v):=by induction v<;>first|exact invN|exact invS rfl
noncomputable def supA(fd:FuncData)(ar:Arg):Bool:=slot (zm fd.scope) ar.arg==some 0
noncomputable def supB(prog:Program)(K:Frag)(fd:FuncData):Bool:=
 (refOf fd.code).any fun cda=>(K.lookup cda).any fun o=>(fieldsOf o.data).any fun vs=>(vs[2]?).any fun v=>(strOf v).any fun file=>(prog.main.file:Str)==file
noncomputable def supC(K:Frag)(C:Addr)(v:Value)(fd:FuncData):Bool:=
 (fd.closure.lookup ("__class__":Str)).any fun cc=>(K.lookup cc).any fun o=>(cellOf o.data).any fun u=>u.any fun u=>(refOf u).any fun D=>[(clsIn K D).isSome,mroIn K C (.ref D)==some true,ks_superIn K C D "__init__"==some (some v)].all id
noncomputable def supD(K:Frag)(g2:Addr):Bool:=(K.lookup g2).any fun o=>(funcOf o.data).isSome&&o.cls== .type "function"
noncomputable def supChk(prog:Program)(K:Frag)(C:Addr)(v:Value)(fd:FuncData):Bool:=
 [(fd.params.posonlyargs++fd.params.args).head?.any (supA fd),supB prog K fd,supC K C v fd,!(prog.main.scope.names.lookup ("super":Str)).isSome,nsIn K cStatics "thirdparty.any"==some none,fd.scope.names.lookup ("super":Str)==some .globalImplicit,fd.scope.names.lookup ("__class__":Str)==some .free,nsIn K mainGlobals "super"==some none].all id
noncomputable def fnChk(prog:Program)(K:Frag)(C g2:Addr)(f:Fn):Bool:=
 [codeIn K f.fd.code f.fd.qualname,fdChk f.fd f.ps,cloChk K f.fd,!f.body.head?.any isSup||[!f.fd.closure.isEmpty,supD K g2,supChk prog K C (.ref g2) f.fd].all id].all id
noncomputable def intV:Value→Option Int
 | .int j _=>some j
 |_=>none
theorem intV_inv(v:Value):InvP (fun j=>∃t,v= .int j t) (intV v):=by induction v<;>first|exact invN|exact invS ⟨_,rfl⟩
noncomputable def constChk(K:Frag)(x:Str×Int):Bool:=(nsIn K mainGlobals x.1).any fun v=>v.any fun v=>intV v==some x.2
noncomputable def tbChk(T:Tb)(K:Frag)(C L:Addr)(fs:List Addr):Bool:=
 [T.globs.all (fun x=>nsIn K mainGlobals x.1==some (some (.ref (fs.getD x.2 0)))&&keepIn K (.ref (fs.getD x.2 0))),T.meths.all (fun x=>methChk K C x.1 (fs.getD x.2 0)&&keepIn K (.ref (fs.getD x.2 0))),T.consts.all (constChk K),nsIn K mainGlobals T.limN==some (some (.ref L)),keepIn K (.ref L),
 (["abs","len","list","tuple","int","isinstance","bool","range","sorted","super"]:List Str).all fun n=>nsIn K mainGlobals n==some none].all id
noncomputable def IsAsg(st:Stmt)(x:List PySem.Expr×PySem.Expr):Prop:=∃p,st= .Assign x.1 x.2 p
noncomputable def asgOf(st:Stmt):Option (List PySem.Expr×PySem.Expr):=(sw st).el none (asg:=fun ts v=>some (ts,v))
theorem asgOf_inv(st:Stmt):InvP (IsAsg st) (asgOf st):=sw_inv (f:=fun w=>w.el none (asg:=fun ts v=>some (ts,v))) fun w q=>by induction w<;>first|exact invN|exact invS q
noncomputable def IsRet(st:Stmt)(e:PySem.Expr):Prop:=∃p,st= .Return (some e) p
noncomputable def retOf(st:Stmt):Option PySem.Expr:=(sw st).el none (ret:=id)
theorem retOf_inv(st:Stmt):InvP (IsRet st) (retOf st):=sw_inv (f:=fun w=>w.el none (ret:=id)) fun w q=>by
 induction w<;>first|exact invN|skip
 rename_i v
 induction v with
 |none=>exact invN
 |some e=>exact invS q
noncomputable def setOf(st:Stmt):Option (Str×Str×PySem.Expr):=(asgOf st).bind fun a=>(one a.1).bind fun t=>(atOf t).bind fun y=>(nameOf y.1).map fun x=>(x,y.2.1,a.2)
theorem setOf_eq{st:Stmt}{x:Str×Str×PySem.Expr}(h:setOf st=some x):Ex3 fun p1 p2 p3=>st= .Assign [.Attribute (.Name x.1 p1) x.2.1 p2] x.2.2 p3:=by
 refine nn fun hC=>?_
 obtain ⟨a,h1,h⟩:=zd h
 obtain ⟨t,h2,h⟩:=zd h
 obtain ⟨y,h3,h⟩:=zd h
 obtain ⟨n,h4,rfl⟩:=wj h
 obtain ⟨p3,e1⟩:=asgOf_inv st a h1
 obtain ⟨p1,e4⟩:=wu h4
 refine hC ?_
 exact ⟨p1,y.2.2,p3,by rw [e1,one_eq h2,show t=_ from atOf_inv t y h3,e4]⟩
noncomputable def intOf(e:PySem.Expr):Option Int:=(constOf e).bind intK
theorem intOf_eq{e:PySem.Expr}{z:Int}(h:intOf e=some z):∃k p,e= .Constant (.int z) k p:=by
 obtain ⟨k,h1,h⟩:=zd h
 obtain ⟨j,p,h2⟩:=constOf_inv e k h1
 exact ⟨j,p,by rw [h2,intK_inv k z h]⟩
noncomputable def isSet(x an:Str)(z:Int)(st:Stmt):Bool:=(setOf st).any fun y=>[y.1==x,y.2.1==an,intOf y.2.2==some z].all id
theorem isSet_eq{x an:Str}{z:Int}{st:Stmt}(h:isSet x an z st=true):IsSet x an z st:=by
 refine nn fun hC=>?_
 obtain ⟨y,h1,h⟩:=anyO h
 obtain ⟨p1,p2,p4,e⟩:=setOf_eq h1
 obtain ⟨k,p3,e2⟩:=intOf_eq (beq_iff_eq.mp (zk h (i:=2) rfl))
 refine hC ?_
 exact ⟨p1,p2,k,p3,p4,by rw [e,e2,eqS (zk h (i:=0) rfl),eqS (zk h (i:=1) rfl)]⟩
noncomputable def isSup1(w:Str)(st:Stmt):Bool:=(exOf st).any fun e=>(callOf e).any fun x=>(atOf x.1).any fun y=>(one x.2.1).any fun a=>(callOf y.1).any fun z=>[x.2.2.1.isEmpty,y.2.1==("__init__":Str),y.2.2.endLine==x.2.2.2.line,z.2.1.isEmpty,z.2.2.1.isEmpty,nameOf z.1==some ("super":Str),nameOf a==some w].all id
theorem isSup1_eq{w:Str}{st:Stmt}(h:isSup1 w st=true):Ex6 fun p0 p1 p2 p3 ap q=>st= .Expr (.Call (.Attribute (.Call (.Name "super" p0) [] [] p1) "__init__" ap) [.Name w q] [] p2) p3∧(ap.endLine==p2.line)=true:=by
 refine nn fun hC=>?_
 obtain ⟨e,h1,h⟩:=anyO h
 obtain ⟨x,h2,h⟩:=anyO h
 obtain ⟨y,h3,h⟩:=anyO h
 obtain ⟨a,h0,h⟩:=anyO h
 obtain ⟨z,k1,h⟩:=anyO h
 obtain ⟨p3,e1⟩:=exOf_inv st e h1
 obtain ⟨p0,e2⟩:=wu (eqO (zk h (i:=5) rfl))
 obtain ⟨q,e3⟩:=wu (eqO (zk h (i:=6) rfl))
 refine hC ?_
 refine ⟨p0,z.2.2.2,x.2.2.2,p3,y.2.2,q,?_,zk h (i:=2) rfl⟩
 rw [e1,show e=_ from callOf_inv e x h2,show x.1=_ from atOf_inv _ y h3,show y.1=_ from callOf_inv _ z k1,e2,one_eq h0,e3,List.isEmpty_iff.mp (zk h (i:=0) rfl),List.isEmpty_iff.mp (zk h (i:=3) rfl),List.isEmpty_iff.mp (zk h (i:=4) rfl),eqS (zk h (i:=1) rfl)]
noncomputable def initChk(prog:Program)(K:Frag)(X fi:Addr):Bool:=(fn0 K fi).any fun f=>(two f.ps).any fun a=>(two f.body).any fun s=>(setOf s.2).any fun y=>
 [supChk prog K X (.builtin "Exception.__init__") f.fd,isSup1 a.2.arg s.1,y.1==a.1.arg,nameOf y.2.2==some a.2.arg,takerIn K X y.2.1==some none,f.fd.scope.names.lookup a.1.arg==some .local,f.fd.scope.names.lookup a.2.arg==some .local,!(a.1.arg==("__debug__":Str)),!(a.2.arg==("__debug__":Str)),codeIn K f.fd.code f.fd.qualname,fdChk f.fd [a.1,a.2],f.fd.scope.names.all (fun z=>z.2 != .cell)].all id
noncomputable def excChk(prog:Program)(T:Tb)(K:Frag)(X fi:Addr):Bool:=
 [nsIn K mainGlobals T.excN==some (some (.ref X)),keepIn K (.ref X),findIn K (.ref X) "__init__"==some (some (.ref fi)),typeIn K (.ref fi)==some (.type "function"),(K.lookup X).any (fun o=>o.cls== .type "type"),findIn K (.ref X) "__setattr__"==some (some (.builtin "object.__setattr__")),initChk prog K X fi].all id
noncomputable def tryOf:Stmt→Option (List Stmt×List ExceptHandler×List Stmt×List Stmt)
 | .Try b h o f _=>some (b,h,o,f)
 |_=>none
noncomputable def IsTry(st:Stmt)(x:List Stmt×List ExceptHandler×List Stmt×List Stmt):Prop:=∃p,st= .Try x.1 x.2.1 x.2.2.1 x.2.2.2 p
theorem tryOf_inv(st:Stmt):InvP (IsTry st) (tryOf st):=by cases st<;>first|exact invN|exact invS ⟨_,rfl⟩
noncomputable def handOf:ExceptHandler→Option (PySem.Expr×List Stmt)
 | .ExceptHandler t n b _=>match t with
  |some t=>match n with
   |none=>some (t,b)
   |some _=>none
  |none=>none
theorem handOf_inv(h:ExceptHandler):InvP (fun x=>∃p,h= .ExceptHandler (some x.1) none x.2 p) (handOf h):=by
 obtain ⟨t,n,b,p⟩:=h
 induction t<;>induction n<;>first|exact invN|exact invS ⟨_,rfl⟩
noncomputable def cmpOf(e:PySem.Expr):Option (PySem.Expr×List CmpOp×List PySem.Expr):=(vw e).el none (cmp:=fun l o r=>some (l,o,r))
noncomputable def IsCmp(e:PySem.Expr)(x:PySem.Expr×List CmpOp×List PySem.Expr):Prop:=∃p,e= .Compare x.1 x.2.1 x.2.2 p
theorem cmpOf_inv(e:PySem.Expr):InvP (IsCmp e) (cmpOf e):=vw_inv (f:=fun w=>w.el none (cmp:=fun l o r=>some (l,o,r))) fun w q=>by induction w<;>first|exact invN|exact invS q
noncomputable def isGtO:CmpOp→Bool
 | .Gt=>true
 |_=>false
theorem isGtO_eq{o:CmpOp}(h:isGtO o=true):o= .Gt:=by induction o<;>first|rfl|cases h
noncomputable def isGt(x cn:Str)(e:PySem.Expr):Bool:=(cmpOf e).any fun w=>(one w.2.1).any fun o=>(one w.2.2).any fun r=>(atOf w.1).any fun y=>[isGtO o,intOf r==some 0,nameOf y.1==some x,y.2.1==cn].all id
theorem isGt_eq{x cn:Str}{e:PySem.Expr}(h:isGt x cn e=true):IsGt x cn e:=by
 refine nn fun hC=>?_
 obtain ⟨w,h0,h⟩:=anyO h
 obtain ⟨o,h1,h⟩:=anyO h
 obtain ⟨r,h2,h⟩:=anyO h
 obtain ⟨y,h3,h⟩:=anyO h
 obtain ⟨t4,e1⟩:=cmpOf_inv e w h0
 obtain ⟨k,t3,e2⟩:=intOf_eq (beq_iff_eq.mp (zk h (i:=1) rfl))
 obtain ⟨t1,e3⟩:=wu (eqO (zk h (i:=2) rfl))
 refine hC ?_
 exact ⟨t1,y.2.2,k,t3,t4,by rw [e1,one_eq h1,one_eq h2,show w.1=_ from atOf_inv _ y h3,e3,eqS (zk h (i:=3) rfl),e2,isGtO_eq (zk h (i:=0) rfl)]⟩
noncomputable def isAsk(T:Tb)(x w:Str)(st:Stmt):Bool:=(exOf st).any fun e=>(callOf e).any fun z=>(atOf z.1).any fun y=>(one z.2.1).any fun a=>(callOf a).any fun u=>(one u.2.1).any fun b=>
 [z.2.2.1.isEmpty,y.2.2.endLine==z.2.2.2.line,nameOf y.1==some x,T.meths.lookup y.2.1==some 18,u.2.2.1.isEmpty,nameOf u.1==some ("list":Str),nameOf b==some w].all id
theorem isAsk_eq{T:Tb}{x w:Str}{st:Stmt}(h:isAsk T x w st=true):IsAsk T x w st:=by
 refine nn fun hC=>?_
 obtain ⟨e,h1,h⟩:=anyO h
 obtain ⟨z,h2,h⟩:=anyO h
 obtain ⟨y,h3,h⟩:=anyO h
 obtain ⟨a,h4,h⟩:=anyO h
 obtain ⟨u,h5,h⟩:=anyO h
 obtain ⟨b,h6,h⟩:=anyO h
 obtain ⟨q5,e1⟩:=exOf_inv st e h1
 obtain ⟨q1,e3⟩:=wu (eqO (zk h (i:=2) rfl))
 obtain ⟨q2,e6⟩:=wu (eqO (zk h (i:=5) rfl))
 obtain ⟨q3,e7⟩:=wu (eqO (zk h (i:=6) rfl))
 refine hC ?_
 refine ⟨y.2.1,q1,y.2.2,q2,q3,u.2.2.2,z.2.2.2,⟨q5,?_⟩,beq_iff_eq.mp (zk h (i:=3) rfl),zk h (i:=1) rfl⟩
 rw [e1,show e=_ from callOf_inv e z h2,show z.1=_ from atOf_inv _ y h3,e3,one_eq h4,show a=_ from callOf_inv a u h5,e6,one_eq h6,e7,List.isEmpty_iff.mp (zk h (i:=0) rfl),List.isEmpty_iff.mp (zk h (i:=4) rfl)]
noncomputable def isRet(p:PySem.Expr→Bool)(st:Stmt):Bool:=(retOf st).any p
theorem isRet_eq{p:PySem.Expr→Bool}{P:PySem.Expr→Prop}(k:∀{e},p e=true→P e){st:Stmt}(h:isRet p st=true):IsRetS P st:=by
 obtain ⟨e,h1,h⟩:=anyO h
 obtain ⟨q,e1⟩:=retOf_inv st e h1
 exact ⟨e,q,e1,k h⟩
noncomputable def isTry(T:Tb)(x w an cn:Str)(st:Stmt):Bool:=(tryOf st).any fun t=>(one t.1).any fun q=>(one t.2.1).any fun h=>(handOf h).any fun g=>(two g.2).any fun b=>[t.2.2.1.isEmpty,t.2.2.2.isEmpty,isAsk T x w q,nameOf g.1==some T.excN,isSet x an 0 b.1,isRet (isGt x cn) b.2].all id
theorem isTry_eq{T:Tb}{x w an cn:Str}{st:Stmt}(h:isTry T x w an cn st=true):IsTryS T x w an cn st:=by
 refine nn fun hC=>?_
 obtain ⟨t,h1,h⟩:=anyO h
 obtain ⟨q,h2,h⟩:=anyO h
 obtain ⟨hd,h3,h⟩:=anyO h
 obtain ⟨g,h4,h⟩:=anyO h
 obtain ⟨b,h5,h⟩:=anyO h
 obtain ⟨q8,e1⟩:=tryOf_inv st t h1
 obtain ⟨q7,e2⟩:=handOf_inv hd g h4
 obtain ⟨q6,e3⟩:=wu (eqO (zk h (i:=3) rfl))
 refine hC ?_
 exact ⟨q,b.1,b.2,q6,q7,q8,by rw [e1,one_eq h2,one_eq h3,e2,e3,two_eq h5,List.isEmpty_iff.mp (zk h (i:=0) rfl),List.isEmpty_iff.mp (zk h (i:=1) rfl)],isAsk_eq (zk h (i:=2) rfl),isSet_eq (zk h (i:=4) rfl),isRet_eq isGt_eq (zk h (i:=5) rfl)⟩
noncomputable def limChk(T:Tb)(K:Frag)(an cn:Str)(L:Addr):Bool:=(fn0 K L).any fun f=>(two f.ps).any fun a=>(f.body.head?).any fun s1=>(f.body.tail.head?).any fun s2=>(two f.body.tail.tail).any fun s34=>
 [codeIn K f.fd.code f.fd.qualname,fdChk f.fd f.ps,cloChk K f.fd,(zm f.fd.scope).length==2,slot (zm f.fd.scope) a.1.arg==some 0,slot (zm f.fd.scope) a.2.arg==some 1,nmOf an==some 15,nmOf cn==some 14,glb f.fd.scope "list",glb f.fd.scope T.excN,isSet a.1.arg an 1 s1,isTry T a.1.arg a.2.arg an cn s2,isSet a.1.arg an 0 s34.1,isRet isTrueC s34.2].all id
noncomputable def txtChk(prog:Program)(T:Tb)(K:Frag)(C X L fi:Addr)(an cn:Str)(fs:List Addr):Bool:=
 [ltChk T,decide (fs.length≤1000),excChk prog T K X fi,limChk T K an cn L,attrChk K C,keyChk K C T.keyN (fs.getD T.keyF 0),clsChk K C T.cls (fs.getD T.initF 0),tbChk T K C L fs,fs.all fun a=>(fnAt T K a).all (fnChk prog K C (fs.getD T.supF 0))].all id
noncomputable def toFa(f:Fn):Fa:=⟨f.ps.length,(zm f.fd.scope).length,f.code⟩
noncomputable def codesAt(T:Tb)(K:Frag):List Addr→List (Option Fa)
 |[]=>[]
 |a::r=>(fnAt T K a).map toFa::codesAt T K r
noncomputable def somes:List Fa→List (Option Fa)
 |[]=>[]
 |f::r=>some f::somes r
theorem codes_fns{T:Tb}{K:Frag}:∀{fs:List Addr} {tab:List Fa},codesAt T K fs=somes tab→∃fns:List Fn,fs.map (fnAt T K)=fns.map some∧tabOf fns=tab
 |[],[],_=>⟨[],rfl,rfl⟩
 |a::r,f::tab,h=>by
  refine nn fun hC=>?_
  obtain ⟨h1,h2⟩:=List.cons.inj h
  obtain ⟨g,h3,rfl⟩:=wj h1
  obtain ⟨fns,h4,rfl⟩:=codes_fns h2
  refine hC ?_
  exact ⟨g::fns,by rw [List.map_cons,h3,h4];rfl,rfl⟩
 |[],_::_,h=>by cases h
 |_::_,[],h=>by cases h
theorem mem_lookup{K V:Type} [BEq K] [LawfulBEq K]{l:List (K×V)}{k:K}{v:V}(h:l.lookup k=some v):(k,v)∈l:=by
 obtain ⟨l1,l2,e,_⟩:=List.lookup_eq_some_iff.mp h
 rw [e];simp
theorem fnK_ok{K:Frag}{g2:Addr}(h:supD K g2=true):FnK K g2:=by
 obtain ⟨of,d1,h5⟩:=anyO h
 obtain ⟨d2,d3⟩:=and2 h5
 obtain ⟨fd2,d4⟩:=Option.isSome_iff_exists.mp d2
 exact ⟨of,fd2,d1,funcOf_inv _ _ d4,beq_iff_eq.mp d3⟩
theorem sup_ok{c:Cx}{C f:Addr}{v:Value}{fd:FuncData}{o:Obj}(hl:c.K.lookup f=some o)(hd:o.data= .func fd)(h:supChk c.prog c.K C v fd=true):∃ar,SupOK c C v fd f ar:=by
 refine nn fun hC=>?_
 obtain ⟨ar,h2,hs⟩:=anyO (zk h (i:=0) rfl)
 refine hC ?_
 refine ⟨ar,h2,⟨o,hl,hd⟩,?_,?_,by have:=zk h (i:=3) rfl;rwa [Bool.not_eq_true'] at this,beq_iff_eq.mp (zk h (i:=4) rfl),beq_iff_eq.mp (zk h (i:=5) rfl),beq_iff_eq.mp (zk h (i:=6) rfl),beq_iff_eq.mp hs,beq_iff_eq.mp (zk h (i:=7) rfl)⟩
 ·refine nn fun hC=>?_
  obtain ⟨cda,a1,h3⟩:=anyO (zk h (i:=1) rfl)
  obtain ⟨oc,a2,h3⟩:=anyO h3
  obtain ⟨vs,a3,h3⟩:=anyO h3
  obtain ⟨v,a4,h3⟩:=anyO h3
  obtain ⟨file,a5,hfile⟩:=anyO h3
  obtain ⟨tf,a6⟩:=strOf_inv _ _ a5
  refine hC ?_
  exact ⟨cda,oc.cls,oc.dict,vs,oc.slots,file,tf,refOf_inv _ _ a1,by rw [a2,←show oc.data=_ from fieldsOf_inv _ _ a3],by rw [a4,a6],hfile⟩
 ·refine nn fun hC=>?_
  obtain ⟨cc,b1,h4⟩:=anyO (zk h (i:=2) rfl)
  obtain ⟨ob,b2,h4⟩:=anyO h4
  obtain ⟨v',b3,h4⟩:=anyO h4
  obtain ⟨v2,b4,h4⟩:=anyO h4
  obtain ⟨D,b5,h4⟩:=anyO h4
  obtain ⟨cdD,b9⟩:=Option.isSome_iff_exists.mp (zk h4 (i:=0) rfl)
  refine hC ?_
  exact ⟨cc,ob.cls,ob.dict,ob.slots,D,cdD,b1,by rw [b2,←show v2=_ from refOf_inv _ _ b5,←b4,←show ob.data=_ from cellOf_inv _ _ b3],b9,beq_iff_eq.mp (zk h4 (i:=1) rfl),beq_iff_eq.mp (zk h4 (i:=2) rfl)⟩
theorem fnAt_eq{T:Tb}{K:Frag}{a:Addr}{f:Fn}(h:fnAt T K a=some f):An5 (f.addr=a) (K.lookup a=some f.obj) (f.obj.data= .func f.fd) (f.fd.body= .stmts f.body) (f.fd.params=⟨[],f.ps,none,[],[],none,[]⟩)∧trBody T 30 f.fd.scope f.body=some f.code:=by
 obtain ⟨g,h1,h⟩:=zd h
 obtain ⟨code,h5,rfl⟩:=wj h
 have F:=fn0_eq h1
 exact ⟨F,h5⟩
theorem init_of{c:Cx}{fi:Addr}(ty:∃o,c.K.lookup c.X=some o∧o.cls= .type "type")(mk:PkX c.K ⟨c.prog,c.w.params⟩ c.X)(st:findIn c.K (.ref c.X) "__setattr__"=some (some (.builtin "object.__setattr__")))(h:initChk c.prog c.K c.X fi=true):InitX c fi:=by
 refine nn fun hC=>?_
 obtain ⟨f,h1,h⟩:=anyO h
 obtain ⟨a,h5,h⟩:=anyO h
 obtain ⟨s,h6,h⟩:=anyO h
 obtain ⟨y,h7,h⟩:=anyO h
 obtain ⟨f1,f2,f3,f4,f5⟩:=fn0_eq h1
 obtain ⟨ar,SO⟩:=sup_ok f2 f3 (zk h (i:=0) rfl)
 obtain ⟨p0,p1,p2,p3,ap,q0,e1,hline⟩:=isSup1_eq (zk h (i:=1) rfl)
 obtain ⟨q1,q2,q4,e3⟩:=setOf_eq h7
 obtain ⟨q3,e4⟩:=wu (eqO (zk h (i:=3) rfl))
 refine hC ?_
 have hps:=two_eq h5
 have har:ar=a.1:=by
  have:=SO.par
  rw [f5,hps] at this
  exact (Option.some.inj this).symm
 rw [har] at SO
 have nb:∀{b:Bool},(!b)=true→b=false:=fun h=>by rwa [Bool.not_eq_true'] at h
 refine ⟨f.obj,f.fd,a.1,a.2,y.2.1,p0,p1,p2,p3,ap,q0,q1,q2,q3,q4,hline,SO,f2,f3,?_,by rw [f5,hps],zk h (i:=9) rfl,zk h (i:=10) rfl,fun z hz e=>?_,beq_iff_eq.mp (zk h (i:=5) rfl),beq_iff_eq.mp (zk h (i:=6) rfl),nb (zk h (i:=7) rfl),nb (zk h (i:=8) rfl),ty,mk,beq_iff_eq.mp (zk h (i:=4) rfl),st⟩
 ·rw [f4,two_eq h6,e1,e3,e4,beq_iff_eq.mp (zk h (i:=2) rfl)]
 ·have:=List.all_eq_true.mp (zk h (i:=11) rfl) z hz
  rw [e] at this;cases this
theorem exc_of{c:Cx}{fi:Addr}(h:excChk c.prog c.T c.K c.X fi=true)(mk:PkX c.K ⟨c.prog,c.w.params⟩ c.X):ExcOK c fi:=by
 refine nn fun hC=>?_
 obtain ⟨o,k1,k2⟩:=anyO (zk h (i:=4) rfl)
 refine hC ?_
 have ty:∃o,c.K.lookup c.X=some o∧o.cls= .type "type":=⟨o,k1,beq_iff_eq.mp k2⟩
 exact ⟨beq_iff_eq.mp (zk h (i:=0) rfl),zk h (i:=1) rfl,beq_iff_eq.mp (zk h (i:=2) rfl),beq_iff_eq.mp (zk h (i:=3) rfl),ty,mk,init_of ty mk (beq_iff_eq.mp (zk h (i:=5) rfl)) (zk h (i:=6) rfl)⟩
theorem body4{α:Type}{l:List α}{a b:α}{p:α×α}(h1:l.head?=some a)(h2:l.tail.head?=some b)(h3:two l.tail.tail=some p):l=[a,b,p.1,p.2]:=by
 induction l with
 |nil=>cases h1
 |cons x l=>
  cases h1
  induction l with
  |nil=>cases h2
  |cons x l=>cases h2;rw [show l=_ from two_eq h3]
theorem lim_of{c:Cx}{an cn:Str}(h:limChk c.T c.K an cn c.L=true):∃f,LimF c f:=by
 refine nn fun hC=>?_
 obtain ⟨f,h1,h⟩:=anyO h
 obtain ⟨a,h5,h⟩:=anyO h
 obtain ⟨s1,h6,h⟩:=anyO h
 obtain ⟨s2,h7,h⟩:=anyO h
 obtain ⟨s3,h8,h⟩:=anyO h
 obtain ⟨f1,f2,f3,f4,f5⟩:=fn0_eq h1
 refine hC ?_
 exact ⟨f,⟨by rw [f1];exact f2,f3,f4,f5,zk h (i:=0) rfl,zk h (i:=1) rfl,zk h (i:=2) rfl⟩,f1.symm,a.1,a.2,an,cn,s1,s2,s3.1,s3.2,two_eq h5,beq_iff_eq.mp (zk h (i:=3) rfl),beq_iff_eq.mp (zk h (i:=4) rfl),beq_iff_eq.mp (zk h (i:=5) rfl),beq_iff_eq.mp (zk h (i:=6) rfl),beq_iff_eq.mp (zk h (i:=7) rfl),
  zk h (i:=8) rfl,zk h (i:=9) rfl,body4 h6 h7 h8,isSet_eq (zk h (i:=10) rfl),isTry_eq (zk h (i:=11) rfl),isSet_eq (zk h (i:=12) rfl),isRet_eq isTrueC_eq (zk h (i:=13) rfl)⟩
inductive TxtX(c:Cx)(F:Nat→Addr)(fns:List Fn)(tab:List Fa):Prop
 |mk (T:Txt c F fns) (ht:tabOf fns=tab) (fi:Addr) (ex:ExcOK c fi) (f:Fn) (li:LimF c f)
theorem tb_of{c:Cx}{fs:List Addr}(h:tbChk c.T c.K c.C c.L fs=true):TbOK c (fun g=>fs.getD g 0):=by
 refine ⟨fun n g e=>?_,fun n g e=>?_,fun n i e=>?_,?_,fun n e=>?_⟩
 ·have:=and2 (List.all_eq_true.mp (zk h (i:=0) rfl) _ (mem_lookup e))
  exact ⟨beq_iff_eq.mp this.1,this.2⟩
 ·exact and2 (List.all_eq_true.mp (zk h (i:=1) rfl) _ (mem_lookup e))
 ·obtain ⟨v,h1,h2⟩:=anyO (List.all_eq_true.mp (zk h (i:=2) rfl) _ (mem_lookup e))
  obtain ⟨u,h3,h4⟩:=anyO h2
  obtain ⟨t,h5⟩:=intV_inv u _ (beq_iff_eq.mp h4)
  exact ⟨t,by rw [h1,h3,h5]⟩
 ·exact ⟨beq_iff_eq.mp (zk h (i:=3) rfl),zk h (i:=4) rfl⟩
 ·exact beq_iff_eq.mp (List.all_eq_true.mp (zk h (i:=5) rfl) _ e)
theorem fnC_of{c:Cx}{fs:List Addr}{fns:List Fn}{g:Nat}{f:Fn}(h1:fs.map (fnAt c.T c.K)=fns.map some)(h:(fs.all fun a=>(fnAt c.T c.K a).all (fnChk c.prog c.K c.C (fs.getD c.T.supF 0)))=true)(hg:fns[g]?=some f):FnC c (fun g=>fs.getD g 0) g f:=by
 have e1:(fs.map (fnAt c.T c.K))[g]?=some (some f):=by rw [h1,List.getElem?_map,hg];rfl
 rw [List.getElem?_map] at e1
 refine nn fun hC=>?_
 obtain ⟨a,e2,e3⟩:=wj e1
 obtain ⟨⟨q1,q2,q3,q4,q5⟩,q6⟩:=fnAt_eq e3
 refine hC ?_
 have hF:fs.getD g 0=a:=by rw [List.getD_eq_getElem?_getD,e2];rfl
 have k:=List.all_eq_true.mp h _ (List.mem_of_getElem? e2)
 rw [e3] at k
 have k:fnChk c.prog c.K c.C (fs.getD c.T.supF 0) f=true:=k
 refine ⟨⟨by rw [q1];exact q2,q3,q4,q5,zk k (i:=0) rfl,zk k (i:=1) rfl,zk k (i:=2) rfl⟩,by rw [q1];exact hF,q6,fun hs=>?_⟩
 have r4:=zk k (i:=3) rfl
 rw [hs] at r4
 have r4:[!f.fd.closure.isEmpty,supD c.K (fs.getD c.T.supF 0),supChk c.prog c.K c.C (.ref (fs.getD c.T.supF 0)) f.fd].all id=true:=r4
 rw [q1]
 exact ⟨by have:=zk r4 (i:=0) rfl;rwa [Bool.not_eq_true'] at this,fnK_ok (zk r4 (i:=1) rfl),sup_ok q2 q3 (zk r4 (i:=2) rfl)⟩
theorem txt_of{c:Cx}{fs:List Addr}{fi:Addr}{an cn:Str}{tab:List Fa}(G:Gd c)(h:txtChk c.prog c.T c.K c.C c.X c.L fi an cn fs=true)(hc:codesAt c.T c.K fs=somes tab)(mk:PkX c.K ⟨c.prog,c.w.params⟩ c.X):
  ∃fns:List Fn,TxtX c (fun g=>fs.getD g 0) fns tab:=by
 refine nn fun hC=>?_
 obtain ⟨fns,h1,h2⟩:=codes_fns hc
 obtain ⟨fL,LF⟩:=lim_of (zk h (i:=3) rfl)
 refine hC ?_
 have EX:=exc_of (zk h (i:=2) rfl) mk
 have hlen:fns.length≤1000:=by
  have:=congrArg List.length h1
  rw [List.length_map,List.length_map] at this
  rw [←this];exact of_decide_eq_true (zk h (i:=1) rfl)
 exact ⟨fns,⟨G,zk h (i:=4) rfl,tb_of (zk h (i:=7) rfl),zk h (i:=5) rfl,zk h (i:=6) rfl,hlen,fun g f hg=>fnC_of h1 (zk h (i:=8) rfl) hg,lt_of (zk h (i:=0) rfl),fun {A n} gA=>raise_ok G EX gA⟩,h2,fi,EX,fL,LF⟩
noncomputable def fragChk(K:Frag):Bool:=(K.lookup sysModules).isSome&&K.all fun x=>x.2.cls != .type "list"
noncomputable def bothChk(prog:Program)(T:Tb)(K:Frag)(C X L fi:Addr)(fs:List Addr):Bool:=fragChk K&&txtChk prog T K C X L fi "conflict_limit" "clashes" fs
noncomputable def pkAt(prog:Program)(K:Frag)(X:Addr)(P:Params)(v:Value):Bool:=pkX ⟨prog,P⟩ K X&&(peek K ⟨prog,P⟩ (checkBuiltinCall "Exception.__new__" ⟨[.ref X,v],[]⟩)).isSome
noncomputable def obsOf(prog:Program)(T:Tb)(as fs:List Addr)(C X L fi:Addr)(s:Shared):(Bool×List (Option Fa))×(Params→Value→Bool):=((bothChk prog T (fragAt as s.heap) C X L fi fs,codesAt T (fragAt as s.heap) fs),pkAt prog (fragAt as s.heap) X)
noncomputable def SaysT(prog:Program)(T:Tb)(fs:List Addr)(C X L fi:Addr)(tab:List Fa)(w:World)(h:Heap):Prop:=
 ∃(K:Frag),An4 (K.In h) (bothChk prog T K C X L fi fs=true) (codesAt T K fs=somes tab) (PkX K ⟨prog,w.params⟩ X)
section
variable{prog:Program}{T:Tb}{as fs:List Addr}{C X L fi:Addr}{tab:List Fa}
theorem says_of(w:World)(s:Shared)(e:obsOf prog T as fs C X L fi s=((true,somes tab),fun _ _=>true)):SaysT prog T fs C X L fi tab w s.heap:=
 have k:∀v,pkAt prog (fragAt as s.heap) X w.params v=true:=fun v=>congrFun (congrFun (congrArg Prod.snd e) w.params) v
 ⟨_,frag_in,congrArg (fun x=>x.1.1) e,congrArg (fun x=>x.1.2) e,(and2 (k .none)).1,fun v=>(and2 (k v)).2⟩
theorem says_keeps(w:World)(h h':Heap)(x:SaysT prog T fs C X L fi tab w h)(k:∀b o,h.get? b=some o→h'.get? b=some o):SaysT prog T fs C X L fi tab w h':=
 let ⟨K,a,b,d,e⟩:=x;⟨K,a.keeps k,b,d,e⟩
end
end Mine
end
section
open PySem PySem.W PySem.Calls PyProof.Rows
set_option tactic.hygienic false
namespace Mine
noncomputable def topRunG(ok:Thread→Bool)(stp:SharedT→Thread→Option (SharedT×Thread)):Nat→SharedT→Thread→Option SharedT
 |0,_,_=>none
 |n+1,s,t=>match through t with
  |true=>some s
  |false=>match ok t with
   |false=>none
   |true=>match stp s t with
    |some (s',t')=>topRunG ok stp n s' t'
    |none=>none
section
variable{tb:String→Option Builtin}{p:Program}{w:World}{n₀:Nat}{ann:Option Value}
theorem topRunG_of:∀{n:Nat} {s s':SharedT} {t:Thread},topRunG (stepOk n₀ ann) (stepT (denote tb) p w) n s t=some s'→topRun tb p w n₀ ann n s.abs t=some s'.abs
 |0,_,_,_,h=>by cases h
 |n+1,s,s',t,h=>by
  replace h:(match through t with
   |true=>some s
   |false=>match stepOk n₀ ann t with
    |false=>none
    |true=>match stepT (denote tb) p w s t with
     |some (s',t')=>topRunG (stepOk n₀ ann) (stepT (denote tb) p w) n s' t'
     |none=>none)=some s':=h
  unfold topRun
  generalize ht:through t=zq;induction zq with
  |true=>rw [ht] at h;cases h;rfl
  |false=>
   rw [ht] at h
   generalize hk:stepOk n₀ ann t=zq;induction zq with
   |false=>rw [hk] at h;cases h
   |true=>
    rw [hk] at h
    generalize hs:stepT (denote tb) p w s t=zq;induction zq with
    |none=>rw [hs] at h;cases h
    |some r=>obtain ⟨s₂,t₂⟩:=r;rw [hs] at h;rw [stepT_spec hs];exact topRunG_of h
noncomputable def topQ(p:Program)(w:World)(ann:Option Value)(N:Nat)(s:SharedT):Option SharedT:=
 topRunG (Fast.tw6613529449190102663 11 ann) (Fast.tw10156331382660048174 (Fast.tw11892475500146522536 Fast.tw14364793385576792824) p w) N s (topStub p)
theorem topQ_of{N:Nat}{s s':SharedT}(h:topQ p w ann N s=some s'):topRun treeTable p w 11 ann N s.abs (topStub p)=some s'.abs:=by
 unfold topQ at h
 rw [←Fast.te6613529449190102663,←Fast.te10156331382660048174,←Fast.te11892475500146522536,←Fast.te14364793385576792824] at h
 exact topRunG_of h
end
noncomputable def btOf:Nat→List Obj→BT→BT
 |_,[],t=>t
 |i,o::r,t=>btOf (i+1) r (t.ins i o)
noncomputable def boot0(w:World)(os:OsState):SharedT:=⟨btOf 0 (boot_heap w.params).objs.toList .nil,11,(boot_heap w.params).life,Array.mk [],boot_drawn,boot_toks,os⟩
theorem left_top{p q:Program}{loose:List Str}{Xt:Shared→Bool}{α:Type}{Yf:Shared→α}{Ya:World→α}{N:Nat}(e:opening p=plainProg p.main.scope.names)(hN:Nat.ble 600 N=true)(f:∀s,fenceModules? p s=some s)
  (b:∀(w:World) (os:OsState),(boot0 w os).abs=⟨boot_heap w.params,Array.mk [],boot_drawn,boot_toks,os⟩∧((boot_heap w.params).isNs mainGlobals&&(Array.mk ([]:List GenState)).size==0)=true∧(boot_heap w.params).objs.size=11)
  (h1:∀(w:World) (os:OsState),(topQ p w ((boot_heap w.params).nsMap mainGlobals "__annotations__") N (boot0 w os)).map (fun s=>(staticsOk (importedModules p.main.body) (boot_heap w.params) s.abs.heap&&namesBound p s.abs.heap&&gensDone s.abs&&laidKept (boot_heap w.params) s.abs.heap,Fast.tw4187177175401517315 q loose (importedModules p.main.body) Xt true s.abs))=some (true,openGood q loose))
  (h2:∀(w:World) (os:OsState),(topQ p w ((boot_heap w.params).nsMap mainGlobals "__annotations__") N (boot0 w os)).map (fun s=>Yf s.abs)=some (Ya w)):LeftO p q loose Xt Yf Ya N:=fun w=>by
 refine nn fun hC=>?_
 obtain ⟨⟨hp,gs,d,k,os⟩,e1,e2⟩:=Option.map_eq_some_iff.mp (boot_open e hN f w)
 refine hC ?_
 simp only [Prod.mk.injEq] at e2
 refine nn fun hC=>?_
 obtain ⟨rfl,rfl,rfl,rfl⟩:=e2
 refine hC ?_
 unfold openEnds
 rw [e1]
 refine nn fun hC=>?_
 obtain ⟨b1,b2,b3⟩:=b w os
 obtain ⟨s,g1,g2⟩:=Option.map_eq_some_iff.mp (h1 w os)
 refine hC ?_
 have g3:=h2 w os
 rw [g1] at g3
 have r:=topQ_of g1
 rw [b1] at r
 obtain ⟨g4,g5⟩:=Prod.mk.inj g2
 rw [←Fast.te4187177175401517315] at g5
 have t:topFrom treeTable p w N ⟨boot_heap w.params,Array.mk [],boot_drawn,boot_toks,os⟩=some s.abs:=by
  unfold topFrom
  dsimp only
  rw [b2,b3,r]
  show (match staticsOk (importedModules p.main.body) (boot_heap w.params) s.abs.heap&&namesBound p s.abs.heap&&gensDone s.abs&&laidKept (boot_heap w.params) s.abs.heap with|true=>_|false=>_)=_
  rw [g4]
 show (topFrom treeTable p w N _).map _=_
 rw [t]
 exact congrArg some (Prod.ext g5 (Option.some.inj g3))
theorem boot_is(w:World)(os:OsState):(boot0 w os).abs=⟨boot_heap w.params,Array.mk [],boot_drawn,boot_toks,os⟩∧((boot_heap w.params).isNs mainGlobals&&(Array.mk ([]:List GenState)).size==0)=true∧(boot_heap w.params).objs.size=11:=
 ⟨by kernel_rfl,by kernel_rfl,by kernel_rfl⟩
end Mine
end
section
open PySem PySem.W
namespace Mine
noncomputable def k0:S:=(.seq (.asg 1 .dict0) (.seq (.for_ 2 (.src (.loc 0)) (.seq (.ite (.cmp .mem (.neg (.loc 2)) (.loc 1)) (.seq (.ret (.c .none)) .skip) .skip) (.seq (.setI (.loc 1) (.loc 2) (.c (.bool true))) .skip))) (.seq (.ret (.bi .toTuple [(.bi .sortAbs [(.loc 1)])])) .skip)))
noncomputable def k1:S:=(.seq (.setA (.loc 0) 0 .dict0) (.seq (.setA (.loc 0) 1 .dict0) (.seq (.setA (.loc 0) 2 .dict0) (.seq (.setA (.loc 0) 3 (.list [])) (.seq (.setA (.loc 0) 4 (.list [])) (.seq (.setA (.loc 0) 5 (.c (.int 0))) (.seq (.setA (.loc 0) 6 .dict0) .skip)))))))
noncomputable def k2:S:=(.seq (.asg 2 (.bm .dget1 (.attr (.loc 0) 0) [(.bi .abs [(.loc 1)])])) (.seq (.ret (.ite (.cmp .is (.loc 2) (.c .none)) (.c .none) (.cmp .eq (.loc 2) (.cmp .gt (.loc 1) (.c (.int 0)))))) .skip))
noncomputable def k3:S:=(.seq (.asg 3 (.bi .abs [(.loc 1)])) (.seq (.setI (.attr (.loc 0) 0) (.loc 3) (.cmp .gt (.loc 1) (.c (.int 0)))) (.seq (.setI (.attr (.loc 0) 1) (.loc 3) (.bi .len [(.attr (.loc 0) 4)])) (.seq (.setI (.attr (.loc 0) 2) (.loc 3) (.loc 2)) (.seq (.ex (.bm .append (.attr (.loc 0) 3) [(.loc 1)])) .skip)))))
noncomputable def k4:S:=(.seq (.ite (.cmp .lt (.loc 1) (.bi .len [(.attr (.loc 0) 4)])) (.seq (.whl (.cmp .gt (.bi .len [(.attr (.loc 0) 3)]) (.sub (.attr (.loc 0) 4) (.loc 1))) (.seq (.asg 2 (.bi .abs [(.bm .pop (.attr (.loc 0) 3) [])])) (.seq (.setI (.attr (.loc 0) 6) (.loc 2) (.bm .dpop1 (.attr (.loc 0) 0) [(.loc 2)])) .skip))) (.seq (.setA (.loc 0) 4 (.slice (.attr (.loc 0) 4) (.c .none) (.loc 1))) (.seq (.setA (.loc 0) 5 (.bi .len [(.attr (.loc 0) 3)])) .skip))) .skip) .skip)
noncomputable def k5:S:=(.seq (.ex (.sup 1)) (.seq (.setA (.loc 0) 7 (.list [])) (.seq (.setA (.loc 0) 8 .dict0) (.seq (.setA (.loc 0) 9 (.dcomp [false,false,false,false] (.rng (.c (.int 1)) (.bin .add (.loc 2) (.c (.int 1)))) (.loc 4) (.c (.int 0)))) (.seq (.setA (.loc 0) 10 (.c (.int 1))) (.seq (.setA (.loc 0) 11 (.list [])) (.seq (.setA (.loc 0) 12 (.c (.bool false))) (.seq (.setA (.loc 0) 13 (.tup [])) (.seq (.setA (.loc 0) 14 (.c (.int 0))) (.seq (.setA (.loc 0) 15 (.c (.int 0))) (.seq (.for_ 3 (.src (.loc 1)) (.seq (.ex (.callM 6 (.loc 0) [(.loc 3)])) .skip)) .skip)))))))))))
noncomputable def k6:S:=(.seq (.ex (.callM 4 (.loc 0) [(.c (.int 0))])) (.seq (.asg 2 (.callG 0 [(.loc 1)])) (.seq (.for_ 3 (.src (.loc 1)) (.seq (.ex (.bm .setdef (.attr (.loc 0) 9) [(.bi .abs [(.loc 3)]),(.c (.int 0))])) .skip)) (.seq (.ite (.or (.cmp .is (.loc 2) (.c .none)) (.or (.attr (.loc 0) 12) (.or (.cmp .mem (.c (.bool true)) (.lcomp [true,false,false,false,false] (.src (.loc 2)) (.c (.bool true)) (.emit (.callM 2 (.loc 0) [(.loc 5)])))) (.c (.bool false))))) (.seq (.ret (.not (.attr (.loc 0) 12))) .skip) .skip) (.seq (.asg 4 (.lcomp [true,false,false,false,false] (.src (.loc 2)) (.cmp .is (.callM 2 (.loc 0) [(.loc 5)]) (.c .none)) (.emit (.loc 5)))) (.seq (.ite (.cmp .eq (.bi .len [(.loc 4)]) (.c (.int 0))) (.seq (.ex (.callM 7 (.loc 0) [])) .skip) (.seq (.ite (.cmp .eq (.bi .len [(.loc 4)]) (.c (.int 1))) (.seq (.ex (.callM 3 (.loc 0) [(.sub (.loc 4) (.c (.int 0))),(.c .none)])) .skip) (.seq (.ex (.callM 8 (.loc 0) [(.loc 4)])) .skip)) .skip)) (.seq (.ret (.not (.attr (.loc 0) 12))) .skip)))))))
noncomputable def k7:S:=(.seq (.setA (.loc 0) 12 (.c (.bool true))) (.seq (.ex (.bm .append (.attr (.loc 0) 11) [(.tup [])])) .skip))
noncomputable def k8:S:=(.seq (.ex (.bm .append (.attr (.loc 0) 7) [(.bi .toList [(.loc 1)])])) (.seq (.for_ 2 (.src (.slice (.loc 1) (.c .none) (.c (.int 2)))) (.seq (.ex (.bm .append (.bm .setdef (.attr (.loc 0) 8) [(.loc 2),(.list [])]) [(.bin .sub (.bi .len [(.attr (.loc 0) 7)]) (.c (.int 1)))])) .skip)) (.seq (.ret (.bin .sub (.bi .len [(.attr (.loc 0) 7)]) (.c (.int 1)))) .skip)))
noncomputable def k9:S:=(.seq (.whl (.cmp .lt (.attr (.loc 0) 5) (.bi .len [(.attr (.loc 0) 3)])) (.seq (.asg 1 (.neg (.sub (.attr (.loc 0) 3) (.attr (.loc 0) 5)))) (.seq (.setA (.loc 0) 5 (.bin .add (.attr (.loc 0) 5) (.c (.int 1)))) (.seq (.asgN [2,3] [(.bm .dpop2 (.attr (.loc 0) 8) [(.loc 1),(.list [])]),(.list [])]) (.seq (.setI (.attr (.loc 0) 8) (.loc 1) (.loc 3)) (.seq (.for_ 4 (.rng (.c (.int 0)) (.bi .len [(.loc 2)])) (.seq (.ite (.not (.callM 10 (.loc 0) [(.sub (.loc 2) (.loc 4)),(.loc 1)])) (.seq (.ex (.bm .append (.loc 3) [(.sub (.loc 2) (.loc 4))])) (.seq (.asg 5 (.sub (.sub (.attr (.loc 0) 7) (.sub (.loc 2) (.loc 4))) (.c (.int 0)))) (.seq (.ite (.cmp .eq (.callM 2 (.loc 0) [(.loc 5)]) (.c (.bool false))) (.seq (.ex (.bm .extend (.loc 3) [(.slice (.loc 2) (.bin .add (.loc 4) (.c (.int 1))) (.c .none))])) (.seq (.ret (.sub (.loc 2) (.loc 4))) .skip)) .skip) (.seq (.ite (.cmp .is (.callM 2 (.loc 0) [(.loc 5)]) (.c .none)) (.seq (.ex (.callM 3 (.loc 0) [(.loc 5),(.sub (.loc 2) (.loc 4))])) .skip) .skip) .skip)))) .skip) .skip)) .skip)))))) (.seq (.ret (.neg (.c (.int 1)))) .skip))
noncomputable def k10:S:=(.seq (.asg 3 (.sub (.attr (.loc 0) 7) (.loc 1))) (.seq (.ite (.cmp .eq (.sub (.loc 3) (.c (.int 0))) (.loc 2)) (.seq (.swap (.loc 3) (.c (.int 0)) (.loc 3) (.c (.int 1)) (.sub (.loc 3) (.c (.int 1))) (.loc 2)) .skip) .skip) (.seq (.ite (.cmp .eq (.callM 2 (.loc 0) [(.sub (.loc 3) (.c (.int 0)))]) (.c (.bool true))) (.seq (.ret (.c (.bool false))) .skip) .skip) (.seq (.for_ 4 (.rng (.c (.int 2)) (.bi .len [(.loc 3)])) (.seq (.ite (.cmp .ne (.callM 2 (.loc 0) [(.sub (.loc 3) (.loc 4))]) (.c (.bool false))) (.seq (.swap (.loc 3) (.c (.int 1)) (.loc 3) (.loc 4) (.sub (.loc 3) (.loc 4)) (.loc 2)) (.seq (.ex (.bm .append (.bm .setdef (.attr (.loc 0) 8) [(.sub (.loc 3) (.c (.int 1))),(.list [])]) [(.loc 1)])) (.seq (.ret (.c (.bool true))) .skip))) .skip) .skip)) (.seq (.ret (.c (.bool false))) .skip)))))
noncomputable def k11:S:=(.seq (.setI (.attr (.loc 0) 9) (.loc 1) (.bin .add (.sub (.attr (.loc 0) 9) (.loc 1)) (.attr (.loc 0) 10))) (.seq (.ite (.cmp .gt (.sub (.attr (.loc 0) 9) (.loc 1)) (.c (.int 1000000000))) (.seq (.setA (.loc 0) 9 (.dcomp [true,false] (.src (.attr (.loc 0) 9)) (.loc 2) (.bin .fdiv (.sub (.attr (.loc 0) 9) (.loc 2)) (.c (.int 1000000000))))) (.seq (.setA (.loc 0) 10 (.c (.int 1))) .skip)) .skip) .skip))
noncomputable def k12:S:=(.seq (.asgN [2,3,4,5,6] [.dict0,(.list []),(.c (.int 0)),(.bi .len [(.attr (.loc 0) 3)]),(.c (.int 0))]) (.seq (.whl (.c (.bool true)) (.seq (.for_ 7 (.src (.sub (.attr (.loc 0) 7) (.loc 1))) (.seq (.asg 8 (.bi .abs [(.loc 7)])) (.seq (.ite (.and (.cmp .ne (.loc 7) (.loc 6)) (.and (.cmp .notMem (.loc 8) (.loc 2)) (.and (.cmp .gt (.sub (.attr (.loc 0) 1) (.loc 8)) (.c (.int 0))) (.c (.bool true))))) (.seq (.setI (.loc 2) (.loc 8) (.c (.bool true))) (.seq (.ex (.callM 11 (.loc 0) [(.loc 8)])) (.seq (.ite (.cmp .eq (.sub (.attr (.loc 0) 1) (.loc 8)) (.bi .len [(.attr (.loc 0) 4)])) (.seq (.asg 4 (.bin .add (.loc 4) (.c (.int 1)))) .skip) (.seq (.ex (.bm .append (.loc 3) [(.loc 7)])) .skip)) .skip))) .skip) .skip))) (.seq (.asg 5 (.bin .sub (.loc 5) (.c (.int 1)))) (.seq (.whl (.cmp .notMem (.bi .abs [(.sub (.attr (.loc 0) 3) (.loc 5))]) (.loc 2)) (.seq (.asg 5 (.bin .sub (.loc 5) (.c (.int 1)))) .skip)) (.seq (.asgN [6,4] [(.sub (.attr (.loc 0) 3) (.loc 5)),(.bin .sub (.loc 4) (.c (.int 1)))]) (.seq (.ite (.cmp .eq (.loc 4) (.c (.int 0))) (.seq (.ret (.bin .add (.list [(.neg (.loc 6))]) (.loc 3))) .skip) .skip) (.seq (.asg 1 (.sub (.attr (.loc 0) 2) (.bi .abs [(.loc 6)]))) .skip))))))) .skip))
noncomputable def k13:S:=(.seq (.ret (.sub (.attr (.loc 0) 1) (.bi .abs [(.loc 1)]))) .skip)
noncomputable def k14:S:=(.seq (.setA (.loc 0) 14 (.bin .add (.attr (.loc 0) 14) (.c (.int 1)))) (.seq (.ite (.cmp .eq (.bi .len [(.attr (.loc 0) 4)]) (.c (.int 0))) (.seq (.ex (.callM 7 (.loc 0) [])) (.seq (.ret (.c .none)) .skip)) .skip) (.seq (.asg 2 (.callM 12 (.loc 0) [(.loc 1)])) (.seq (.ex (.bm .append (.attr (.loc 0) 11) [(.callG 0 [(.loc 2)])])) (.seq (.asg 2 (.bin .add (.slice (.loc 2) (.c .none) (.c (.int 1))) (.sortH 13 (.slice (.loc 2) (.c (.int 1)) (.c .none)) (.loc 0)))) (.seq (.ex (.callM 4 (.loc 0) [(.ite (.cmp .gt (.bi .len [(.loc 2)]) (.c (.int 1))) (.callM 13 (.loc 0) [(.sub (.loc 2) (.c (.int 1)))]) (.c (.int 0)))])) (.seq (.ex (.callM 3 (.loc 0) [(.sub (.loc 2) (.c (.int 0))),(.ite (.cmp .gt (.bi .len [(.loc 2)]) (.c (.int 1))) (.callM 8 (.loc 0) [(.loc 2)]) (.c .none))])) (.seq (.setA (.loc 0) 10 (.bin .add (.bin .add (.attr (.loc 0) 10) (.bin .fdiv (.attr (.loc 0) 10) (.c (.int 8)))) (.c (.int 1)))) .skip))))))))
noncomputable def k15:S:=(.seq (.asgN [2,3] [(.list [(.loc 1)]),(.dict1 (.bi .abs [(.loc 1)]) (.c (.bool true)))]) (.seq (.for_ 4 (.src (.rev (.attr (.loc 0) 3))) (.seq (.asg 5 (.bi .abs [(.loc 4)])) (.seq (.ite (.and (.cmp .mem (.loc 5) (.loc 3)) (.and (.cmp .gt (.sub (.attr (.loc 0) 1) (.loc 5)) (.c (.int 0))) (.c (.bool true)))) (.seq (.ite (.cmp .is (.sub (.attr (.loc 0) 2) (.loc 5)) (.c .none)) (.seq (.ex (.bm .append (.loc 2) [(.loc 4)])) .skip) (.seq (.ex (.bm .update (.loc 3) [(.dcomp [false,false,false,false,false,false,false] (.src (.sub (.attr (.loc 0) 7) (.sub (.attr (.loc 0) 2) (.loc 5)))) (.bi .abs [(.loc 7)]) (.c (.bool true)))])) .skip)) .skip) .skip) .skip))) (.seq (.setA (.loc 0) 13 (.bi .toTuple [(.loc 2)])) (.seq (.asg 6 (.callG 0 [(.lcomp [false,false,false,false,false,false,false] (.src (.loc 2)) (.c (.bool true)) (.emit (.neg (.loc 7))))])) (.seq (.ite (.cmp (.isNot ()) (.loc 6) (.c .none)) (.seq (.ex (.bm .append (.attr (.loc 0) 11) [(.loc 6)])) .skip) .skip) .skip)))))
noncomputable def k16:S:=(.seq (.asg 1 (.c (.int 0))) (.seq (.for_ 2 (.src (.attr (.loc 0) 9)) (.seq (.ite (.cmp .notMem (.loc 2) (.attr (.loc 0) 0)) (.seq (.ite (.or (.cmp .eq (.loc 1) (.c (.int 0))) (.or (.cmp .gt (.tup [(.sub (.attr (.loc 0) 9) (.loc 2)),(.neg (.loc 2))]) (.tup [(.sub (.attr (.loc 0) 9) (.loc 1)),(.neg (.loc 1))])) (.c (.bool false)))) (.seq (.asg 1 (.loc 2)) .skip) .skip) .skip) .skip) .skip)) (.seq (.ret (.loc 1)) .skip)))
noncomputable def k17:S:=(.seq (.ite (.cmp .lt (.bi .len [(.attr (.loc 0) 4)]) (.bi .len [(.loc 1)])) (.seq (.asg 2 (.sub (.loc 1) (.bi .len [(.attr (.loc 0) 4)]))) (.seq (.ite (.cmp .eq (.callM 2 (.loc 0) [(.loc 2)]) (.c (.bool false))) (.seq (.ex (.callM 15 (.loc 0) [(.loc 2)])) (.seq (.ret (.c (.bool false))) .skip)) .skip) .skip)) (.seq (.asg 3 (.callM 16 (.loc 0) [])) (.seq (.ite (.cmp .eq (.loc 3) (.c (.int 0))) (.seq (.ret (.c (.bool true))) .skip) .skip) (.seq (.asg 2 (.ite (.bm .dget2 (.attr (.loc 0) 6) [(.loc 3),(.c (.bool false))]) (.loc 3) (.neg (.loc 3)))) .skip)))) (.seq (.ex (.bm .append (.attr (.loc 0) 4) [(.bi .len [(.attr (.loc 0) 3)])])) (.seq (.ite (.cmp .is (.callM 2 (.loc 0) [(.loc 2)]) (.c .none)) (.seq (.ex (.callM 3 (.loc 0) [(.loc 2),(.c .none)])) .skip) .skip) (.seq (.ret (.c .none)) .skip))))
noncomputable def k18:S:=(.seq (.ex (.callM 4 (.loc 0) [(.c (.int 0))])) (.seq (.setA (.loc 0) 13 (.tup [])) (.seq (.for_ 2 (.src (.loc 1)) (.seq (.ex (.bm .setdef (.attr (.loc 0) 9) [(.bi .abs [(.loc 2)]),(.c (.int 0))])) .skip)) (.seq (.asgN [3,4,5,6] [(.attr (.loc 0) 14),(.attr (.loc 0) 14),(.c (.int 16)),(.c .none)]) (.seq (.whl (.and (.cmp .is (.loc 6) (.c .none)) (.and (.not (.attr (.loc 0) 12)) (.c (.bool true)))) (.seq (.asg 7 (.callM 9 (.loc 0) [])) (.seq (.ite (.cmp .ge (.loc 7) (.c (.int 0))) (.seq (.ex (.callM 14 (.loc 0) [(.loc 7)])) .skip) (.seq (.ite (.cmp2 .lt .le (.c (.int 0)) (.attr (.loc 0) 15) (.bin .sub (.attr (.loc 0) 14) (.loc 3))) (.seq (.rse (.attr (.loc 0) 15)) .skip) (.seq (.ite (.cmp .ge (.bin .sub (.attr (.loc 0) 14) (.loc 4)) (.loc 5)) (.seq (.asgN [4,5] [(.attr (.loc 0) 14),(.bin .add (.loc 5) (.bin .fdiv (.loc 5) (.c (.int 2))))]) (.seq (.ex (.callM 4 (.loc 0) [(.c (.int 0))])) .skip)) (.seq (.asg 6 (.callM 17 (.loc 0) [(.loc 1)])) .skip)) .skip)) .skip)) .skip))) (.seq (.ret (.cmp .eq (.loc 6) (.c (.bool true)))) .skip))))))
noncomputable def k19:S:=(.seq (.ret (.bm .dget2 (.attr (.loc 0) 0) [(.loc 1),(.c (.bool false))])) .skip)
noncomputable def k20:S:=(.seq (.ret (.attr (.loc 0) 13)) .skip)
noncomputable def k21:S:=(.seq (.asgN [2,3] [(.sub (.loc 0) (.c (.str 16))),(.sub (.loc 0) (.c (.str 17)))]) (.seq (.setI (.loc 0) (.c (.str 17)) (.bin .add (.loc 3) (.c (.int 1)))) (.seq (.ret (.bin .mod (.bin .add (.sub (.loc 2) (.bin .mod (.loc 3) (.bi .len [(.loc 2)]))) (.bin .mul (.bin .fdiv (.loc 3) (.bi .len [(.loc 2)])) (.bin .add (.bin .mul (.c (.int 2)) (.loc 3)) (.c (.int 1))))) (.loc 1))) .skip)))
noncomputable def k22:S:=(.seq (.asg 3 (.list [])) (.seq (.for_ 4 (.rng (.c (.int 0)) (.loc 2)) (.seq (.asg 5 (.bin .add (.c (.int 1)) (.callG 21 [(.loc 0),(.loc 1)]))) (.seq (.ex (.bm .append (.loc 3) [(.ite (.cmp .eq (.callG 21 [(.loc 0),(.c (.int 2))]) (.c (.int 0))) (.loc 5) (.bin .sub (.c (.int 0)) (.loc 5)))])) .skip))) (.seq (.ret (.loc 3)) .skip)))
noncomputable def k23:S:=(.seq (.ret (.cmp .ne (.lcomp [true,false] (.src (.loc 1)) (.cmp .eq (.sub (.loc 0) (.bin .sub (.bi .abs [(.loc 2)]) (.c (.int 1)))) (.cmp .gt (.loc 2) (.c (.int 0)))) (.emit (.loc 2))) (.list []))) .skip)
noncomputable def k24:S:=(.seq (.asg 2 (.list [(.tup [])])) (.seq (.for_ 3 (.rng (.c (.int 0)) (.loc 0)) (.seq (.asg 2 (.bin .add (.lcomp [false,false,false,false,false] (.src (.loc 2)) (.c (.bool true)) (.emit (.bin .add (.loc 5) (.tup [(.c (.bool false))])))) (.lcomp [false,false,false,false,false] (.src (.loc 2)) (.c (.bool true)) (.emit (.bin .add (.loc 5) (.tup [(.c (.bool true))])))))) .skip)) (.seq (.for_ 4 (.src (.loc 1)) (.seq (.asg 2 (.lcomp [false,false,false,false,true] (.src (.loc 2)) (.callG 23 [(.loc 5),(.loc 4)]) (.emit (.loc 5)))) .skip)) (.seq (.ret (.loc 2)) .skip))))
noncomputable def k25:S:=(.seq (.asg 4 (.lcomp [false,false,false,true,false,false,false] (.src (.loc 2)) (.cmp .eq (.lcomp [false,false,false,false,false,false,false,true] (.src (.loc 3)) (.not (.callG 23 [(.loc 7),(.list [(.loc 8)])])) (.emit (.loc 8))) (.list [])) (.emit (.loc 7)))) (.seq (.asg 5 (.callM 18 (.loc 0) [(.bi .toList [(.loc 3)])])) (.seq (.ite (.or (.not (.bi (.isBool ()) [(.loc 5)])) (.or (.cmp .ne (.loc 5) (.cmp .ne (.loc 4) (.list []))) (.c (.bool false)))) (.seq (.ret (.c (.bool false))) .skip) .skip) (.seq (.ite (.loc 5) (.seq (.ret (.cmp .mem (.bi .toTuple [(.lcomp [true,false,false,false,false,false,false] (.rng (.c (.int 1)) (.bin .add (.loc 1) (.c (.int 1)))) (.c (.bool true)) (.emit (.callM 19 (.loc 0) [(.loc 7)])))]) (.loc 4))) .skip) .skip) (.seq (.asg 6 (.callM 20 (.loc 0) [])) (.seq (.ite (.cmp .ne (.lcomp [false,false,false,true,false,false,false] (.src (.loc 6)) (.cmp .notMem (.loc 7) (.loc 3)) (.emit (.loc 7))) (.list [])) (.seq (.ret (.c (.bool false))) .skip) .skip) (.seq (.ret (.cmp .eq (.lcomp [false,false,false,false,false,false,true] (.src (.loc 2)) (.cmp .eq (.lcomp [false,false,false,false,false,false,false,true] (.src (.loc 6)) (.not (.callG 23 [(.loc 7),(.list [(.loc 8)])])) (.emit (.loc 8))) (.list [])) (.emit (.loc 7))) (.list []))) .skip)))))))
noncomputable def k26:S:=(.seq (.asg 1 (.dictS [16,17] [(.bin .add (.lcomp [false,false,false,false,false,false,false,false,false,false] (.src (.slice (.loc 0) (.c .none) (.c (.int 60)))) (.c (.bool true)) (.emit (.bin .mod (.bi .abs [(.loc 10)]) (.c (.int 1000003))))) (.bin .mul (.list [(.c (.int 0))]) (.bi .toInt [(.cmp .eq (.loc 0) (.list []))]))),(.c (.int 0))])) (.seq (.asg 2 (.bin .add (.c (.int 2)) (.callG 21 [(.loc 1),(.c (.int 4))]))) (.seq (.asg 3 (.list [])) (.seq (.for_ 4 (.rng (.c (.int 0)) (.bin .add (.c (.int 2)) (.callG 21 [(.loc 1),(.c (.int 8))]))) (.seq (.asg 5 (.bin .add (.c (.int 1)) (.callG 21 [(.loc 1),(.c (.int 3))]))) (.seq (.ex (.bm .append (.loc 3) [(.bi .toTuple [(.callG 22 [(.loc 1),(.loc 2),(.loc 5)])])])) .skip))) (.seq (.asgN [6,7] [(.new 5 [(.bi .toList [(.loc 3)]),(.loc 2)]),(.c (.int 0))]) (.seq (.for_ 4 (.rng (.c (.int 0)) (.c (.int 3))) (.seq (.asgN [8,5] [(.callG 24 [(.loc 2),(.loc 3)]),(.callG 21 [(.loc 1),(.c (.int 4))])]) (.seq (.asg 9 (.callG 22 [(.loc 1),(.loc 2),(.loc 5)])) (.seq (.limC (.cmp .eq (.callG 21 [(.loc 1),(.c (.int 5))]) (.c (.int 4))) [(.loc 6),(.loc 9)] (.seq (.ret (.c (.bool false))) .skip) .skip) (.seq (.ite (.not (.callG 25 [(.loc 6),(.loc 2),(.loc 8),(.loc 9)])) (.seq (.ret (.c (.bool false))) .skip) .skip) (.seq (.ite (.cmp .ne (.lcomp [false,false,false,false,false,false,false,false,true,false] (.src (.slice (.attr (.loc 6) 11) (.loc 7) (.c .none))) (.c (.bool true)) (.cfor (.src (.loc 8)) (.not (.callG 23 [(.loc 11),(.loc 10)])) (.emit (.loc 11)))) (.list [])) (.seq (.ret (.c (.bool false))) .skip) .skip) (.seq (.asg 5 (.bin .add (.c (.int 1)) (.callG 21 [(.loc 1),(.c (.int 3))]))) (.seq (.ex (.bm .append (.loc 3) [(.bi .toTuple [(.callG 22 [(.loc 1),(.loc 2),(.loc 5)])])])) (.seq (.ite (.and (.not (.callM 6 (.loc 6) [(.sub (.loc 3) (.neg (.c (.int 1))))])) (.and (.cmp .ne (.callG 24 [(.loc 2),(.loc 3)]) (.list [])) (.c (.bool true)))) (.seq (.ret (.c (.bool false))) .skip) .skip) (.seq (.asg 7 (.bi .len [(.attr (.loc 6) 11)])) .skip)))))))))) (.seq (.ret (.c (.bool true))) .skip)))))))
noncomputable def tabL:List Fa:=[⟨1,3,k0⟩,⟨1,1,k1⟩,⟨2,3,k2⟩,⟨3,4,k3⟩,⟨2,3,k4⟩,⟨3,4,k5⟩,⟨2,5,k6⟩,⟨1,1,k7⟩,⟨2,3,k8⟩,⟨1,6,k9⟩,⟨3,5,k10⟩,⟨2,2,k11⟩,⟨2,9,k12⟩,⟨2,2,k13⟩,⟨2,3,k14⟩,⟨2,7,k15⟩,⟨1,3,k16⟩,⟨2,4,k17⟩,⟨2,8,k18⟩,⟨2,2,k19⟩,⟨1,1,k20⟩,⟨2,4,k21⟩,⟨3,6,k22⟩,⟨2,2,k23⟩,⟨2,5,k24⟩,⟨4,7,k25⟩,⟨1,10,k26⟩]
noncomputable def negV(v:V):Option V:=v.i?.map fun i=> .int (-i)
noncomputable def notV(v:V):Option V:=v.b?.map fun b=> .bool (!b)
noncomputable def binV(op:Op)(v w:V):Option V:=v.i?.bind fun a=>w.i?.bind fun b=>(intBin op a b).map .int
noncomputable def lenV(H:AH)(v:V):Option V:=v.r?.bind fun a=>(H.see a).bind fun o=>o.n?.map fun (n:Nat)=> .int n
noncomputable def bi1V(H:AH)(f:B)(v:V):Option V:=match f with
 | .abs=>v.i?.map fun i=> .int i.natAbs
 | .len=>lenV H v
 | .toInt=>v.i?.map .int
 |_=>none
noncomputable def biV(H:AH)(f:B):List V→Option V
 |[v]=>bi1V H f v
 |_=>none
noncomputable def dgetV(H:AH)(d v k:V):Option V:=v.r?.bind fun a=>k.i?.bind fun i=>(H.see a).bind fun o=>o.d?.map fun es=>(get es i).getD d
noncomputable def bm1V(H:AH)(o:V)(f:B)(k:V):Option V:=match f with
 | .dget1=>dgetV H .none o k
 |_=>none
noncomputable def bm2V(H:AH)(o:V)(f:B)(k d:V):Option V:=match f with
 | .dget2=>dgetV H d o k
 |_=>none
noncomputable def bmV(H:AH)(o:V)(f:B):List V→Option V
 |[k]=>bm1V H o f k
 |[k,d]=>bm2V H o f k d
 |_=>none
mutual
noncomputable def X.pv(m:List V)(H:AH):X→Option V
 | .c v=>some v
 | .loc i=>(m[i]?).bind nun
 | .attr x f=>(x.pv m H).bind fun v=>attrV H v f
 | .neg x=>(x.pv m H).bind negV
 | .not x=>(x.pv m H).bind notV
 | .bin op l r=>(l.pv m H).bind fun v=>(r.pv m H).bind fun w=>binV op v w
 | .cmp op l r=>(l.pv m H).bind fun v=>(r.pv m H).bind fun w=>(cmpV H op v w).map .bool
 | .sub x i=>(x.pv m H).bind fun v=>(i.pv m H).bind fun k=>subV H v k
 | .bi f xs=>(X.pvs m H xs).bind (biV H f)
 | .bm f o xs=>(o.pv m H).bind fun v=>(X.pvs m H xs).bind (bmV H v f)
 | .ite c0 a b=>((c0.pv m H).bind V.b?).bind fun t=>bif t then a.pv m H else b.pv m H
 | .and l r=>((l.pv m H).bind V.b?).bind fun t=>bif t then ((r.pv m H).bind V.b?).map .bool else some (.bool false)
 | .or l r=>((l.pv m H).bind V.b?).bind fun t=>bif t then some (.bool true) else ((r.pv m H).bind V.b?).map .bool
 |_=>none
noncomputable def X.pvs(m:List V)(H:AH):List X→Option (List V)
 |[]=>some []
 |x::xs=>(x.pv m H).bind fun v=>(X.pvs m H xs).map (v::·)
end
section
variable{sp:Sp}{m:List V}{H:AH}
theorem pvT{T F:AH→Prop}(h:T H):(X.c (.bool true)).ev sp m H fun v H=>ifB v (T H) (F H):=h
theorem bd{α β:Type}{o:Option α}{f:α→Option β}{z:β}(h:o.bind f=some z):BB o f z:=zd h
theorem bi1_ok{f:B}{w v:V}{Q:V→AH→Prop}(h:bi1V H f w=some v)(q:Q v H):bi1 f w H Q:=by
 cases f with
 |abs=>obtain ⟨i,e,rfl⟩:=wj h;exact zg e q
 |toInt=>obtain ⟨i,e,rfl⟩:=wj h;exact zg (V.z_i e) q
 |len=>
  obtain ⟨a,e,h⟩:=zd h
  obtain ⟨o,e',h⟩:=zd h
  obtain ⟨n,e2,rfl⟩:=wj h
  exact zg e (zg e' (zg e2 q))
 |_=>exact nsm h
theorem bi_ok{f:B}{vs:List V}{v:V}{Q:V→AH→Prop}(h:biV H f vs=some v)(q:Q v H):biW f vs H Q:=match vs,h with
 |[],h=>nsm h
 |[_],h=>bi1_ok h q
 |_::_::_,h=>nsm h
inductive Dg(H:AH)(d w k v:V):Prop
 |mk (a:Addr) (es:List (Int×V)) (i:Int) (e1:w= .ref a) (e2:k= .int i) (e3:H.see a=some (.dct es)) (e4:(get es i).getD d=v)
theorem dgetV_eq{d w k v:V}(h:dgetV H d w k=some v):Dg H d w k v:=by
 obtain ⟨a,e,h⟩:=zd h
 obtain ⟨i,e',h⟩:=zd h
 obtain ⟨o,e2,h⟩:=zd h
 obtain ⟨es,e3,h⟩:=wj h
 exact ⟨a,es,i,V.r_eq e,V.i_eq e',by rw [e2,O.d_eq e3],h⟩
inductive Bm(H:AH)(f:B)(w v:V)(vs:List V):Prop
 |mk (a:Addr) (es:List (Int×V)) (e1:w= .ref a) (e3:H.see a=some (.dct es)) (hf:f.onDict=true) (k:∀{Q:V→AH→Prop},Q v H→biW f (w::vs) H Q)
theorem dg_ok{d w k v:V}{Q:V→AH→Prop}(h:Dg H d w k v)(q:Q v H):dgetW H w k d Q:=by
 obtain ⟨a,es,i,rfl,rfl,ha,rfl⟩:=h
 show ifS (H.see a) _
 exact ifD_mk ha q
theorem bm1_ok{f:B}{w k v:V}(h:bm1V H w f k=some v):Bm H f w v [k]:=by
 cases f with
 |dget1=>have g:=dgetV_eq h;obtain ⟨a,es,i,e1,e2,e3,e4⟩:=g;exact ⟨a,es,e1,e3,rfl,fun q=>dg_ok ⟨a,es,i,e1,e2,e3,e4⟩ q⟩
 |_=>exact nsm h
theorem bm2_ok{f:B}{w k d v:V}(h:bm2V H w f k d=some v):Bm H f w v [k,d]:=by
 cases f with
 |dget2=>have g:=dgetV_eq h;obtain ⟨a,es,i,e1,e2,e3,e4⟩:=g;exact ⟨a,es,e1,e3,rfl,fun q=>dg_ok ⟨a,es,i,e1,e2,e3,e4⟩ q⟩
 |_=>exact nsm h
theorem bm_ok{f:B}{w v:V}{vs:List V}(h:bmV H w f vs=some v):Bm H f w v vs:=match vs,h with
 |[],h=>nsm h
 |[_],h=>bm1_ok h
 |[_,_],h=>bm2_ok h
 |_::_::_::_,h=>nsm h
noncomputable def PvOk(sp:Sp)(m:List V)(H:AH)(x:X):Prop:=∀(v:V) (Q:V→AH→Prop),x.pv m H=some v→Q v H→x.ev sp m H Q
noncomputable def PvsOk(sp:Sp)(m:List V)(H:AH)(xs:List X):Prop:=∀(vs:List V) (Q:List V→AH→Prop),X.pvs m H xs=some vs→Q vs H→X.evs sp xs m H Q
theorem pvNo{x:X}(e:x.pv m H=none):PvOk sp m H x:=fun _ _ h _=>nsm (e.symm.trans h)
theorem pvN:PvsOk sp m H []:=fun _ _ h q=>by cases h;exact q
theorem pvC{x:X}{xs:List X}(h1:PvOk sp m H x)(h2:PvsOk sp m H xs):PvsOk sp m H (x::xs):=fun vs Q h q=>by
 obtain ⟨w,e1,e2⟩:=bd h
 obtain ⟨ws,e3,rfl⟩:=wj e2
 exact h1 _ _ e1 (h2 _ _ e3 q)
theorem pvX(x:X):PvOk sp m H x:=by
 induction x using X.rec (motive_2:=PvsOk sp m H) with
 |c v=>exact fun w Q h q=>Option.some.inj h▸q
 |loc i=>exact fun w Q h q=>zg h q
 |attr x f i1=>
  intro v Q h q
  obtain ⟨w,h1,h2⟩:=bd h
  exact i1 _ _ h1 (zg h2 q)
 |neg x i1=>
  intro v Q h q
  obtain ⟨w,h1,h2⟩:=bd h
  obtain ⟨i,e,rfl⟩:=wj h2
  exact i1 _ _ h1 (zg e q)
 |not x i1=>
  intro v Q h q
  obtain ⟨w,h1,h2⟩:=bd h
  obtain ⟨i,e,rfl⟩:=wj h2
  exact i1 _ _ h1 (zg e q)
 |bin op l r i1 i2=>
  intro v Q h q
  obtain ⟨w,h1,h2⟩:=bd h
  obtain ⟨u,h3,h4⟩:=bd h2
  obtain ⟨a,e,h5⟩:=zd h4
  obtain ⟨b,e',h6⟩:=zd h5
  obtain ⟨z,h7,rfl⟩:=wj h6
  refine i1 _ _ h1 (i2 _ _ h3 ?_)
  rw [V.i_eq e,V.i_eq e']
  exact zg (o:=intBin op a b) h7 q
 |cmp op l r i1 i2=>
  intro v Q h q
  obtain ⟨w,h1,h2⟩:=bd h
  obtain ⟨u,h3,h4⟩:=bd h2
  obtain ⟨z,h5,rfl⟩:=wj h4
  exact i1 _ _ h1 (i2 _ _ h3 (zg h5 q))
 |sub x i i1 i2=>
  intro v Q h q
  obtain ⟨w,h1,h2⟩:=bd h
  obtain ⟨u,h3,h4⟩:=bd h2
  exact i1 _ _ h1 (i2 _ _ h3 (zg h4 q))
 |bi f xs i1=>
  intro v Q h q
  obtain ⟨vs,h1,h2⟩:=bd h
  exact i1 _ _ h1 (bi_ok h2 q)
 |bm f o xs i1 i2=>
  intro v Q h q
  obtain ⟨w,h1,h2⟩:=bd h
  obtain ⟨vs,h3,h4⟩:=bd h2
  obtain ⟨a,es,e,ha,hf,hb⟩:=bm_ok h4
  exact i1 _ _ h1 (zg (show w.r?=some a from e▸rfl) (zg ha ⟨hf,i2 _ _ h3 (hb q)⟩))
 |ite c a b i1 i2 i3=>
  intro v Q h q
  obtain ⟨t,h1,h2⟩:=bd h
  obtain ⟨w,h3,h4⟩:=bd h1
  refine i1 _ _ h3 (zg h4 ?_)
  cases t
  ·exact i3 _ _ h2 q
  ·exact i2 _ _ h2 q
 |and l r i1 i2=>
  intro v Q h q
  obtain ⟨t,h1,h2⟩:=bd h
  obtain ⟨w,h3,h4⟩:=bd h1
  refine i1 _ _ h3 (zg h4 ?_)
  cases t
  ·cases h2;exact q
  ·obtain ⟨b,h5,rfl⟩:=wj h2
   obtain ⟨u,h6,h7⟩:=bd h5
   exact i2 _ _ h6 (zg h7 q)
 |or l r i1 i2=>
  intro v Q h q
  obtain ⟨t,h1,h2⟩:=bd h
  obtain ⟨w,h3,h4⟩:=bd h1
  refine i1 _ _ h3 (zg h4 ?_)
  cases t
  ·obtain ⟨b,h5,rfl⟩:=wj h2
   obtain ⟨u,h6,h7⟩:=bd h5
   exact i2 _ _ h6 (zg h7 q)
  ·cases h2;exact q
 |nil=>exact pvN
 |cons x xs i1 i2=>exact pvC i1 i2
 |_=>exact pvNo rfl
theorem zw(x:X)(v:V)(Q:V→AH→Prop)(h:x.pv m H=some v)(q:Q v H):x.ev sp m H Q:=pvX x v Q h q
theorem pvs_ok:∀xs:List X,PvsOk sp m H xs
 |[]=>pvN
 |x::xs=>pvC (pvX x) (pvs_ok xs)
end
end Mine
end
section
open PySem PySem.W
set_option tactic.hygienic false
namespace Mine
structure St where
 kn:List (Int×V)
 he:List (Int×V)
 ca:List (Int×V)
 ro:List Int
 be:List Nat
 seen:Nat
 li:List (Int×V)
 rows:List (List Int)
 wks:List Int
 wat:Int→List Nat
 ht:List (Int×V)
 gain:Int
 lg:List (List Int)
 ref:Bool
 bl:List Int
 cl:Nat
 lim:Int
inductive Ro where|ins|att|kn|he|ca|ro|be|li|rs|wa|ht|lg|bl|cl(i:Nat)|wt(l:Int)|le(i:Nat)
 deriving DecidableEq
noncomputable def use(s:St):Ro→Prop
 | .cl i=>i<s.rows.length
 | .wt l=>l∈s.wks
 | .le i=>i<s.lg.length
 |_=>True
noncomputable def zs(l:List Int):List V:=l.map .int
noncomputable def nz(l:List Nat):List V:=l.map fun (n:Nat)=> .int n
noncomputable def attL(lay:Ro→Addr)(s:St):List (Nat×V):=
 [(0,.ref (lay .kn)),(1,.ref (lay .he)),(2,.ref (lay .ca)),(3,.ref (lay .ro)),(4,.ref (lay .be)),(5,.int s.seen),(6,.ref (lay .li)),(7,.ref (lay .rs)),(8,.ref (lay .wa)),(9,.ref (lay .ht)),
 (10,.int s.gain),(11,.ref (lay .lg)),(12,.bool s.ref),(13,.ref (lay .bl)),(14,.int s.cl),(15,.int s.lim)]
noncomputable def refs(n:Nat)(f:Nat→Addr):List V:=(List.range n).map fun i=> .ref (f i)
noncomputable def wkD(lay:Ro→Addr)(ks:List Int):List (Int×V):=ks.map fun l=>(l,.ref (lay (.wt l)))
noncomputable def cont(lay:Ro→Addr)(s:St):Ro→O
 | .ins=> .inst (lay .att)
 | .att=> .att (attL lay s)
 | .kn=> .dct s.kn
 | .he=> .dct s.he
 | .ca=> .dct s.ca
 | .ro=> .lst (zs s.ro)
 | .be=> .lst (nz s.be)
 | .li=> .dct s.li
 | .rs=> .lst (refs s.rows.length fun i=>lay (.cl i))
 | .wa=> .dct (wkD lay s.wks)
 | .ht=> .dct s.ht
 | .lg=> .lst (refs s.lg.length fun i=>lay (.le i))
 | .bl=> .tup (zs s.bl)
 | .cl i=> .lst (zs (s.rows.getD i []))
 | .wt l=> .lst (nz (s.wat l))
 | .le i=> .tup (zs (s.lg.getD i []))
structure Sol(H:AH)(lay:Ro→Addr)(s:St):Prop where
 at_:∀r,use s r→H (lay r)=some (cont lay s r)
 inj:∀r r',use s r→use s r'→lay r=lay r'→r=r'
theorem zx{H:AH}{a:Addr}{x:O}:H.set a x a=some x:=if_pos rfl
theorem zu{H:AH}{a b:Addr}{x:O}(h:b≠a):H.set a x b=H b:=if_neg h
theorem set_set{H:AH}{a:Addr}{x y:O}:(H.set a x).set a y=H.set a y:=by
 funext b
 unfold AH.set
 by_cases h:b=a<;>simp [h]
theorem wq{H:AH}{a:Addr}{l:List V}(h:H a=some (.lst l)):H.see a=some (.lst l):=congrArg (Option.map O.un) h
theorem see_tup{H:AH}{a:Addr}{l:List V}(h:H a=some (.tup l)):H.see a=some (.tup l):=congrArg (Option.map O.un) h
theorem see_dct{H:AH}{a:Addr}{l:List (Int×V)}(h:H a=some (.dct l)):H.see a=some (.dct l):=congrArg (Option.map O.un) h
theorem see_att{H:AH}{a:Addr}{l:List (Nat×V)}(h:H a=some (.att l)):H.see a=some (.att l):=congrArg (Option.map O.un) h
theorem see_froz{H:AH}{a:Addr}{x:O}{o:Obj}(h:H a=some (.froz x o)):H.see a=some x:=congrArg (Option.map O.un) h
noncomputable def up(lay:Ro→Addr)(r:Ro)(x:Addr):Ro→Addr:=fun q=>if q=r then x else lay q
theorem up_eq{lay:Ro→Addr}{r:Ro}{x:Addr}:up lay r x r=x:=if_pos rfl
theorem up_ne{lay:Ro→Addr}{r q:Ro}{x:Addr}(h:q≠r):up lay r x q=lay q:=if_neg h
noncomputable def fp(lay:Ro→Addr)(s:St)(x:Addr):Prop:=∃r,use s r∧lay r=x
noncomputable def fixd:Ro→Bool
 | .be=>false
 | .bl=>false
 | .ht=>false
 | .wt _=>false
 |_=>true
structure Fr(H:AH)(lay:Ro→Addr)(s:St)(H':AH)(lay':Ro→Addr)(s':St):Prop where
 keep:∀x o,H x=some o→¬fp lay s x→H' x=some o
 new:∀x,fp lay' s' x→fp lay s x∨H x=none
 fix:∀q,fixd q=true→use s q→use s' q∧lay' q=lay q
section
variable{H H' H'':AH}{lay lay' lay'':Ro→Addr}{s s' s'':St}
theorem Fr.refl:Fr H lay s H lay s:=⟨fun _ _ h _=>h,fun _ h=> .inl h,fun _ _ u=>⟨u,rfl⟩⟩
theorem Fr.ins(F:Fr H lay s H' lay' s'):lay' .ins=lay .ins:=(F.fix .ins rfl trivial).2
theorem Fr.trans(F:Fr H lay s H' lay' s')(G:Fr H' lay' s' H'' lay'' s''):Fr H lay s H'' lay'' s'':=by
 refine ⟨fun x o h n=>G.keep x o (F.keep x o h n) fun q=>?_,fun x q=>?_,fun q f u=>⟨(G.fix q f (F.fix q f u).1).1,(G.fix q f (F.fix q f u).1).2.trans (F.fix q f u).2⟩⟩
 ·rcases F.new x q with q|q
  ·exact n q
  ·rw [h] at q;cases q
 ·rcases G.new x q with q|q
  ·exact F.new x q
  ·by_cases n:fp lay s x
   ·exact .inl n
   ·generalize h:H x=zq;induction zq with
    |none=>exact .inr rfl
    |some o=>rw [F.keep x o h n] at q;cases q
theorem Sol.ne(S:Sol H lay s){x:Addr}(h:H x=none){r:Ro}(u:use s r):lay r≠x:=by
 rintro rfl
 rw [S.at_ r u] at h;cases h
theorem Sol.nfp(S:Sol H lay s){x:Addr}(h:H x=none):¬fp lay s x:=fun ⟨r,u,e⟩=>S.ne h u e
theorem Sol.frame(S:Sol H lay s)(h:∀r,use s r→H' (lay r)=H (lay r)):Sol H' lay s:=⟨fun r u=>(h r u).trans (S.at_ r u),S.inj⟩
theorem Sol.out(S:Sol H lay s)(F:Fr H lay s H' lay' s'){x:Addr}{o:O}(h:H x=some o)(n:¬fp lay s x):H' x=some o∧¬fp lay' s' x:=by
 refine ⟨F.keep x o h n,fun q=>?_⟩
 rcases F.new x q with q|q
 ·exact n q
 ·rw [h] at q;cases q
theorem Sol.junk(S:Sol H lay s){x:Addr}{o:O}(h:H x=none):Sol (H.set x o) lay s:=S.frame fun r u=>zu (S.ne h u)
theorem Fr.junk{x:Addr}{o:O}(h:H x=none):Fr H lay s (H.set x o) lay s:=
 ⟨fun y q e _=>(zu (by rintro rfl;rw [h] at e;cases e)).trans e,fun _ h=> .inl h,fun _ _ u=>⟨u,rfl⟩⟩
theorem Sol.side(S:Sol H lay s){x:Addr}{o:O}(h:¬fp lay s x):Sol (H.set x o) lay s:=S.frame fun r u=>zu fun e=>h ⟨r,u,e⟩
theorem Sol.upd(S:Sol H lay s)(r:Ro)(s':St)(hr:use s r)(hu:∀q,use s' q→use s q)(hc:∀q,q≠r→cont lay s' q=cont lay s q):Sol (H.set (lay r) (cont lay s' r)) lay s':=by
 refine ⟨fun q u=>?_,fun q q' u u' e=>S.inj q q' (hu q u) (hu q' u') e⟩
 by_cases h:q=r
 ·subst h;exact zx
 ·rw [zu fun e=>h (S.inj _ _ (hu q u) hr e),hc q h]
  exact S.at_ q (hu q u)
theorem Fr.upd(r:Ro)(s':St){o:O}(hr:use s r)(hu:∀q,use s' q→use s q)(hf:∀q,fixd q=true→use s q→use s' q):Fr H lay s (H.set (lay r) o) lay s':=
 ⟨fun x o e n=>(zu fun q=>n ⟨r,hr,q.symm⟩).trans e,fun x ⟨q,u,e⟩=> .inl ⟨q,hu q u,e⟩,fun q f u=>⟨hf q f u,rfl⟩⟩
theorem Sol.reb(S:Sol H lay s)(x:Addr)(r p:Ro)(s':St)(hx:H x=none)(hp:use s p)(hpr:p≠r)(hi:r≠ .ins)(hu:∀q,q≠r→use s' q→use s q)(hc:∀q,q≠r→q≠p→cont (up lay r x) s' q=cont lay s q):
  Sol ((H.set x (cont (up lay r x) s' r)).set (lay p) (cont (up lay r x) s' p)) (up lay r x) s':=by
 have hxp:lay p≠x:=S.ne hx hp
 refine ⟨fun q u=>?_,fun q q' u u' e=>?_⟩
 ·by_cases h:q=r
  ·subst h
   rw [up_eq,zu hxp.symm];exact zx
  ·rw [up_ne h]
   by_cases h':q=p
   ·subst h';exact zx
   ·rw [zu fun e=>h' (S.inj _ _ (hu q h u) hp e),zu (S.ne hx (hu q h u)),hc q h h']
    exact S.at_ q (hu q h u)
 ·by_cases h:q=r
  ·by_cases h':q'=r
   ·rw [h,h']
   ·subst h
    rw [up_eq,up_ne h'] at e
    exact absurd e.symm (S.ne hx (hu q' h' u'))
  ·by_cases h':q'=r
   ·subst h'
    rw [up_eq,up_ne h] at e
    exact absurd e (S.ne hx (hu q h u))
   ·rw [up_ne h,up_ne h'] at e
    exact S.inj q q' (hu q h u) (hu q' h' u') e
theorem Fr.reb(S:Sol H lay s)(x:Addr)(r p:Ro)(s':St){o o':O}(hx:H x=none)(hp:use s p)(hi:fixd r=true→¬use s r)(hu:∀q,q≠r→use s' q→use s q)(hf:∀q,fixd q=true→use s q→use s' q):Fr H lay s ((H.set x o).set (lay p) o') (up lay r x) s':=by
 refine ⟨fun y o e n=>?_,fun y ⟨q,u,e⟩=>?_,fun q f u=>⟨hf q f u,up_ne fun e=>hi (e▸f) (e▸u)⟩⟩
 ·rw [zu fun q=>n ⟨p,hp,q.symm⟩,zu (by rintro rfl;rw [hx] at e;cases e)];exact e
 ·by_cases h:q=r
  ·subst h
   rw [up_eq] at e
   exact .inr (e▸hx)
  ·rw [up_ne h] at e
   exact .inl ⟨q,hu q h u,e⟩
end
theorem attr_of{H:AH}{a d:Addr}{es:List (Nat×V)}{k:Nat}{v:V}(h1:H a=some (.inst d))(h2:H d=some (.att es))(h3:get es k=some v)(h4:nun v=some v):attrV H (.ref a) k=some v:=bindM (insV_mk h1 h2) (bindM h3 h4)
section
variable{H:AH}{lay:Ro→Addr}{s:St}{a:Addr}
theorem Sol.a_(S:Sol H lay s)(ha:lay .ins=a){k:Nat}{v:V}(h3:get (attL lay s) k=some v)(h4:nun v=some v):attrV H (.ref a) k=some v:=
 attr_of (ha▸S.at_ .ins trivial) (S.at_ .att trivial) h3 h4
end
section
variable{sp:Sp}{m:List V}{H:AH}{Q:List V→AH→Prop}{R:V→AH→Prop}
theorem zj{s t:S}(h:s.wp sp m H (fun m H=>t.wp sp m H Q R) R):(S.seq s t).wp sp m H Q R:=h
theorem vj{i:Nat}{x:X}(h:x.ev sp m H fun v H=>Q (m.set i v) H):(S.asg i x).wp sp m H Q R:=h
theorem s_ret{x:X}(h:x.ev sp m H (rt R)):(S.ret x).wp sp m H Q R:=h
theorem s_ex{x:X}(h:x.ev sp m H fun _ H=>Q m H):(S.ex x).wp sp m H Q R:=h
theorem zy(h:Q m H):S.skip.wp sp m H Q R:=h
theorem s_ite{c:X}{s t:S}{b:Bool}(h:c.pv m H=some (.bool b))(h1:b=true→s.wp sp m H Q R)(h2:b=false→t.wp sp m H Q R):(S.ite c s t).wp sp m H Q R:=by
 refine zw c _ _ h (zg (o:=(V.bool b).b?) rfl ?_)
 induction b
 ·exact h2 rfl
 ·exact h1 rfl
theorem s_whl{c:X}{s:S}(I:Nat→List V→AH→Prop)(n:Nat)(h:I n m H)(h':∀n m H,I n m H→c.ev sp m H fun v H=>ifB v (s.wp sp m H (fun m H=>∃k,k<n∧I k m H) R) (Q m H)):(S.whl c s).wp sp m H Q R:=⟨I,n,h,h'⟩
end
theorem sp_go{tab:List Fa}{n g:Nat}{f:Fa}{vs:List V}{H:AH}{Q:V→AH→Prop}(hf:tab[g]?=some f)(hl:vs.length=f.np)(h:f.code.wp (spN tab n) (vs++List.replicate (f.ns-f.np) .un) H (fun _ H=>Q .none H) (rt Q)):spN tab (n+1) g vs H Q:=by
 rw [spN_s hf]
 exact ⟨hl,h⟩
theorem pvb{α β:Type}{o:Option α}{f:α→Option β}{x:α}{z:β}(h:o=some x)(h':f x=some z):o.bind f=some z:=by rw [h];exact h'
theorem pcm{o:Option Bool}{b:Bool}(h:o=some b):o.map V.bool=some (.bool b):=by rw [h];rfl
section
variable{H:AH}{a:Addr}{l:List V}{es:List (Int×V)}
theorem dg{d:V}{k:Int}(h:H a=some (.dct es)):dgetV H d (.ref a) (.int k)=some ((get es k).getD d):=by show (H.see a).bind _=_;rw [see_dct h];rfl
theorem ln_l(h:H a=some (.lst l)):lenV H (.ref a)=some (.int l.length):=by show (H.see a).bind _=_;rw [wq h];rfl
theorem sb_l{n:Int}{v:V}(h:H a=some (.lst l))(e:idx l n=some v):subV H (.ref a) (.int n)=some v:=bindM (x:=a) rfl (bindM (wq h) e)
theorem sb_t{n:Int}{v:V}(h:H a=some (.tup l))(e:idx l n=some v):subV H (.ref a) (.int n)=some v:=bindM (x:=a) rfl (bindM (see_tup h) e)
theorem sb_d{n:Int}{v:V}(h:H a=some (.dct es))(e:get es n=some v):subV H (.ref a) (.int n)=some v:=bindM (x:=a) rfl (bindM (see_dct h) e)
theorem idx_nat{n:Nat}{v:V}(e:l[n]?=some v):idx l (n:Int)=some v:=by
 unfold idx;rw [if_pos (Int.natCast_nonneg n),Int.toNat_natCast];exact e
theorem zs_get{l:List Int}{n:Nat}{x:Int}(e:l[n]?=some x):(zs l)[n]?=some (.int x):=by unfold zs;rw [List.getElem?_map,e];rfl
theorem nz_get{l:List Nat}{n x:Nat}(e:l[n]?=some x):(nz l)[n]?=some (.int x):=by unfold nz;rw [List.getElem?_map,e];rfl
theorem wd{l:List Int}:(zs l).length=l.length:=List.length_map ..
theorem nz_len{l:List Nat}:(nz l).length=l.length:=List.length_map ..
theorem refs_len{n:Nat}{f:Nat→Addr}:(refs n f).length=n:=by unfold refs;simp
theorem refs_get{n i:Nat}{f:Nat→Addr}(h:i<n):(refs n f)[i]?=some (.ref (f i)):=by unfold refs;simp [h]
theorem ln_zs{l:List Int}(h:H a=some (.lst (zs l))):lenV H (.ref a)=some (.int l.length):=by rw [ln_l h,wd]
theorem ln_nz{l:List Nat}(h:H a=some (.lst (nz l))):lenV H (.ref a)=some (.int l.length):=by rw [ln_l h,nz_len]
theorem ln_rf{n:Nat}{f:Nat→Addr}(h:H a=some (.lst (refs n f))):lenV H (.ref a)=some (.int n):=by rw [ln_l h,refs_len]
end
section
variable{sp:Sp}{H:AH}{lay:Ro→Addr}{s:St}{a:Addr}{Q:AH→Prop}
theorem setI_d{o:Addr}{es:List (Int×V)}{k:Int}{v:V}(h:H o=some (.dct es))(hl:es.length<sz)(q:Q (H.set o (.dct (put es k v)))):setIW H (.ref o) (.int k) v Q:=by
 show ifS (H o) _
 exact zg h ⟨hl,q⟩
theorem setI_l{o:Addr}{l:List V}{k:Nat}{v:V}(h:H o=some (.lst l))(hl:k<l.length)(q:Q (H.set o (.lst (l.set k v)))):setIW H (.ref o) (.int k) v Q:=by
 show ifS (H o) _
 refine zg h ?_
 show ifS (idxN l (k:Int)) _
 refine zg (x:=k) ?_ q
 exact gdP_mk ⟨Int.natCast_nonneg k,Int.ofNat_lt.mpr hl⟩
theorem app_ok{o:Addr}{l:List V}{v:V}{P:V→AH→Prop}(h:H o=some (.lst l))(hl:l.length<sz)(q:P .none (H.set o (.lst (l++[v])))):biW .append [.ref o,v] H P:=by
 show ifS (H o) _
 exact ifL_mk h ⟨hl,q⟩
theorem att_set(S:Sol H lay s)(ha:lay .ins=a){P:AH→Prop}{k:Nat}{v:V}(q:P (H.set (lay .att) (.att (put (attL lay s) k v)))):ifS (insV H (.ref a)) fun p=>p.2.length<900∧P (H.set p.1 (.att (put p.2 k v))):=
 zg (insV_mk (ha▸S.at_ .ins trivial) (S.at_ .att trivial)) ⟨show 16<900 by decide,q⟩
theorem bm_l{m:List V}{f:B}{o:X}{xs:List X}{b:Addr}{l:List V}{P:V→AH→Prop}(ho:o.pv m H=some (.ref b))(h:H b=some (.lst l))(hf:f.onList=true)(q:X.evs sp xs m H fun vs H=>biW f (.ref b::vs) H P):(X.bm f o xs).ev sp m H P:=by
 exact zw o _ _ ho (zg (x:=b) rfl (zg (wq h) ⟨hf,q⟩))
theorem bm_d{m:List V}{f:B}{o:X}{xs:List X}{b:Addr}{l:List (Int×V)}{P:V→AH→Prop}(ho:o.pv m H=some (.ref b))(h:H b=some (.dct l))(hf:f.onDict=true)(q:X.evs sp xs m H fun vs H=>biW f (.ref b::vs) H P):(X.bm f o xs).ev sp m H P:=by
 exact zw o _ _ ho (zg (x:=b) rfl (zg (see_dct h) ⟨hf,q⟩))
theorem cm_ok(S:Sol H lay s)(ha:lay .ins=a){m r:List V}{f:Nat}{xs:List X}{P:V→AH→Prop}(hm:m= .ref a::r)(q:X.evs sp xs m H fun vs H=>sp f (.ref a::vs) H P):(X.callM f (.loc 0) xs).ev sp m H P:=by
 subst hm
 show ifS (insV H (.ref a)) _
 exact zg (insV_mk (ha▸S.at_ .ins trivial) (S.at_ .att trivial)) q
end
section
variable{n:Nat}{H:AH}{lay:Ro→Addr}{s:St}{a:Addr}{Q:V→AH→Prop}
noncomputable def KnOK(s:St):Prop:=∀k v,get s.kn k=some v→∃b,v= .bool b
noncomputable def sayV(s:St)(l:Int):V:=((get s.kn l.natAbs).bind V.b?).elim .none fun b=> .bool (b==decide (0<l))
theorem c_says(S:Sol H lay s)(ha:lay .ins=a)(K:KnOK s){l:Int}(q:Q (sayV s l) H):spN tabL (n+1) 2 [.ref a,.int l] H Q:=by
 refine sp_go rfl rfl (zj (vj (zw _ _ _ (pvb (S.a_ ha rfl rfl) (pvb rfl (dg (S.at_ .kn trivial)))) (zj (s_ret ?_)))))
 unfold sayV at q
 generalize h:get s.kn l.natAbs=zq;induction zq with
 |none=>rw [h] at q;exact zw _ .none _ rfl q
 |some v=>
  rw [h] at q
  obtain ⟨b,rfl⟩:=K _ _ h
  exact zw _ (.bool (b==decide (0<l))) _ rfl q
theorem c_height(S:Sol H lay s)(ha:lay .ins=a){l i:Int}(h:get s.he l.natAbs=some (.int i))(q:Q (.int i) H):spN tabL (n+1) 13 [.ref a,.int l] H Q:=
 sp_go rfl rfl (zj (s_ret (zw _ _ _ (pvb (S.a_ ha rfl rfl) (pvb rfl (sb_d (S.at_ .he trivial) h))) q)))
theorem c_value(S:Sol H lay s)(ha:lay .ins=a)(K:KnOK s){v:Int}(q:Q ((get s.kn v).getD (.bool false)) H):spN tabL (n+1) 19 [.ref a,.int v] H Q:=by
 have hn:(get s.kn v).getD (.bool false)≠ .un:=by
  generalize h:get s.kn v=zq;induction zq with
  |none=>exact fun h=>nomatch h
  |some w=>obtain ⟨b,rfl⟩:=K _ _ h;exact fun h=>nomatch h
 exact sp_go rfl rfl (zj (s_ret (zw _ _ _ (pvb (S.a_ ha rfl rfl) (pvb rfl (dg (S.at_ .kn trivial)))) (rt_mk hn (rt_mk hn q)))))
theorem c_failed(S:Sol H lay s)(ha:lay .ins=a)(q:Q (.ref (lay .bl)) H):spN tabL (n+1) 20 [.ref a] H Q:=
 sp_go rfl rfl (zj (s_ret (zw _ _ _ (S.a_ ha rfl rfl) q)))
end
section
variable{sp:Sp}{m:List V}{H:AH}{Q:List V→AH→Prop}{R:V→AH→Prop}
theorem s_setI{o i x:X}{w v k:V}(hx:x.pv m H=some w)(ho:o.pv m H=some v)(hi:i.pv m H=some k)(q:setIW H v k w fun H=>Q m H):(S.setI o i x).wp sp m H Q R:=
 zw x _ _ hx (zw o _ _ ho (zw i _ _ hi q))
theorem s_setA{lay:Ro→Addr}{s:St}{a:Addr}{r:List V}{k:Nat}{x:X}{v:V}(So:Sol H lay s)(ha:lay .ins=a)(hm:m= .ref a::r)(hx:x.pv m H=some v)(q:Q m (H.set (lay .att) (.att (put (attL lay s) k v)))):(S.setA (.loc 0) k x).wp sp m H Q R:=by
 subst hm
 exact zw x _ _ hx (att_set (P:=Q (.ref a::r)) So ha q)
end
noncomputable abbrev SF(H:AH)(lay:Ro→Addr)(s:St)(H':AH)(lay':Ro→Addr)(s':St):Prop:=Sol H' lay' s'∧Fr H lay s H' lay' s'
section
variable{H:AH}{lay:Ro→Addr}{s:St}
noncomputable def St.wKn(s:St)(es:List (Int×V)):St:={s with kn:=es}
theorem u_kn(So:Sol H lay s)(es:List (Int×V)):SF H lay s (H.set (lay .kn) (.dct es)) lay (s.wKn es):=
 ⟨So.upd .kn (s.wKn es) trivial (fun _ h=>h) (fun q h=>by induction q<;>first|rfl|exact absurd rfl h),.upd .kn _ trivial (fun _ h=>h) fun _ _ h=>h⟩
noncomputable def St.wHe(s:St)(es:List (Int×V)):St:={s with he:=es}
theorem u_he(So:Sol H lay s)(es:List (Int×V)):SF H lay s (H.set (lay .he) (.dct es)) lay (s.wHe es):=
 ⟨So.upd .he (s.wHe es) trivial (fun _ h=>h) (fun q h=>by induction q<;>first|rfl|exact absurd rfl h),.upd .he _ trivial (fun _ h=>h) fun _ _ h=>h⟩
noncomputable def St.wCa(s:St)(es:List (Int×V)):St:={s with ca:=es}
theorem u_ca(So:Sol H lay s)(es:List (Int×V)):SF H lay s (H.set (lay .ca) (.dct es)) lay (s.wCa es):=
 ⟨So.upd .ca (s.wCa es) trivial (fun _ h=>h) (fun q h=>by induction q<;>first|rfl|exact absurd rfl h),.upd .ca _ trivial (fun _ h=>h) fun _ _ h=>h⟩
noncomputable def St.wLi(s:St)(es:List (Int×V)):St:={s with li:=es}
theorem u_li(So:Sol H lay s)(es:List (Int×V)):SF H lay s (H.set (lay .li) (.dct es)) lay (s.wLi es):=
 ⟨So.upd .li (s.wLi es) trivial (fun _ h=>h) (fun q h=>by induction q<;>first|rfl|exact absurd rfl h),.upd .li _ trivial (fun _ h=>h) fun _ _ h=>h⟩
noncomputable def St.wHt(s:St)(es:List (Int×V)):St:={s with ht:=es}
theorem u_ht(So:Sol H lay s)(es:List (Int×V)):SF H lay s (H.set (lay .ht) (.dct es)) lay (s.wHt es):=
 ⟨So.upd .ht (s.wHt es) trivial (fun _ h=>h) (fun q h=>by induction q<;>first|rfl|exact absurd rfl h),.upd .ht _ trivial (fun _ h=>h) fun _ _ h=>h⟩
noncomputable def St.wRo(s:St)(es:List Int):St:={s with ro:=es}
theorem u_ro(So:Sol H lay s)(es:List Int):SF H lay s (H.set (lay .ro) (.lst (zs es))) lay (s.wRo es):=
 ⟨So.upd .ro (s.wRo es) trivial (fun _ h=>h) (fun q h=>by induction q<;>first|rfl|exact absurd rfl h),.upd .ro _ trivial (fun _ h=>h) fun _ _ h=>h⟩
noncomputable def St.wBe(s:St)(es:List Nat):St:={s with be:=es}
theorem u_be(So:Sol H lay s)(es:List Nat):SF H lay s (H.set (lay .be) (.lst (nz es))) lay (s.wBe es):=
 ⟨So.upd .be (s.wBe es) trivial (fun _ h=>h) (fun q h=>by induction q<;>first|rfl|exact absurd rfl h),.upd .be _ trivial (fun _ h=>h) fun _ _ h=>h⟩
noncomputable def St.wSeen(s:St)(n:Nat):St:={s with seen:=n}
theorem u_seen(So:Sol H lay s)(n:Nat):SF H lay s (H.set (lay .att) (.att (put (attL lay s) 5 (.int n)))) lay (s.wSeen n):=
 ⟨So.upd .att (s.wSeen n) trivial (fun _ h=>h) (fun q h=>by induction q<;>first|rfl|exact absurd rfl h),.upd .att _ trivial (fun _ h=>h) fun _ _ h=>h⟩
noncomputable def St.wGain(s:St)(n:Int):St:={s with gain:=n}
theorem u_gain(So:Sol H lay s)(n:Int):SF H lay s (H.set (lay .att) (.att (put (attL lay s) 10 (.int n)))) lay (s.wGain n):=
 ⟨So.upd .att (s.wGain n) trivial (fun _ h=>h) (fun q h=>by induction q<;>first|rfl|exact absurd rfl h),.upd .att _ trivial (fun _ h=>h) fun _ _ h=>h⟩
noncomputable def St.wRef(s:St)(n:Bool):St:={s with ref:=n}
theorem u_ref(So:Sol H lay s)(n:Bool):SF H lay s (H.set (lay .att) (.att (put (attL lay s) 12 (.bool n)))) lay (s.wRef n):=
 ⟨So.upd .att (s.wRef n) trivial (fun _ h=>h) (fun q h=>by induction q<;>first|rfl|exact absurd rfl h),.upd .att _ trivial (fun _ h=>h) fun _ _ h=>h⟩
noncomputable def St.wCl(s:St)(n:Nat):St:={s with cl:=n}
theorem u_cl(So:Sol H lay s)(n:Nat):SF H lay s (H.set (lay .att) (.att (put (attL lay s) 14 (.int n)))) lay (s.wCl n):=
 ⟨So.upd .att (s.wCl n) trivial (fun _ h=>h) (fun q h=>by induction q<;>first|rfl|exact absurd rfl h),.upd .att _ trivial (fun _ h=>h) fun _ _ h=>h⟩
noncomputable def St.wBl(s:St)(es:List Int):St:={s with bl:=es}
theorem n_be(So:Sol H lay s)(x:Addr)(hx:H x=none)(es:List Nat):SF H lay s ((H.set x (.lst (nz es))).set (lay .att) (.att (put (attL lay s) 4 (.ref x)))) (up lay .be x) (s.wBe es):=
 ⟨So.reb x .be .att (s.wBe es) hx trivial (by simp) (by simp) (fun _ _ h=>h) (fun q h h'=>by induction q<;>first|rfl|exact absurd rfl h|exact absurd rfl h'),.reb So x .be .att _ hx trivial (fun h=>by cases h) (fun _ _ h=>h) fun _ _ h=>h⟩
theorem n_bl(So:Sol H lay s)(x:Addr)(hx:H x=none)(es:List Int):SF H lay s ((H.set x (.tup (zs es))).set (lay .att) (.att (put (attL lay s) 13 (.ref x)))) (up lay .bl x) (s.wBl es):=
 ⟨So.reb x .bl .att (s.wBl es) hx trivial (by simp) (by simp) (fun _ _ h=>h) (fun q h h'=>by induction q<;>first|rfl|exact absurd rfl h|exact absurd rfl h'),.reb So x .bl .att _ hx trivial (fun h=>by cases h) (fun _ _ h=>h) fun _ _ h=>h⟩
theorem n_ht(So:Sol H lay s)(x:Addr)(hx:H x=none)(es:List (Int×V)):SF H lay s ((H.set x (.dct es)).set (lay .att) (.att (put (attL lay s) 9 (.ref x)))) (up lay .ht x) (s.wHt es):=
 ⟨So.reb x .ht .att (s.wHt es) hx trivial (by simp) (by simp) (fun _ _ h=>h) (fun q h h'=>by induction q<;>first|rfl|exact absurd rfl h|exact absurd rfl h'),.reb So x .ht .att _ hx trivial (fun h=>by cases h) (fun _ _ h=>h) fun _ _ h=>h⟩
end
section
variable{n:Nat}{H:AH}{lay:Ro→Addr}{s:St}{a:Addr}{Q:V→AH→Prop}
noncomputable def letS(s:St)(l:Int)(c:V):St:=(((s.wKn (put s.kn l.natAbs (.bool (decide (0<l))))).wHe (put s.he l.natAbs (.int s.be.length))).wCa (put s.ca l.natAbs c)).wRo (s.ro++[l])
structure Sz(s:St):Prop where
 kn:s.kn.length<sz
 he:s.he.length<sz
 ca:s.ca.length<sz
 ro:s.ro.length<sz
theorem zs_app{l r:List Int}:zs (l++r)=zs l++zs r:=List.map_append
theorem c_let(So:Sol H lay s)(ha:lay .ins=a)(Z:Sz s){l:Int}{c:V}(hc:nun c=some c)(q:∀H',SF H lay s H' lay (letS s l c)→Q .none H'):spN tabL (n+1) 3 [.ref a,.int l,c] H Q:=by
 have h1:=u_kn So (put s.kn l.natAbs (.bool (decide (0<l))))
 have h2:=u_he h1.1 (put s.he l.natAbs (.int s.be.length))
 have h3:=u_ca h2.1 (put s.ca l.natAbs c)
 have h4:=u_ro h3.1 (s.ro++[l])
 refine sp_go rfl rfl (zj (vj (zw _ _ _ rfl (zj (s_setI rfl (So.a_ ha rfl rfl) rfl (setI_d (So.at_ .kn trivial) Z.kn (zj (s_setI (pvb (pvb (h1.1.a_ ha rfl rfl) rfl) (ln_nz (h1.1.at_ .be trivial))) (h1.1.a_ ha rfl rfl) rfl (setI_d (h1.1.at_ .he trivial) Z.he
  (zj (s_setI (v:= .ref (lay .ca)) (pvb rfl hc) (h2.1.a_ ha rfl rfl) rfl (setI_d (h2.1.at_ .ca trivial) Z.ca (zj (s_ex (bm_l (h3.1.a_ ha rfl rfl) (h3.1.at_ .ro trivial) rfl (pvs_ok _ _ _ rfl (app_ok (h3.1.at_ .ro trivial) (by rw [wd];exact Z.ro) (zy ?_))))))))))))))))))
 have:=q _ ⟨h4.1,h1.2.trans (h2.2.trans (h3.2.trans h4.2))⟩
 rw [zs_app] at this
 exact this
end
end Mine
end
section
open PySem PySem.W
namespace Mine
theorem getD_app_ne{α:Type}{l:List α}{c d:α}{i:Nat}(h:i≠l.length):(l++[c]).getD i d=l.getD i d:=by
 rw [List.getD_eq_getElem?_getD,List.getD_eq_getElem?_getD]
 rcases Nat.lt_or_ge i l.length with h'|h'
 ·rw [List.getElem?_append_left h']
 ·rw [List.getElem?_eq_none h',List.getElem?_eq_none]
  rw [List.length_append,List.length_singleton];lia
theorem getD_app_eq{α:Type}{l:List α}{c d:α}:(l++[c]).getD l.length d=c:=by
 rw [List.getD_eq_getElem?_getD,List.getElem?_append_right (Nat.le_refl _),Nat.sub_self];rfl
theorem refs_snoc{n:Nat}{f g:Nat→Addr}{x:Addr}(h:∀i,i≠n→g i=f i)(hx:g n=x):refs (n+1) g=refs n f++[.ref x]:=by
 unfold refs
 rw [List.range_succ,List.map_append,List.map_singleton,hx]
 congr 1
 apply List.map_congr_left
 intro i hi
 rw [h i (Nat.ne_of_lt (List.mem_range.mp hi))]
section
variable{H:AH}{lay:Ro→Addr}{s:St}
noncomputable def St.addLog(s:St)(c:List Int):St:={s with lg:=s.lg++[c]}
theorem n_lg(So:Sol H lay s)(x:Addr)(hx:H x=none)(c:List Int):SF H lay s ((H.set x (.tup (zs c))).set (lay .lg) (.lst ((refs s.lg.length fun i=>lay (.le i))++[.ref x]))) (up lay (.le s.lg.length) x) (s.addLog c):=by
 have hu:∀q,q≠ .le s.lg.length→use (s.addLog c) q→use s q:=fun q h u=>by
  induction q<;>first|exact u|skip
  rename_i i
  have h1:i<(s.lg++[c]).length:=u
  rw [List.length_append,List.length_singleton] at h1
  have h2:i≠s.lg.length:=fun e=>h (by rw [e])
  show i<s.lg.length
  lia
 have hc:∀q,q≠ .le s.lg.length→q≠ .lg→cont (up lay (.le s.lg.length) x) (s.addLog c) q=cont lay s q:=fun q h h'=>by
  induction q<;>first|rfl|exact absurd rfl h'|skip
  rename_i i
  show O.tup (zs ((s.lg++[c]).getD i []))=O.tup (zs (s.lg.getD i []))
  rw [getD_app_ne fun e=>h (by rw [e])]
 have e1:cont (up lay (.le s.lg.length) x) (s.addLog c) (.le s.lg.length)= .tup (zs c):=by
  show O.tup (zs ((s.lg++[c]).getD _ []))=_
  rw [getD_app_eq]
 have e2:cont (up lay (.le s.lg.length) x) (s.addLog c) .lg= .lst ((refs s.lg.length fun i=>lay (.le i))++[.ref x]):=by
  show O.lst (refs (s.lg++[c]).length _)=_
  rw [List.length_append,List.length_singleton]
  exact congrArg O.lst (refs_snoc (fun i hi=>up_ne fun e=>hi (by cases e;rfl)) up_eq)
 rw [←e1,←e2]
 exact ⟨So.reb x _ .lg (s.addLog c) hx trivial (by simp) (by simp) hu hc,.reb So x _ .lg _ hx trivial (fun _=>Nat.lt_irrefl _) hu (fun q f u=>by
  induction q<;>first|exact u|skip
  rename_i i
  show i<(s.lg++[c]).length
  rw [List.length_append];exact Nat.lt_add_right _ u)⟩
noncomputable def St.addRow(s:St)(c:List Int):St:={s with rows:=s.rows++[c]}
theorem n_row(So:Sol H lay s)(x:Addr)(hx:H x=none)(c:List Int):SF H lay s ((H.set x (.lst (zs c))).set (lay .rs) (.lst ((refs s.rows.length fun i=>lay (.cl i))++[.ref x]))) (up lay (.cl s.rows.length) x) (s.addRow c):=by
 have hu:∀q,q≠ .cl s.rows.length→use (s.addRow c) q→use s q:=fun q h u=>by
  induction q<;>first|exact u|skip
  rename_i i
  have h1:i<(s.rows++[c]).length:=u
  rw [List.length_append,List.length_singleton] at h1
  have h2:i≠s.rows.length:=fun e=>h (by rw [e])
  show i<s.rows.length
  lia
 have hc:∀q,q≠ .cl s.rows.length→q≠ .rs→cont (up lay (.cl s.rows.length) x) (s.addRow c) q=cont lay s q:=fun q h h'=>by
  induction q<;>first|rfl|exact absurd rfl h'|skip
  rename_i i
  show O.lst (zs ((s.rows++[c]).getD i []))=O.lst (zs (s.rows.getD i []))
  rw [getD_app_ne fun e=>h (by rw [e])]
 have e1:cont (up lay (.cl s.rows.length) x) (s.addRow c) (.cl s.rows.length)= .lst (zs c):=by
  show O.lst (zs ((s.rows++[c]).getD _ []))=_
  rw [getD_app_eq]
 have e2:cont (up lay (.cl s.rows.length) x) (s.addRow c) .rs= .lst ((refs s.rows.length fun i=>lay (.cl i))++[.ref x]):=by
  show O.lst (refs (s.rows++[c]).length _)=_
  rw [List.length_append,List.length_singleton]
  exact congrArg O.lst (refs_snoc (fun i hi=>up_ne fun e=>hi (by cases e;rfl)) up_eq)
 rw [←e1,←e2]
 exact ⟨So.reb x _ .rs (s.addRow c) hx trivial (by simp) (by simp) hu hc,.reb So x _ .rs _ hx trivial (fun _=>Nat.lt_irrefl _) hu (fun q f u=>by
  induction q<;>first|exact u|skip
  rename_i i
  show i<(s.rows++[c]).length
  rw [List.length_append];exact Nat.lt_add_right _ u)⟩
noncomputable def St.wW(s:St)(ks:List Int)(f:Int→List Nat):St:={s with wks:=ks,wat:=f}
theorem get_wkD{ks:List Int}{l:Int}:get (wkD lay ks) l=if l∈ks then some (.ref (lay (.wt l))) else none:=by
 unfold get wkD
 induction ks with
 |nil=>rfl
 |cons k ks ih=>
  rw [List.map_cons,List.find?_cons]
  by_cases h:k=l
  ·subst h;simp
  ·have h':l≠k:=Ne.symm h
   simp only [h,decide_false]
   rw [ih]
   simp [h']
theorem any_wkD{ks:List Int}{l:Int}(h:l∉ks):(wkD lay ks).any (fun e=>e.1=l)=false:=by
 unfold wkD
 rw [List.any_map,List.any_eq_false]
 intro k hk
 simp only [Function.comp]
 intro e
 exact h (of_decide_eq_true e▸hk)
theorem put_wkD{ks:List Int}{l:Int}{x:Addr}(h:l∉ks):put (wkD lay ks) l (.ref x)=wkD (up lay (.wt l) x) (ks++[l]):=by
 unfold put
 rw [any_wkD h]
 unfold wkD
 rw [List.map_append,List.map_singleton,up_eq]
 simp only [Bool.false_eq_true,if_false]
 congr 1
 apply List.map_congr_left
 intro k hk
 rw [up_ne fun e=>h (by cases e;exact hk)]
theorem u_wt(So:Sol H lay s){l:Int}(hl:l∈s.wks)(ns:List Nat):SF H lay s (H.set (lay (.wt l)) (.lst (nz ns))) lay (s.wW s.wks fun k=>if k=l then ns else s.wat k):=by
 have hc:∀q,q≠ .wt l→cont lay (s.wW s.wks fun k=>if k=l then ns else s.wat k) q=cont lay s q:=fun q h=>by
  induction q<;>first|rfl|skip
  rename_i k
  show O.lst (nz (if k=l then ns else s.wat k))=_
  rw [if_neg fun e=>h (by rw [e])];rfl
 have e1:cont lay (s.wW s.wks fun k=>if k=l then ns else s.wat k) (.wt l)= .lst (nz ns):=by
  show O.lst (nz (if l=l then ns else s.wat l))=_
  rw [if_pos rfl]
 have h1:=So.upd (.wt l) (s.wW s.wks fun k=>if k=l then ns else s.wat k) hl (fun _ h=>h) hc
 rw [e1] at h1
 exact ⟨h1,.upd (.wt l) _ hl (fun _ h=>h) fun _ _ h=>h⟩
theorem n_wt(So:Sol H lay s){l:Int}(hl:l∉s.wks)(x:Addr)(hx:H x=none)(ns:List Nat):SF H lay s ((H.set x (.lst (nz ns))).set (lay .wa) (.dct (put (wkD lay s.wks) l (.ref x)))) (up lay (.wt l) x) (s.wW (s.wks++[l]) fun k=>if k=l then ns else s.wat k):=by
 have hu:∀q,q≠ .wt l→use (s.wW (s.wks++[l]) fun k=>if k=l then ns else s.wat k) q→use s q:=fun q h u=>by
  induction q<;>first|exact u|skip
  rename_i k
  have h1:k∈s.wks++[l]:=u
  rcases List.mem_append.mp h1 with h1|h1
  ·exact h1
  ·exact absurd (by rw [List.mem_singleton.mp h1]) h
 have hc:∀q,q≠ .wt l→q≠ .wa→cont (up lay (.wt l) x) (s.wW (s.wks++[l]) fun k=>if k=l then ns else s.wat k) q=cont lay s q:=fun q h h'=>by
  induction q<;>first|rfl|exact absurd rfl h'|skip
  rename_i k
  show O.lst (nz (if k=l then ns else s.wat k))=_
  rw [if_neg fun e=>h (by rw [e])];rfl
 have e1:cont (up lay (.wt l) x) (s.wW (s.wks++[l]) fun k=>if k=l then ns else s.wat k) (.wt l)= .lst (nz ns):=by
  show O.lst (nz (if l=l then ns else s.wat l))=_
  rw [if_pos rfl]
 have e2:cont (up lay (.wt l) x) (s.wW (s.wks++[l]) fun k=>if k=l then ns else s.wat k) .wa= .dct (put (wkD lay s.wks) l (.ref x)):=by
  rw [put_wkD hl];rfl
 rw [←e1,←e2]
 exact ⟨So.reb x _ .wa _ hx trivial (by simp) (by simp) hu hc,.reb So x _ .wa _ hx trivial (fun h=>by cases h) hu (fun q f u=>by induction q<;>first|exact u|cases f)⟩
theorem rem_wkD{ks:List Int}{l:Int}:rem (wkD lay ks) l=wkD lay (ks.filter fun k=>decide (k≠l)):=by
 unfold rem wkD
 rw [List.filter_map];rfl
theorem d_wt(So:Sol H lay s)(l:Int):SF H lay s (H.set (lay .wa) (.dct (rem (wkD lay s.wks) l))) lay (s.wW (s.wks.filter fun k=>decide (k≠l)) s.wat):=by
 have hu:∀q,use (s.wW (s.wks.filter fun k=>decide (k≠l)) s.wat) q→use s q:=fun q u=>by
  induction q<;>first|exact u|exact (List.mem_filter.mp u).1
 have h1:=So.upd .wa (s.wW (s.wks.filter fun k=>decide (k≠l)) s.wat) trivial hu fun q h=>by induction q<;>first|rfl|exact absurd rfl h
 have e1:cont lay (s.wW (s.wks.filter fun k=>decide (k≠l)) s.wat) .wa= .dct (rem (wkD lay s.wks) l):=by rw [rem_wkD];rfl
 rw [e1] at h1
 exact ⟨h1,.upd .wa _ trivial hu (fun q f u=>by induction q<;>first|exact u|cases f)⟩
noncomputable def St.setRow(s:St)(i:Nat)(c:List Int):St:={s with rows:=s.rows.set i c}
theorem u_row(So:Sol H lay s){i:Nat}(hi:i<s.rows.length)(c:List Int):SF H lay s (H.set (lay (.cl i)) (.lst (zs c))) lay (s.setRow i c):=by
 have hu:∀q,use (s.setRow i c) q→use s q:=fun q u=>by
  induction q<;>first|exact u|skip
  rename_i k
  have h1:k<(s.rows.set i c).length:=u
  rw [List.length_set] at h1;exact h1
 have hc:∀q,q≠ .cl i→cont lay (s.setRow i c) q=cont lay s q:=fun q h=>by
  induction q<;>first|rfl|skip
  ·show O.lst (refs (s.rows.set i c).length _)=_
   rw [List.length_set];rfl
  ·rename_i k
   show O.lst (zs ((s.rows.set i c).getD k []))=O.lst (zs (s.rows.getD k []))
   rw [List.getD_eq_getElem?_getD,List.getD_eq_getElem?_getD,List.getElem?_set_ne fun e=>h (by rw [e])]
 have h1:=So.upd (.cl i) (s.setRow i c) hi hu hc
 have e1:cont lay (s.setRow i c) (.cl i)= .lst (zs c):=by
  show O.lst (zs ((s.rows.set i c).getD i []))=_
  rw [List.getD_eq_getElem?_getD,List.getElem?_set_self hi];rfl
 rw [e1] at h1
 exact ⟨h1,.upd (.cl i) _ hi hu (fun q f u=>by
  induction q<;>first|exact u|skip
  rename_i k
  show k<(s.rows.set i c).length
  rw [List.length_set];exact u)⟩
end
end Mine
end
section
open PySem PySem.W
set_option tactic.hygienic false
namespace Mine
section
variable{sp:Sp}{n:Nat}{H:AH}{lay:Ro→Addr}{s:St}{a:Addr}{Q:V→AH→Prop}
theorem e_bi{m:List V}{f:B}{xs:List X}{P:V→AH→Prop}(h:X.evs sp xs m H fun vs H=>biW f vs H P):(X.bi f xs).ev sp m H P:=h
theorem e_bm{m:List V}{f:B}{o:X}{xs:List X}{P:V→AH→Prop}(h:o.ev sp m H fun ov H=>ifS ov.r? fun a=>ifS (H.see a) fun o=>onO f o∧X.evs sp xs m H fun vs H=>biW f (ov::vs) H P):(X.bm f o xs).ev sp m H P:=h
theorem zv{m:List V}{x:X}{xs:List X}{P:List V→AH→Prop}(h:x.ev sp m H fun v H=>X.evs sp xs m H fun vs H=>P (v::vs) H):X.evs sp (x::xs) m H P:=h
theorem zp{m:List V}{P:List V→AH→Prop}(h:P [] H):X.evs sp [] m H P:=h
theorem b_list{v:V}{l:List V}{P:V→AH→Prop}(h:seqOf H v=some l)(q:∀x,H x=none→P (.ref x) (H.set x (.lst l))):biW .toList [v] H P:=by
 exact zg h q
theorem seq_l{a:Addr}{l:List V}(h:H a=some (.lst l)):seqOf H (.ref a)=some l:=bindM (x:=a) rfl (bindM (wq h) rfl)
theorem s_for{m:List V}{i:Nat}{x:X}{b:S}{P:List V→AH→Prop}{R:V→AH→Prop}(h:x.ev sp m H fun v H=>itW H v fun items chk thaw H=>floop chk (fun v m H Q R=>b.wp sp (m.set i v) H Q R) items m H (fun m H=>P m (thaw H)) (rt fun v H=>chk H∧R v (thaw H))):(S.for_ i (.src x) b).wp sp m H P R:=h
theorem it_l{a:Addr}{l:List V}{K:List V→(AH→Prop)→(AH→AH)→AH→Prop}(h:H a=some (.lst l))(q:K l (fun H=>H.see a=some (.lst l)) (fun H=>H) H):itW H (.ref a) K:=zg (x:=a) rfl (zg h q)
theorem slO_l{l h:V}{xs:List V}{i j:Nat}{P:V→AH→Prop}(h1:clampLo xs.length l=some i)(h2:clampHi xs.length h=some j)(q:∀x,H x=none→P (.ref x) (H.set x (.lst ((xs.take j).drop i)))):slO H l h P (.lst xs):=by
 show ifS (clampLo xs.length l) _
 exact zg h1 (zg h2 q)
theorem sl_hi{m:List V}{x:X}{a:Addr}{l:List V}{j:X}{k:Nat}{P:V→AH→Prop}(hx:x.pv m H=some (.ref a))(h:H a=some (.lst l))(hj:j.pv m H=some (.int k))(q:∀y,H y=none→P (.ref y) (H.set y (.lst (l.take k)))):(X.slice x (.c .none) j).ev sp m H P:=by
 refine zw x _ _ hx (zw (.c .none) .none _ rfl (zw j _ _ hj (zg (x:=a) rfl (zg (wq h) (slO_l rfl clip_nat fun y hy=>?_)))))
 have:=q y hy
 rw [List.drop_zero]
 have e:l.take (min k l.length)=l.take k:=by
  rcases Nat.le_total k l.length with h|h
  ·rw [Nat.min_eq_left h]
  ·rw [Nat.min_eq_right h,List.take_length,List.take_of_length_le h]
 rw [e];exact this
theorem sl_lo{m:List V}{x:X}{a:Addr}{l:List V}{j:X}{k:Nat}{P:V→AH→Prop}(hx:x.pv m H=some (.ref a))(h:H a=some (.lst l))(hj:j.pv m H=some (.int k))(q:∀y,H y=none→P (.ref y) (H.set y (.lst (l.drop k)))):(X.slice x j (.c .none)).ev sp m H P:=by
 refine zw x _ _ hx (zw j _ _ hj (zw (.c .none) .none _ rfl (zg (x:=a) rfl (zg (wq h) (slO_l clip_nat rfl fun y hy=>?_)))))
 have:=q y hy
 rw [List.take_length]
 have e:l.drop (min k l.length)=l.drop k:=by
  rcases Nat.le_total k l.length with h|h
  ·rw [Nat.min_eq_left h]
  ·rw [Nat.min_eq_right h,List.drop_length,List.drop_of_length_le h]
 rw [e];exact this
theorem floop_ind{chk:AH→Prop}{body:V→List V→AH→(List V→AH→Prop)→(V→AH→Prop)→Prop}{Q:List V→AH→Prop}{R:V→AH→Prop}(I:Nat→List V→AH→Prop)(items:List V)
  (hs:∀i v m H K,items[i]?=some v→I i m H→(∀m H,I (i+1) m H→K m H)→chk H∧body v m H K R) (he:∀m H,I items.length m H→chk H∧Q m H) {m:List V} {H:AH} (h0:I 0 m H):floop chk body items m H Q R:=by
 suffices h:∀(vs:List V) (i:Nat),i≤items.length→items.drop i=vs→∀m H,I i m H→floop chk body vs m H Q R from h items 0 (Nat.zero_le _) rfl m H h0
 intro vs
 induction vs with
 |nil=>
  intro i hl hi m H h
  have h1:i=items.length:=by
   have:=congrArg List.length hi
   rw [List.length_drop] at this
   simp only [List.length_nil] at this;exact Nat.le_antisymm ‹_› (Nat.le_of_sub_eq_zero ‹_›)
  exact he m H (h1▸h)
 |cons v vs ih=>
  intro i hl hi m H h
  have h1:items[i]?=some v:=by rw [←List.head?_drop,hi];rfl
  have h2:i<items.length:=by
   have:=congrArg List.length hi
   rw [List.length_drop] at this
   exact Nat.lt_of_sub_pos (by rw [this];exact Nat.succ_pos _)
  refine hs i v m H _ h1 h fun m H h'=>ih (i+1) h2 ?_ m H h'
  rw [←List.tail_drop,hi];rfl
theorem SF.trans{H' H'':AH}{lay' lay'':Ro→Addr}{s' s'':St}(h:SF H lay s H' lay' s')(h':SF H' lay' s' H'' lay'' s''):SF H lay s H'' lay'' s'':=⟨h'.1,h.2.trans h'.2⟩
theorem SF.junk(So:Sol H lay s){x:Addr}{o:O}(hx:H x=none):SF H lay s (H.set x o) lay s:=⟨So.junk hx,.junk hx⟩
theorem SF.ins{H':AH}{lay':Ro→Addr}{s':St}(h:SF H lay s H' lay' s')(ha:lay .ins=a):lay' .ins=a:=h.2.ins.trans ha
noncomputable def wg(s:St)(l:Int):List Nat:=if l∈s.wks then s.wat l else []
noncomputable def addW(s:St)(w:Int)(k:Nat):St:=s.wW (if w∈s.wks then s.wks else s.wks++[w]) fun l=>if l=w then wg s w++[k] else s.wat l
theorem nz_app{l r:List Nat}:nz (l++r)=nz l++nz r:=List.map_append
theorem w_add(So:Sol H lay s)(ha:lay .ins=a){m r:List V}(hm:m= .ref a::r){key num:X}{w:Int}{k:Nat}{P:V→AH→Prop}(hk:key.pv m H=some (.int w))(hnum:∀H' lay' s',SF H lay s H' lay' s'→s'.rows=s.rows→num.pv m H'=some (.int k))
  (hz:s.wks.length<sz) (hz2:(wg s w).length<sz) (q:∀H' lay',(∀r,use s r→lay' r=lay r)→SF H lay s H' lay' (addW s w k)→P .none H'):(X.bm .append (X.bm .setdef (X.attr (.loc 0) 8) [key,.list []]) [num]).ev sp m H P:=by
 subst hm
 have hk':X.pvs (.ref a::r) H [key]=some [.int w]:=pvb hk rfl
 refine e_bm (bm_d (So.a_ ha rfl rfl) (So.at_ .wa trivial) rfl (zw key _ _ hk ?_))
 intro x hx
 have h1:=SF.junk So (o:= .lst []) hx
 have hwa:=h1.1.at_ .wa trivial
 show ifS ((H.set x (.lst [])) (lay .wa)) _
 refine ifD_mk hwa ?_
 dsimp only
 by_cases hw:w∈s.wks
 ·rw [get_wkD,if_pos hw]
  have h2:=u_wt h1.1 hw (wg s w++[k])
  have h3:=h1.1.at_ (.wt w) hw
  have e:addW s w k=s.wW s.wks fun l=>if l=w then wg s w++[k] else s.wat l:=by unfold addW;rw [if_pos hw]
  have ew:wg s w=s.wat w:=if_pos hw
  refine zg (x:=lay (.wt w)) rfl (zg (wq h3) ⟨rfl,zw num _ _ (hnum _ _ _ h1 rfl) (app_ok h3 (by rw [nz_len,←ew];exact hz2) ?_)⟩)
  have:=q _ _ (fun _ _=>rfl) (by rw [e];exact h1.trans h2)
  rw [nz_app,ew] at this
  exact this
 ·rw [get_wkD,if_neg hw]
  have h2:=n_wt So hw x hx []
  have hw':w∈s.wks++[w]:=List.mem_append_right _ (List.mem_singleton.mpr rfl)
  have h3:=h2.1.at_ (.wt w) hw'
  have h4:=u_wt h2.1 hw' [k]
  have e:addW s w k=(s.wW (s.wks++[w]) fun l=>if l=w then [] else s.wat l).wW (s.wks++[w]) fun l=>if l=w then [k] else (if l=w then [] else s.wat l):=by
   unfold addW
   rw [if_neg hw]
   unfold wg St.wW
   rw [if_neg hw]
   congr 1
   funext l
   by_cases hl:l=w<;>simp [hl]
  have el:up lay (.wt w) x (.wt w)=x:=up_eq
  have ec:cont (up lay (.wt w) x) (s.wW (s.wks++[w]) fun l=>if l=w then [] else s.wat l) (.wt w)= .lst (nz []):=by
   show O.lst (nz (if w=w then [] else s.wat w))=_
   rw [if_pos rfl]
  rw [ec,el] at h3
  have h3':((H.set x (O.lst [])).set (lay Ro.wa) (O.dct (put (wkD lay s.wks) w (V.ref x)))) x=some (.lst []):=h3
  refine ⟨by unfold wkD;rw [List.length_map];exact hz,?_⟩
  refine zg (x:=x) rfl (zg (wq h3') ⟨rfl,zw num _ _ (hnum _ _ _ h2 rfl) (app_ok h3' (by show 0<sz;decide) ?_)⟩)
  rw [el] at h4
  exact q _ _ (fun r (u:use s r)=>up_ne fun e:r=Ro.wt w=>hw (by rw [e] at u;exact u)) (by rw [e];exact h2.trans h4)
theorem c_refute(So:Sol H lay s)(ha:lay .ins=a)(hz:s.lg.length<sz)(q:∀H' lay',SF H lay s H' lay' ((s.wRef true).addLog [])→Q .none H'):spN tabL (n+1) 7 [.ref a] H Q:=by
 have h1:=u_ref So true
 refine sp_go rfl rfl (zj (s_setA So ha rfl rfl (zj (s_ex (bm_l (h1.1.a_ ha rfl rfl) (h1.1.at_ .lg trivial) rfl fun x hx=>?_)))))
 have h2:=n_lg h1.1 x hx []
 have h3:=(h1.1.junk (o:= .tup []) hx).at_ .lg trivial
 exact app_ok h3 (by rw [refs_len];exact hz) (q _ _ (h1.trans h2))
theorem len_pv{x:X}{m:List V}{w v:V}(h:x.pv m H=some w)(e:lenV H w=some v):(X.bi .len [x]).pv m H=some v:=pvb (pvb h rfl) e
theorem n_pv(So:Sol H lay s)(ha:lay .ins=a){r:List V}{k:Nat}(e:s.rows.length=k+1):(X.bin .sub (.bi .len [.attr (.loc 0) 7]) (.c (.int 1))).pv (.ref a::r) H=some (.int k):=by
 refine pvb (x:= .int s.rows.length) (len_pv (So.a_ ha rfl rfl) (ln_rf (So.at_ .rs trivial))) ?_
 rw [e]
 show some (V.int (((k+1:Nat):Int)-1))=some (.int k)
 rw [Int.natCast_add]
 congr 2
 lia
theorem len_rows{c:List Int}{s:St}:(s.addRow c).rows.length=s.rows.length+1:=by
 show (s.rows++[c]).length=_
 rw [List.length_append];rfl
theorem wg_add{s:St}{w l:Int}{k:Nat}:wg (addW s w k) l=if l=w then wg s w++[k] else wg s l:=by
 by_cases hw:w∈s.wks
 ·have e:addW s w k=s.wW s.wks fun l=>if l=w then wg s w++[k] else s.wat l:=by unfold addW;rw [if_pos hw]
  rw [e]
  by_cases hl:l=w
  ·subst hl
   rw [if_pos rfl]
   show (if l∈s.wks then (if l=l then wg s l++[k] else s.wat l) else [])=_
   rw [if_pos hw,if_pos rfl]
  ·rw [if_neg hl]
   show (if l∈s.wks then (if l=w then wg s w++[k] else s.wat l) else [])=if l∈s.wks then s.wat l else []
   rw [if_neg hl]
 ·have e:addW s w k=s.wW (s.wks++[w]) fun l=>if l=w then wg s w++[k] else s.wat l:=by unfold addW;rw [if_neg hw]
  rw [e]
  by_cases hl:l=w
  ·subst hl
   rw [if_pos rfl]
   show (if l∈s.wks++[l] then (if l=l then wg s l++[k] else s.wat l) else [])=_
   rw [if_pos (List.mem_append_right _ (List.mem_singleton.mpr rfl)),if_pos rfl]
  ·rw [if_neg hl]
   show (if l∈s.wks++[w] then (if l=w then wg s w++[k] else s.wat l) else [])=if l∈s.wks then s.wat l else []
   rw [if_neg hl]
   simp only [List.mem_append,List.mem_singleton,hl,or_false]
theorem addW_len{s:St}{w l:Int}{k:Nat}:(wg (addW s w k) l).length≤(wg s l).length+1:=by
 rw [wg_add]
 split
 ·rename_i h;subst h
  rw [List.length_append];exact Nat.le_refl _
 ·exact Nat.le_succ _
noncomputable def keepS(s:St)(w0 w1:Int)(r:List Int):St:=addW (addW (s.addRow (w0::w1::r)) w0 s.rows.length) w1 s.rows.length
theorem c_keep(So:Sol H lay s)(ha:lay .ins=a){b:Addr}{w0 w1:Int}{r:List Int}(hb:H b=some (.lst (zs (w0::w1::r))))(hnb:¬fp lay s b)(hz:s.rows.length<sz)(hz2:s.wks.length+1<sz)(hz3:∀l,(wg s l).length+1<sz)
  (q:∀H' lay',SF H lay s H' lay' (keepS s w0 w1 r)→Q (.int s.rows.length) H'):spN tabL (n+1) 8 [.ref a,.ref b] H Q:=by
 refine sp_go rfl rfl (zj (s_ex (bm_l (So.a_ ha rfl rfl) (So.at_ .rs trivial) rfl (zv (e_bi (pvs_ok [.loc 1] [.ref b] _ rfl (b_list (seq_l hb) fun x hx=>zp ?_)))))))
 have h1:=n_row So x hx (w0::w1::r)
 have hrs:=(So.junk (o:= .lst (zs (w0::w1::r))) hx).at_ .rs trivial
 refine app_ok hrs (by rw [refs_len];exact hz) ?_
 have hb1:=So.out h1.2 hb hnb
 refine zj (s_for (sl_hi (a:=b) (k:=2) rfl hb1.1 rfl fun y hy=>it_l zx ?_))
 have h2:=h1.trans (SF.junk h1.1 (o:= .lst [.int w0,.int w1]) hy)
 have hy2:=h1.1.nfp hy
 have ek:(s.addRow (w0::w1::r)).rows.length=s.rows.length+1:=by
  show (s.rows++[w0::w1::r]).length=_
  rw [List.length_append];rfl
 have hl:= @len_rows (w0::w1::r) s
 refine ⟨wq zx,zj (s_ex (w_add h2.1 (h2.ins ha) rfl rfl (fun H' lay' s' h e=>n_pv h.1 (h.ins (h2.ins ha)) (by rw [e];exact hl)) (Nat.lt_of_succ_lt hz2) (Nat.lt_of_succ_lt (hz3 w0)) fun H3 lay3 _ h3=>zy ?_))⟩
 have ho:=h2.1.out h3.2 (o:= .lst [.int w0,.int w1]) zx (by exact hy2)
 have ha3:=h3.ins (h2.ins ha)
 refine ⟨wq ho.1,zj (s_ex (w_add h3.1 ha3 rfl rfl (fun H' lay' s' h e=>n_pv h.1 (h.ins ha3) (by rw [e];exact hl)) ?_ ?_ fun H4 lay4 _ h4=>zy ?_))⟩
 ·show (if w0∈s.wks then s.wks else s.wks++[w0]).length<sz
  split
  ·exact Nat.lt_of_succ_lt hz2
  ·rw [List.length_append];exact hz2
 ·exact Nat.lt_of_le_of_lt addW_len (hz3 w1)
 have ho4:=h3.1.out h4.2 ho.1 ho.2
 refine ⟨wq ho4.1,zj (s_ret (zw _ _ _ (n_pv h4.1 (h4.ins ha3) hl) (q _ _ (h2.trans (h3.trans h4)))))⟩
end
noncomputable def ky(es:List (Int×V)):List Int:=es.map (·.1)
theorem get_nil{k:Int}:get ([]:List (Int×V)) k=none:=rfl
theorem get_cons{e:Int×V}{es:List (Int×V)}{k:Int}:get (e::es) k=if e.1=k then some e.2 else get es k:=by
 unfold get
 rw [List.find?_cons]
 by_cases h:e.1=k
 ·rw [decide_eq_true h,if_pos h];rfl
 ·rw [decide_eq_false h,if_neg h]
theorem get_none{es:List (Int×V)}{k:Int}:get es k=none↔k∉ky es:=by
 induction es with
 |nil=>simp [get_nil,ky]
 |cons e es ih=>
  rw [get_cons]
  show _↔k∉e.1::ky es
  rw [List.mem_cons,not_or]
  by_cases h:e.1=k
  ·rw [if_pos h];simp [h]
  ·rw [if_neg h,ih]
   exact ⟨fun q=>⟨fun e=>h e.symm,q⟩,fun q=>q.2⟩
theorem get_mem{es:List (Int×V)}{k:Int}(h:k∈ky es):∃v,get es k=some v:=by
 generalize hg:get es k=zq;induction zq with
 |some v=>exact ⟨v,rfl⟩
 |none=>exact absurd h (get_none.mp hg)
theorem get_ky{es:List (Int×V)}{k:Int}{v:V}(h:get es k=some v):k∈ky es:=by
 by_cases hk:k∈ky es
 ·exact hk
 ·rw [get_none.mpr hk] at h;cases h
theorem get_in{es:List (Int×V)}{k:Int}{v:V}(h:get es k=some v):(k,v)∈es:=by
 induction es with
 |nil=>cases h
 |cons e es ih=>
  rw [get_cons] at h
  by_cases he:e.1=k
  ·rw [if_pos he] at h
   cases h
   exact List.mem_cons.mpr (.inl (by rw [←he]))
  ·rw [if_neg he] at h
   exact List.mem_cons_of_mem _ (ih h)
theorem any_ky{es:List (Int×V)}{k:Int}:es.any (fun e=>decide (e.1=k))=decide (k∈ky es):=by
 induction es with
 |nil=>simp [ky]
 |cons e es ih=>
  rw [List.any_cons,ih]
  show _=decide (k∈e.1::ky es)
  simp only [List.mem_cons,eq_comm (a:=k)]
  by_cases h:e.1=k<;>simp [h]
theorem put_in{es:List (Int×V)}{k:Int}{v:V}(h:k∈ky es):put es k v=es.map fun e=>if e.1=k then (e.1,v) else e:=by
 unfold put
 rw [any_ky,decide_eq_true h,if_pos rfl]
theorem put_new{es:List (Int×V)}{k:Int}{v:V}(h:k∉ky es):put es k v=es++[(k,v)]:=by
 unfold put
 rw [any_ky,decide_eq_false h];rfl
theorem ky_put{es:List (Int×V)}{k:Int}{v:V}:ky (put es k v)=if k∈ky es then ky es else ky es++[k]:=by
 by_cases h:k∈ky es
 ·rw [put_in h,if_pos h]
  unfold ky
  rw [List.map_map]
  apply List.map_congr_left
  intro e _
  show (if e.1=k then (e.1,v) else e).1=e.1
  split<;>rfl
 ·rw [put_new h,if_neg h]
  unfold ky
  rw [List.map_append];rfl
theorem get_app{es fs:List (Int×V)}{k:Int}:get (es++fs) k=match get es k with
  |some v=>some v
  |none=>get fs k:=by
 induction es with
 |nil=>rfl
 |cons e es ih=>
  rw [List.cons_append,get_cons,get_cons]
  by_cases h:e.1=k
  ·rw [if_pos h,if_pos h]
  ·rw [if_neg h,if_neg h,ih]
theorem get_put{es:List (Int×V)}{k k':Int}{v:V}:get (put es k v) k'=if k'=k then some v else get es k':=by
 by_cases h:k∈ky es
 ·rw [put_in h]
  induction es with
  |nil=>cases h
  |cons e es ih=>
   rw [List.map_cons,get_cons,get_cons]
   by_cases he:e.1=k
   ·rw [if_pos he]
    by_cases hk:k'=k
    ·rw [if_pos hk,if_pos (show e.1=k' by rw [he,hk])]
    ·rw [if_neg hk,if_neg (show ¬e.1=k' from fun q=>hk (by rw [←q,he])),if_neg (show ¬e.1=k' from fun q=>hk (by rw [←q,he]))]
     by_cases h2:k∈ky es
     ·rw [ih h2,if_neg hk]
     ·congr 1
      rw [List.map_congr_left (g:=id)]
      ·rw [List.map_id]
      ·intro x hx
       show (if x.1=k then (x.1,v) else x)=x
       rw [if_neg]
       intro hx'
       exact h2 (hx'▸List.mem_map_of_mem hx)
   ·rw [if_neg he]
    have h2:k∈ky es:=by
     rcases List.mem_cons.mp h with h|h
     ·exact absurd h.symm he
     ·exact h
    rw [ih h2]
    by_cases hk:k'=k
    ·rw [if_pos hk,if_neg (show ¬e.1=k' from fun q=>he (by rw [q,hk])),if_pos hk]
    ·rw [if_neg hk,if_neg hk]
 ·rw [put_new h,get_app]
  by_cases hk:k'=k
  ·subst hk
   rw [get_none.mpr h,if_pos rfl,get_cons,if_pos rfl]
  ·rw [if_neg hk]
   generalize hg:get es k'=zq;induction zq with
   |some v=>rfl
   |none=>
    rw [get_cons,if_neg (fun q=>hk q.symm)];rfl
theorem ky_rem{es:List (Int×V)}{k:Int}:ky (rem es k)=(ky es).filter fun x=>decide (x≠k):=by
 unfold ky rem
 rw [List.filter_map];rfl
theorem get_rem{es:List (Int×V)}{k k':Int}:get (rem es k) k'=if k'=k then none else get es k':=by
 induction es with
 |nil=>simp [rem,get_nil]
 |cons e es ih=>
  unfold rem at ih⊢
  rw [List.filter_cons]
  by_cases he:e.1=k
  ·rw [if_neg (by simp [he]),ih,get_cons]
   by_cases hk:k'=k
   ·rw [if_pos hk,if_pos hk]
   ·rw [if_neg hk,if_neg hk,if_neg fun q=>hk (by rw [←q,he])]
  ·rw [if_pos (by simp [he]),get_cons,get_cons,ih]
   by_cases hk:k'=k
   ·rw [if_pos hk,if_pos hk,if_neg fun q=>he (by rw [q,hk])]
   ·rw [if_neg hk,if_neg hk]
theorem put_mem{es:List (Int×V)}{k:Int}{v:V}{e:Int×V}(h:e∈put es k v):e∈es∨e=(k,v):=by
 by_cases hk:k∈ky es
 ·rw [put_in hk] at h
  obtain ⟨x,hx,rfl⟩:=List.mem_map.mp h
  by_cases hh:x.1=k
  ·rw [if_pos hh,←hh];exact .inr rfl
  ·rw [if_neg hh];exact .inl hx
 ·rw [put_new hk] at h
  rcases List.mem_append.mp h with h|h
  ·exact .inl h
  ·exact .inr (List.mem_singleton.mp h)
theorem nodup_le{α:Type} [DecidableEq α]:∀{l r:List α},l.Nodup→(∀x∈l,x∈r)→l.length≤r.length
 |[],r,_,_=>Nat.zero_le _
 |x::l,r,n,h=>by
  have hx:=h x (List.mem_cons_self ..)
  have n':=List.nodup_cons.mp n
  have h3:=nodup_le (r:=r.erase x) n'.2 fun y hy=>(List.mem_erase_of_ne fun e:y=x=>n'.1 (e▸hy)).mpr (h y (List.mem_cons_of_mem _ hy))
  rw [List.length_erase_of_mem hx] at h3
  exact Nat.lt_of_le_pred (List.length_pos_of_mem hx) h3
structure Keys(N:Nat)(es:List (Int×V)):Prop where
 nd:(ky es).Nodup
 lo:∀k∈ky es,1≤k∧k≤N
noncomputable def oneTo(N:Nat):List Int:=(List.range N).map fun i=>((i+1:Nat):Int)
theorem mem_oneTo{N:Nat}{k:Int}:k∈oneTo N↔1≤k∧k≤N:=by
 unfold oneTo
 rw [List.mem_map]
 constructor
 ·rintro ⟨i,hi,rfl⟩
  exact ⟨Int.ofNat_le.mpr (Nat.succ_le_succ (Nat.zero_le _)),Int.ofNat_le.mpr (List.mem_range.mp hi)⟩
 ·rintro ⟨h1,h2⟩
  obtain ⟨n,rfl⟩:=Int.eq_ofNat_of_zero_le (Int.le_trans (by decide) h1)
  induction n with
  |zero=>exact absurd h1 (by decide)
  |succ n=>exact ⟨n,List.mem_range.mpr (Int.ofNat_le.mp h2),rfl⟩
theorem oneTo_len{N:Nat}:(oneTo N).length=N:=by unfold oneTo;rw [List.length_map,List.length_range]
theorem Keys.len{N:Nat}{es:List (Int×V)}(h:Keys N es):es.length≤N:=by
 have:=nodup_le h.nd fun k hk=>mem_oneTo.mpr (h.lo k hk)
 rw [oneTo_len] at this
 unfold ky at this
 rwa [List.length_map] at this
theorem Keys.put{N:Nat}{es:List (Int×V)}(h:Keys N es){k:Int}{v:V}(h1:1≤k)(h2:k≤N):Keys N (put es k v):=by
 refine ⟨?_,fun q hq=>?_⟩
 ·rw [ky_put]
  split
  ·exact h.nd
  ·rename_i hk
   rw [List.nodup_append]
   exact ⟨h.nd,by simp,fun a ha b hb e=>hk (by rw [←List.mem_singleton.mp hb,←e];exact ha)⟩
 ·rw [ky_put] at hq
  split at hq
  ·exact h.lo q hq
  ·rcases List.mem_append.mp hq with hq|hq
   ·exact h.lo q hq
   ·rw [List.mem_singleton.mp hq];exact ⟨h1,h2⟩
theorem Keys.rem{N:Nat}{es:List (Int×V)}(h:Keys N es){k:Int}:Keys N (rem es k):=by
 refine ⟨?_,fun q hq=>?_⟩
 ·rw [ky_rem];exact h.nd.filter _
 ·rw [ky_rem] at hq;exact h.lo q (List.mem_filter.mp hq).1
theorem Keys.nil{N:Nat}:Keys N []:=⟨List.nodup_nil,fun _ h=>by cases h⟩
end Mine
end
section
open PySem PySem.W
namespace Mine
structure TD(N:Nat)(s:St):Prop where
 nz:∀l∈s.ro,l≠0∧l.natAbs≤N
 nd:(s.ro.map Int.natAbs).Nodup
 kn:∀k v,get s.kn k=some v↔∃l∈s.ro,(l.natAbs:Int)=k∧v= .bool (decide (0<l))
 kK:Keys N s.kn
 hK:Keys N s.he
 cK:Keys N s.ca
 lK:Keys N s.li
 lB:∀k v,get s.li k=some v→∃b,v= .bool b
noncomputable def bk(s:St)(ro:List Int)(kn li:List (Int×V)):St:=((s.wRo ro).wKn kn).wLi li
section
variable{N:Nat}{s:St}
theorem nabs1{l:Int}(h:l≠0):(1:Int)≤l.natAbs:=na_1 h
theorem TD.let_(T:TD N s){l:Int}{c:V}(h0:l≠0)(hN:l.natAbs≤N)(hn:∀x∈s.ro,x.natAbs≠l.natAbs):TD N (letS s l c):=by
 have hN':(l.natAbs:Int)≤N:=by exact_mod_cast hN
 refine ⟨fun x hx=>?_,?_,fun k v=>?_,T.kK.put (nabs1 h0) hN',T.hK.put (nabs1 h0) hN',T.cK.put (nabs1 h0) hN',T.lK,T.lB⟩
 ·have hx:x∈s.ro++[l]:=hx
  rcases List.mem_append.mp hx with hx|hx
  ·exact T.nz x hx
  ·rw [List.mem_singleton.mp hx];exact ⟨h0,hN⟩
 ·show ((s.ro++[l]).map Int.natAbs).Nodup
  rw [List.map_append,List.nodup_append]
  refine ⟨T.nd,by simp,fun a ha b hb e=>?_⟩
  obtain ⟨x,hx,rfl⟩:=List.mem_map.mp ha
  simp only [List.map_cons,List.map_nil,List.mem_singleton] at hb
  exact hn x hx (e.trans hb)
 ·show get (put s.kn l.natAbs (.bool (decide (0<l)))) k=some v↔∃x∈s.ro++[l],_
  rw [get_put]
  by_cases hk:k=l.natAbs
  ·rw [if_pos hk]
   constructor
   ·rintro e
    cases e
    exact ⟨l,List.mem_append_right _ (List.mem_singleton.mpr rfl),hk.symm,rfl⟩
   ·rintro ⟨x,hx,hxk,rfl⟩
    rcases List.mem_append.mp hx with hx|hx
    ·exact absurd (by rw [hk] at hxk;exact_mod_cast hxk) (hn x hx)
    ·rw [List.mem_singleton.mp hx]
  ·rw [if_neg hk,T.kn]
   constructor
   ·rintro ⟨x,hx,h⟩
    exact ⟨x,List.mem_append_left _ hx,h⟩
   ·rintro ⟨x,hx,h⟩
    rcases List.mem_append.mp hx with hx|hx
    ·exact ⟨x,hx,h⟩
    ·rw [List.mem_singleton.mp hx] at h
     exact absurd h.1.symm hk
theorem TD.pop(T:TD N s){r:List Int}{l:Int}(h:s.ro=r++[l]):TD N (bk s r (rem s.kn l.natAbs) (put s.li l.natAbs (.bool (decide (0<l))))):=by
 have hl:l∈s.ro:=by rw [h];exact List.mem_append_right _ (List.mem_singleton.mpr rfl)
 have hs:∀x∈r,x∈s.ro:=fun x hx=>by rw [h];exact List.mem_append_left _ hx
 have hnd:=T.nd
 rw [h,List.map_append,List.nodup_append] at hnd
 have hd:∀x∈r,x.natAbs≠l.natAbs:=fun x hx=>hnd.2.2 _ (List.mem_map_of_mem hx) _ (by simp)
 have hN':(l.natAbs:Int)≤N:=by exact_mod_cast (T.nz l hl).2
 refine ⟨fun x hx=>T.nz x (hs x hx),hnd.1,fun k v=>?_,T.kK.rem,T.hK,T.cK,T.lK.put (nabs1 (T.nz l hl).1) hN',fun k v hv=>?_⟩
 ·show get (rem s.kn l.natAbs) k=some v↔∃x∈r,_
  rw [get_rem]
  by_cases hk:k=l.natAbs
  ·rw [if_pos hk]
   constructor
   ·intro e;cases e
   ·rintro ⟨x,hx,hxk,_⟩
    exact absurd (by rw [hk] at hxk;exact_mod_cast hxk) (hd x hx)
  ·rw [if_neg hk,T.kn]
   constructor
   ·rintro ⟨x,hx,hh⟩
    rw [h] at hx
    rcases List.mem_append.mp hx with hx|hx
    ·exact ⟨x,hx,hh⟩
    ·rw [List.mem_singleton.mp hx] at hh
     exact absurd hh.1.symm hk
   ·rintro ⟨x,hx,hh⟩
    exact ⟨x,hs x hx,hh⟩
 ·have hv:get (put s.li l.natAbs (.bool (decide (0<l)))) k=some v:=hv
  rw [get_put] at hv
  split at hv
  ·cases hv;exact ⟨_,rfl⟩
  ·exact T.lB k v hv
theorem TD.knOK(T:TD N s):KnOK s:=fun k v h=>by
 refine nn fun hC=>?_
 obtain ⟨l,_,_,rfl⟩:=(T.kn k v).mp h
 refine hC ?_
 exact ⟨_,rfl⟩
theorem nd_abs(T:TD N s){x y:Int}(hx:x∈s.ro)(hy:y∈s.ro)(h:x.natAbs=y.natAbs):x=y:=by
 have:=T.nd
 obtain ⟨i,hi,rfl⟩:=List.getElem_of_mem hx
 obtain ⟨j,hj,rfl⟩:=List.getElem_of_mem hy
 have e:i=j:=by
  have h1:i<(s.ro.map Int.natAbs).length:=by rw [List.length_map];exact hi
  have h2:j<(s.ro.map Int.natAbs).length:=by rw [List.length_map];exact hj
  exact (List.getElem_inj (h₀:=h1) (h₁:=h2) this).mp (by rw [List.getElem_map,List.getElem_map];exact h)
 subst e;rfl
theorem TD.no2(T:TD N s){x:Int}(hx:x∈s.ro)(hy: -x∈s.ro):False:=by
 have h1:=nd_abs T hx hy (Int.natAbs_neg x).symm
 have:=(T.nz x hx).1
 lia
theorem TD.say(T:TD N s){l:Int}(h0:l≠0):(l∈s.ro∧sayV s l= .bool true)∨(-l∈s.ro∧sayV s l= .bool false)∨((∀x∈s.ro,x.natAbs≠l.natAbs)∧sayV s l= .none):=by
 generalize hg:get s.kn l.natAbs=zq;induction zq with
 |none=>
  refine .inr (.inr ⟨fun x hx e=>?_,by unfold sayV;rw [hg];rfl⟩)
  have:=(T.kn l.natAbs _).mpr ⟨x,hx,by exact_mod_cast e,rfl⟩
  rw [hg] at this;cases this
 |some v=>
  refine nn fun hC=>?_
  obtain ⟨x,hx,e,rfl⟩:=(T.kn _ _).mp hg
  refine hC ?_
  have e':x.natAbs=l.natAbs:=by exact_mod_cast e
  have hx0:=(T.nz x hx).1
  by_cases h:x=l
  ·subst h
   exact .inl ⟨hx,by unfold sayV;rw [hg];exact congrArg V.bool (beq_self_eq_true _)⟩
  ·have h':x= -l:=na_eq e' h
   subst h'
   refine .inr (.inl ⟨hx,?_⟩)
   unfold sayV;rw [hg]
   show V.bool _=V.bool false
   congr 1
   by_cases h2:0<l
   ·rw [decide_eq_true h2,decide_eq_false fun q=>Int.lt_asymm h2 (Int.neg_pos.mp q)];rfl
   ·rw [decide_eq_false h2,decide_eq_true (Int.neg_pos.mpr (Int.lt_iff_le_and_ne.mpr ⟨Int.not_lt.mp h2,h0⟩))];rfl
theorem TD.say_t(T:TD N s){l:Int}(h0:l≠0):sayV s l= .bool true↔l∈s.ro:=by
 rcases T.say h0 with ⟨h,e⟩|⟨h,e⟩|⟨h,e⟩
 ·exact ⟨fun _=>h,fun _=>e⟩
 ·exact ⟨fun q=>(by rw [e] at q;cases q),fun q=>(T.no2 q h).elim⟩
 ·exact ⟨fun q=>(by rw [e] at q;cases q),fun q=>(h l q rfl).elim⟩
theorem TD.say_f(T:TD N s){l:Int}(h0:l≠0):sayV s l= .bool false↔-l∈s.ro:=by
 rcases T.say h0 with ⟨h,e⟩|⟨h,e⟩|⟨h,e⟩
 ·exact ⟨fun q=>(by rw [e] at q;cases q),fun q=>(T.no2 h q).elim⟩
 ·exact ⟨fun _=>h,fun _=>e⟩
 ·exact ⟨fun q=>(by rw [e] at q;cases q),fun q=>(h (-l) q (Int.natAbs_neg l)).elim⟩
theorem TD.say_n(T:TD N s){l:Int}(h0:l≠0):sayV s l= .none↔∀x∈s.ro,x.natAbs≠l.natAbs:=by
 rcases T.say h0 with ⟨h,e⟩|⟨h,e⟩|⟨h,e⟩
 ·exact ⟨fun q=>(by rw [e] at q;cases q),fun q=>(q l h rfl).elim⟩
 ·exact ⟨fun q=>(by rw [e] at q;cases q),fun q=>(q (-l) h (Int.natAbs_neg l)).elim⟩
 ·exact ⟨fun _=>h,fun _=>e⟩
theorem say_kinds(s:St)(l:Int):sayV s l= .bool true∨sayV s l= .bool false∨sayV s l= .none:=by
 unfold sayV
 induction (get s.kn l.natAbs).bind V.b? with
 |none=>exact .inr (.inr rfl)
 |some b=>
  show V.bool (b==decide (0<l))=_∨V.bool (b==decide (0<l))=_∨_
  cases (b==decide (0<l))
  ·exact .inr (.inl rfl)
  ·exact .inl rfl
theorem TD.len(T:TD N s):s.ro.length≤N:=by
 have:=nodup_le (r:=(List.range N).map (·+1)) T.nd fun x hx=>by
  obtain ⟨l,hl,rfl⟩:=List.mem_map.mp hx
  have:=T.nz l hl
  exact List.mem_map.mpr ⟨l.natAbs-1,List.mem_range.mpr (sub_1 (Int.natAbs_pos.mpr this.1) this.2),Nat.sub_add_cancel (Int.natAbs_pos.mpr this.1)⟩
 rw [List.length_map,List.length_map,List.length_range] at this
 exact this
end
end Mine
end
section
open PySem PySem.W
set_option tactic.hygienic false
namespace Mine
noncomputable def Ext(H H':AH):Prop:=∀x o,H x=some o→H' x=some o
theorem Ext.refl{H:AH}:Ext H H:=fun _ _ h=>h
theorem Ext.trans{H H' H'':AH}(h:Ext H H')(h':Ext H' H''):Ext H H'':=fun x o q=>h' x o (h x o q)
theorem Ext.new{H H':AH}(h:Ext H H'){x:Addr}{o:O}(hx:H x=none):Ext H (H'.set x o):=fun y p q=>by
 rw [zu (by rintro rfl;rw [hx] at q;cases q)];exact h y p q
theorem Ext.none{H H':AH}(h:Ext H H'){x:Addr}(hx:H' x=none):H x=none:=by
 generalize hh:H x=zq;induction zq with
 |none=>rfl
 |some o=>rw [h x o hh] at hx;cases hx
theorem Ext.sf{H H':AH}{lay:Ro→Addr}{s:St}(So:Sol H lay s)(h:Ext H H'):SF H lay s H' lay s:=
 ⟨So.frame fun r u=>by rw [So.at_ r u,h _ _ (So.at_ r u)],⟨fun x o q _=>h x o q,fun x q=> .inl q,fun _ _ u=>⟨u,rfl⟩⟩⟩
noncomputable def Fre(H:AH)(lay:Ro→Addr)(s:St)(x:Addr):Prop:=∀o,H x=some o→fp lay s x
section
variable{H0 H:AH}{lay0 lay:Ro→Addr}{s0 s:St}
theorem SF.fre(h:SF H0 lay0 s0 H lay s){x:Addr}(hx:H x=none):Fre H0 lay0 s0 x:=fun o q=>by
 by_cases n:fp lay0 s0 x
 ·exact n
 ·rw [h.2.keep x o q n] at hx;cases hx
theorem Fre.of{x:Addr}(h:H x=none):Fre H lay s x:=fun o q=>by rw [h] at q;cases q
theorem SF.side(h:SF H0 lay0 s0 H lay s){x:Addr}{o:O}(f:Fre H0 lay0 s0 x)(n:¬fp lay s x):SF H0 lay0 s0 (H.set x o) lay s:=
 ⟨h.1.side n,⟨fun y p q m=>by rw [zu (by rintro rfl;exact m (f p q))];exact h.2.keep y p q m,h.2.new,h.2.fix⟩⟩
theorem SF.refl(So:Sol H lay s):SF H lay s H lay s:=⟨So,.refl⟩
end
theorem cloop_ind{α:Type}{chk:AH→Prop}{body:V→AH→α→(α→AH→Prop)→Prop}{Q:α→AH→Prop}(I:Nat→α→AH→Prop)(items:List V)
  (hs:∀i v acc H K,items[i]?=some v→I i acc H→(∀acc H,I (i+1) acc H→K acc H)→chk H∧body v H acc K) (he:∀acc H,I items.length acc H→chk H∧Q acc H) {acc:α} {H:AH} (h0:I 0 acc H):cloop chk body items H acc Q:=by
 suffices h:∀(vs:List V) (i:Nat),i≤items.length→items.drop i=vs→∀acc H,I i acc H→cloop chk body vs H acc Q from h items 0 (Nat.zero_le _) rfl acc H h0
 intro vs
 induction vs with
 |nil=>
  intro i hl hi acc H h
  have h1:i=items.length:=by
   have:=congrArg List.length hi
   rw [List.length_drop] at this
   simp only [List.length_nil] at this;exact Nat.le_antisymm ‹_› (Nat.le_of_sub_eq_zero ‹_›)
  exact he acc H (h1▸h)
 |cons v vs ih=>
  intro i hl hi acc H h
  have h1:items[i]?=some v:=by rw [←List.head?_drop,hi];rfl
  have h2:i<items.length:=by
   have:=congrArg List.length hi
   rw [List.length_drop] at this
   simp only [List.length_cons] at this;lia
  refine hs i v acc H _ h1 h fun acc H h'=>ih (i+1) h2 ?_ acc H h'
  rw [←List.tail_drop,hi];rfl
section
variable{sp:Sp}{n:Nat}{H:AH}{lay:Ro→Addr}{s:St}{a:Addr}{Q:V→AH→Prop}
theorem it_d{d:Addr}{es:List (Int×V)}{K:List V→(AH→Prop)→(AH→AH)→AH→Prop}(h:H d=some (.dct es))(q:∀o,K (keysOf es) (fun H=>H d=some (.froz (.dct es) o)) (fun H=>H.set d (.dct es)) (H.set d (.froz (.dct es) o))):itW H (.ref d) K:=zg (x:=d) rfl (zg h q)
theorem set_same{d:Addr}{x:O}(h:H d=some x):H.set d x=H:=by
 funext b
 by_cases e:b=d
 ·subst e;rw [zx,h]
 ·rw [zu e]
theorem keys_get{es:List (Int×V)}{i:Nat}{v:V}(h:(keysOf es)[i]?=some v):∃k,(ky es)[i]?=some k∧v= .int k:=by
 unfold keysOf at h
 rw [List.getElem?_map] at h
 obtain ⟨e,he,rfl⟩:=Option.map_eq_some_iff.mp h
 exact ⟨e.1,by unfold ky;rw [List.getElem?_map,he];rfl,rfl⟩
theorem keys_len{es:List (Int×V)}:(keysOf es).length=es.length:=List.length_map ..
noncomputable def attS(a:Addr)(k:Nat)(v:V)(H:AH)(P:AH→Prop):Prop:=ifS (insV H (.ref a)) fun p=>p.2.length<900∧P (H.set p.1 (.att (put p.2 k v)))
theorem attS_ok(So:Sol H lay s)(ha:lay .ins=a){P:AH→Prop}{k:Nat}{v:V}(q:P (H.set (lay .att) (.att (put (attL lay s) k v)))):attS a k v H P:=att_set (P:=P) So ha q
theorem s_setE{r:List V}{k:Nat}{x:X}{P:List V→AH→Prop}{R:V→AH→Prop}(h:x.ev sp (.ref a::r) H fun v H=>attS a k v H (P (.ref a::r))):(S.setA (.loc 0) k x).wp sp (.ref a::r) H P R:=h
theorem e_dc{m:List V}{mask:List Bool}{x k v:X}{P:V→AH→Prop}(h:x.ev sp m H fun w H=>itW H w fun items chk thaw H=>
   cloop chk (fun x H acc K=>k.ev sp (mskd m mask++[x]) H fun kv H=>v.ev sp (mskd m mask++[x]) H fun vv H=>ifS kv.i? fun i=>acc.length<sz∧K (put acc i vv) H) items H [] fun acc H=>∀a,thaw H a=none→P (.ref a) ((thaw H).set a (.dct acc))):(X.dcomp mask (.src x) k v).ev sp m H P:=h
theorem sb_f{d:Addr}{o:Obj}{es:List (Int×V)}{k:Int}{v:V}(h:H d=some (.froz (.dct es) o))(e:get es k=some v):subV H (.ref d) (.int k)=some v:=bindM (x:=d) rfl (bindM (see_froz h) e)
noncomputable def HtOK(N:Nat)(es:List (Int×V)):Prop:=ky es=oneTo N∧∀e∈es,∃i,e.2= .int i
theorem oneTo_nd{N:Nat}:(oneTo N).Nodup:=by
 unfold oneTo
 refine List.Pairwise.map _ (fun a b h=>?_) List.nodup_range
 intro e;apply h;lia
theorem HtOK.put{N:Nat}{es:List (Int×V)}(h:HtOK N es){v i:Int}(h1:1≤v)(h2:v≤N):HtOK N (put es v (.int i)):=by
 refine ⟨?_,fun e he=>?_⟩
 ·rw [ky_put,if_pos (by rw [h.1];exact mem_oneTo.mpr ⟨h1,h2⟩)];exact h.1
 ·rcases put_mem he with he|rfl
  ·exact h.2 e he
  ·exact ⟨i,rfl⟩
theorem HtOK.get{N:Nat}{es:List (Int×V)}(h:HtOK N es){v:Int}(h1:1≤v)(h2:v≤N):∃i,Mine.get es v=some (.int i):=by
 obtain ⟨x,hx⟩:=get_mem (es:=es) (k:=v) (by rw [h.1];exact mem_oneTo.mpr ⟨h1,h2⟩)
 obtain ⟨i,hi⟩:=h.2 _ (get_in hx)
 exact ⟨i,by rw [hx];exact congrArg some hi⟩
theorem HtOK.len{N:Nat}{es:List (Int×V)}(h:HtOK N es):es.length=N:=by
 have:=congrArg List.length h.1
 rw [oneTo_len] at this
 unfold ky at this
 rwa [List.length_map] at this
noncomputable def hot(s:St)(es:List (Int×V))(g:Int):St:=(s.wHt es).wGain g
theorem ints_put{es:List (Int×V)}{k i:Int}(h:∀e∈es,∃i,e.2=V.int i):∀e∈put es k (.int i),∃i,e.2=V.int i:=fun e he=>by
 rcases put_mem he with he|rfl
 ·exact h e he
 ·exact ⟨i,rfl⟩
theorem c_warm(So:Sol H lay s)(ha:lay .ins=a){N:Nat}(hN:N<1000)(ht:HtOK N s.ht){v:Int}(h1:1≤v)(h2:v≤N)
  (q:∀H' lay' es g,SF H lay s H' lay' (hot s es g)→HtOK N es→Q .none H'):spN tabL (n+1) 11 [.ref a,.int v] H Q:=by
 obtain ⟨x,hx⟩:=ht.get h1 h2
 have hsz:N<sz:=Nat.lt_trans hN (by decide)
 have u1:=u_ht So (put s.ht v (.int (x+s.gain)))
 have ht1:=ht.put (i:=x+s.gain) h1 h2
 have g1:get (put s.ht v (.int (x+s.gain))) v=some (.int (x+s.gain)):=by rw [get_put,if_pos rfl]
 refine sp_go rfl rfl (zj (s_setI (pvb (pvb (So.a_ ha rfl rfl) (pvb rfl (sb_d (So.at_ .ht trivial) hx))) (pvb (So.a_ ha rfl rfl) rfl)) (So.a_ ha rfl rfl) rfl (setI_d (So.at_ .ht trivial) (by rw [ht.len];exact hsz) ?_)))
 refine zj (s_ite (b:=decide (1000000000<x+s.gain)) (pvb (pvb (u1.1.a_ ha rfl rfl) (pvb rfl (sb_d (u1.1.at_ .ht trivial) g1))) (pvb rfl (pcm rfl))) (fun _=>?_) fun _=>zy (zy (q _ _ _ s.gain u1 ht1)))
 refine zj (s_setE (e_dc (zw _ (.ref (lay .ht)) _ (u1.1.a_ ha rfl rfl) (it_d (u1.1.at_ .ht trivial) fun o=>?_))))
 have hne:∀r,r≠ .ht→use (s.wHt (put s.ht v (.int (x+s.gain)))) r→lay r≠lay .ht:=fun r h u e=>h (u1.1.inj r .ht u trivial e)
 refine cloop_ind (fun i acc H'=>H'=(H.set (lay .ht) (.dct (put s.ht v (.int (x+s.gain))))).set (lay .ht) (.froz (.dct (put s.ht v (.int (x+s.gain)))) o)∧ky acc=(oneTo N).take i∧∀e∈acc,∃i,e.2=V.int i) _ (fun i w acc H' K hw hI hK=>?_) (fun acc H' hI=>?_) ⟨rfl,rfl,fun _ h=>by cases h⟩
 ·obtain ⟨rfl,hk,hi⟩:=hI
  obtain ⟨k,hk1,rfl⟩:=keys_get hw
  refine ⟨zx,?_⟩
  obtain ⟨y,hy⟩:=get_mem (List.mem_of_getElem? hk1)
  obtain ⟨z,hz⟩:=ht1.2 _ (get_in hy)
  have hz:y= .int z:=hz
  subst hz
  have hat:attrV ((H.set (lay .ht) (.dct (put s.ht v (.int (x+s.gain))))).set (lay .ht) (.froz (.dct (put s.ht v (.int (x+s.gain)))) o)) (.ref a) 9=some (.ref (lay .ht)):=
   attr_of (d:=lay .att) (es:=attL lay s) (by rw [←ha,zu (hne .ins (by simp) trivial)];exact u1.1.at_ .ins trivial) (by rw [zu (hne .att (by simp) trivial)];exact u1.1.at_ .att trivial) rfl rfl
  refine zw (.loc 2) (.int k) _ rfl (zw (.bin .fdiv (.sub (.attr (.loc 0) 9) (.loc 2)) (.c (.int 1000000000))) (.int (z/1000000000)) _ (pvb (pvb hat (pvb rfl (sb_f zx hy))) (pvb rfl rfl)) ?_)
  have hk1:(oneTo N)[i]?=some k:=by rw [←ht1.1];exact hk1
  have hlen:i<N:=by
   have:=(List.getElem?_eq_some_iff.mp hk1).1
   rw [oneTo_len] at this;exact this
  have hacc:acc.length=i:=by
   have:=congrArg List.length hk
   rw [List.length_take,oneTo_len] at this
   unfold ky at this
   rw [List.length_map] at this;lia
  refine ⟨by rw [hacc];exact Nat.lt_trans hlen hsz,hK _ _ ⟨rfl,?_,ints_put hi⟩⟩
  have hnk:k∉ky acc:=by
   rw [hk]
   intro hm
   obtain ⟨j,hj,hj2⟩:=List.mem_iff_getElem?.mp hm|>.imp fun j hj=>(⟨by
    have:=(List.getElem?_eq_some_iff.mp hj).1
    rw [List.length_take] at this
    exact (Nat.lt_min.mp ‹_›).1,hj⟩:j<i∧_)
   rw [List.getElem?_take_of_lt hj] at hj2
   have h3:=(List.getElem?_eq_some_iff.mp hk1)
   have h4:=(List.getElem?_eq_some_iff.mp hj2)
   have:=(List.getElem_inj (h₀:=h4.1) (h₁:=h3.1) oneTo_nd).mp (h4.2.trans h3.2.symm)
   lia
  rw [ky_put,if_neg hnk,hk,List.take_add_one,hk1];rfl
 ·obtain ⟨rfl,hk,hi⟩:=hI
  refine ⟨zx,fun y hy=>?_⟩
  have e0:((H.set (lay .ht) (.dct (put s.ht v (.int (x+s.gain))))).set (lay .ht) (.froz (.dct (put s.ht v (.int (x+s.gain)))) o)).set (lay .ht) (.dct (put s.ht v (.int (x+s.gain))))=H.set (lay .ht) (.dct (put s.ht v (.int (x+s.gain)))):=by
   rw [set_set,set_set]
  have hy:(H.set (lay .ht) (.dct (put s.ht v (.int (x+s.gain))))) y=none:=by rw [←e0];exact hy
  refine (?_:attS a 9 (.ref y) ((((H.set (lay .ht) (.dct (put s.ht v (.int (x+s.gain))))).set (lay .ht) (.froz (.dct (put s.ht v (.int (x+s.gain)))) o)).set (lay .ht) (.dct (put s.ht v (.int (x+s.gain))))).set y (.dct acc)) _)
  rw [e0]
  have hk':ky acc=oneTo N:=by
   rw [hk,keys_len,show (s.wHt (put s.ht v (.int (x+s.gain)))).ht.length=N from ht1.len]
   exact List.take_of_length_le (by rw [oneTo_len];exact Nat.le_refl _)
  have h3:=n_ht u1.1 y hy acc
  refine attS_ok (u1.1.junk (o:= .dct acc) hy) ha ?_
  have h4:=u_gain h3.1 1
  exact zj (s_setA h3.1 (h3.ins ha) rfl rfl (zy (zy (q _ _ _ _ (u1.trans (h3.trans h4)) ⟨hk',hi⟩))))
end
section
variable{sp:Sp}{n:Nat}{H:AH}{lay:Ro→Addr}{s:St}{a:Addr}{Q:V→AH→Prop}
structure Ord(l c:List Int):Prop where
 nd:(c.map Int.natAbs).Nodup
 mem:∀x,x∈c↔x∈l
 srt:c.Pairwise fun a b=>a.natAbs≤b.natAbs
noncomputable def unI:V→Int
 | .int i=>i
 |_=>0
theorem zs_unI{l:List Int}:(zs l).map unI=l:=by
 unfold zs
 rw [List.map_map]
 exact List.map_id _
theorem perm_zs{ys:List V}{l:List Int}(h:ys.Perm (zs l)):∃c,ys=zs c∧c.Perm l:=by
 refine ⟨ys.map unI,?_,by have:=h.map unI;rwa [zs_unI] at this⟩
 unfold zs
 rw [List.map_map]
 refine (List.map_id ys).symm.trans (List.map_congr_left fun y hy=>?_)
 obtain ⟨i,_,rfl⟩:=List.mem_map.mp (h.mem_iff.mp hy)
 rfl
theorem keys_zs{es:List (Int×V)}:keysOf es=zs (ky es):=by
 unfold keysOf zs ky
 rw [List.map_map];rfl
theorem sd_k{d:Addr}{o:O}{l:List Int}{P:V→AH→Prop}(h:H.see d=some o)(hk:o.k?=some (zs l))(hl:l.length<64)(q:∀c,c.Perm l→c.Pairwise (fun a b=>a.natAbs≤b.natAbs)→∀x,H x=none→P (.ref x) (H.set x (.lst (zs c)))):biW .sortAbs [.ref d] H P:=by
 show ifS (H.see d) _
 refine zg h (zg hk ⟨?_,by rw [wd];exact hl,fun ys hp hs x hx=>?_⟩)
 ·rw [List.all_eq_true]
  intro v hv
  obtain ⟨i,_,rfl⟩:=List.mem_map.mp hv;rfl
 ·obtain ⟨c,rfl,hc⟩:=perm_zs hp
  exact q c hc ((List.pairwise_map (f:=V.int) (R:=absLe)).mp hs) x hx
theorem sd_d{d:Addr}{es:List (Int×V)}{P:V→AH→Prop}(h:H d=some (.dct es))(hl:es.length<64)(q:∀c,c.Perm (ky es)→c.Pairwise (fun a b=>a.natAbs≤b.natAbs)→∀x,H x=none→P (.ref x) (H.set x (.lst (zs c)))):biW .sortAbs [.ref d] H P:=
 sd_k (see_dct h) (congrArg some keys_zs) (by unfold ky;rw [List.length_map];exact hl) q
theorem tt_l{d:Addr}{l:List V}{P:V→AH→Prop}(h:H d=some (.lst l))(q:∀x,H x=none→P (.ref x) (H.set x (.tup l))):biW .toTuple [.ref d] H P:=by
 show ifS (H.see d) _
 exact ifL_mk (wq h) q
theorem it_lt{b:Addr}{o:O}{l:List V}{K:List V→(AH→Prop)→(AH→AH)→AH→Prop}(h:H b=some o)(ho:o= .lst l∨o= .tup l)(q:K l (fun H=>H.see b=some o) (fun H=>H) H):itW H (.ref b) K:=by
 rcases ho with rfl|rfl
 ·exact it_l h q
 ·exact zg (x:=b) rfl (zg h q)
theorem see_lt{b:Addr}{o:O}{l:List V}(h:H b=some o)(ho:o= .lst l∨o= .tup l):H.see b=some o:=by
 rcases ho with rfl|rfl
 ·exact wq h
 ·exact see_tup h
theorem zs_at{l:List Int}{i:Nat}{v:V}(h:(zs l)[i]?=some v):∃x,l[i]?=some x∧v= .int x:=by
 unfold zs at h
 rw [List.getElem?_map] at h
 obtain ⟨x,hx,rfl⟩:=Option.map_eq_some_iff.mp h
 exact ⟨x,hx,rfl⟩
theorem mb{d:Addr}{es:List (Int×V)}{k:Int}(h:H d=some (.dct es)):memV H (.int k) (.ref d)=some (decide (k∈ky es)):=by
 show (H.see d).bind _=_
 rw [see_dct h]
 show some (get es k).isSome=_
 by_cases hk:k∈ky es
 ·obtain ⟨v,hv⟩:=get_mem hk
  rw [hv,decide_eq_true hk];rfl
 ·rw [get_none.mpr hk,decide_eq_false hk];rfl
theorem wy{α:Type}{l:List α}{i:Nat}{x y:α}(h:l[i]?=some x):y∈l.take (i+1)↔y∈l.take i∨y=x:=by
 rw [List.take_add_one,h,List.mem_append]
 simp
theorem c_ordered{b:Addr}{o:O}{l:List Int}(hb:H b=some o)(ho:o= .lst (zs l)∨o= .tup (zs l))(h0:∀x∈l,x≠0)(hl:l.length<64)
  (q1:∀H',Ext H H'→(∃x∈l,-x∈l)→Q .none H') (q2:∀H' y c,Ext H H'→H y=none→H' y=some (.tup (zs c))→Ord l c→Q (.ref y) H'):spN tabL (n+1) 0 [.ref b] H Q:=by
 refine sp_go rfl rfl (zj (vj fun d hd=>?_))
 refine zj (s_for (zw (.loc 0) (.ref b) _ rfl (it_lt (Ext.refl.new hd b o hb) ho ?_)))
 refine floop_ind (fun i m H1=>Ex2 fun w es=>An6 (m=[.ref b,.ref d,w]) (Ext H H1) (H1 d=some (.dct es)) ((ky es).Nodup) ((∀x,x∈ky es↔x∈l.take i)) (∀x∈ky es,-x∉ky es)) _ (fun i v m H1 K hv hI hK=>?_) (fun m H1 hI=>?_) ⟨.un,[],rfl,Ext.refl.new hd,zx,List.nodup_nil,fun x=>by simp [ky],fun x hx=>by cases hx⟩
 ·obtain ⟨w,es,rfl,E,he,hn,hm,hs⟩:=hI
  obtain ⟨x,hx,rfl⟩:=zs_at hv
  have hx0:=h0 x (List.mem_of_getElem? hx)
  have hlen:es.length<sz:=by
   have:=nodup_le hn fun y hy=>List.mem_of_mem_take ((hm y).mp hy)
   unfold ky at this
   rw [List.length_map] at this
   exact Nat.lt_of_le_of_lt this (Nat.lt_trans hl (by decide))
  refine ⟨see_lt (E b o hb) ho,zj (s_ite (b:=decide (-x∈ky es)) (pvb (pvb rfl rfl) (pvb rfl (pcm (mb he)))) (fun hd=>?_) fun hd=>?_)⟩
  ·have hxn:=(hm _).mp (of_decide_eq_true hd)
   exact zj (s_ret (zw (.c .none) .none _ rfl ⟨see_lt (E b o hb) ho,q1 _ E ⟨x,List.mem_of_getElem? hx,List.mem_of_mem_take hxn⟩⟩))
  ·have hxn: -x∉ky es:=of_decide_eq_false hd
   refine zy (zj (s_setI (v:= .ref d) (k:= .int x) rfl rfl rfl (setI_d he hlen (zy (hK _ _ ⟨.int x,_,rfl,?_,zx,?_,fun y=>?_,fun y hy=>?_⟩)))))
   ·exact fun y p hp=>by rw [zu (by rintro rfl;rw [‹H y=none›] at hp;cases hp)];exact E y p hp
   ·rw [ky_put]
    split
    ·exact hn
    ·rename_i hk
     rw [List.nodup_append]
     exact ⟨hn,by simp,fun a ha b hb e=>hk (by rw [←List.mem_singleton.mp hb,←e];exact ha)⟩
   ·rw [wy hx,←hm y,ky_put]
    split
    ·rename_i hk
     exact ⟨.inl,fun h=>h.elim id fun e=>e▸hk⟩
    ·rw [List.mem_append,List.mem_singleton]
   ·have key:∀z,z∈ky (put es x (.bool true))↔z∈ky es∨z=x:=fun z=>by
     rw [ky_put]
     split
     ·rename_i hk
      exact ⟨.inl,fun h=>h.elim id fun e=>e▸hk⟩
     ·rw [List.mem_append,List.mem_singleton]
    rw [key] at hy⊢
    rintro (h1|h1)
    ·rcases hy with hy|rfl
     ·exact hs y hy h1
     ·exact hxn h1
    ·rcases hy with hy|rfl
     ·exact hxn (by rw [←h1,Int.neg_neg];exact hy)
     ·lia
 ·refine nn fun hC=>?_
  obtain ⟨w,es,rfl,E,he,hn,hm,hs⟩:=hI
  refine hC ?_
  have hm:∀x,x∈ky es↔x∈l:=fun x=>by
   rw [hm,wd,List.take_length]
  have hlen:es.length<64:=by
   have:=nodup_le hn fun y hy=>(hm y).mp hy
   unfold ky at this
   rw [List.length_map] at this
   exact Nat.lt_of_le_of_lt this hl
  refine ⟨see_lt (E b o hb) ho,zj (s_ret (e_bi (zv (e_bi (zv (zw (.loc 1) (.ref d) _ rfl (zp (sd_d he hlen fun c hc hp x hx=>zp (tt_l zx fun y hy=>?_)))))))))⟩
  have E1:Ext H (H1.set x (.lst (zs c))):=E.new (E.none hx)
  refine q2 _ y c (E1.new (E1.none hy)) (E1.none hy) zx ⟨?_,fun z=>by rw [hc.mem_iff,hm],hp⟩
  unfold List.Nodup
  rw [List.pairwise_map]
  refine List.Pairwise.imp_of_mem (fun {p q} h1 h2 h3 e=>?_) (hc.nodup_iff.mpr hn)
  have h4:p= -q:=na_eq e h3
  subst h4
  exact hs q (hc.mem_iff.mp h2) (hc.mem_iff.mp h1)
theorem pop_ok{o:Addr}{l:List V}{v:V}{P:V→AH→Prop}(h:H o=some (.lst (l++[v])))(q:P v (H.set o (.lst l))):biW .pop [.ref o] H P:=by
 show ifS (H o) _
 refine ifL_mk h (zg List.getLast?_concat ?_)
 rw [List.dropLast_concat]
 exact q
theorem dpop1_ok{o:Addr}{es:List (Int×V)}{k:Int}{v:V}{P:V→AH→Prop}(h:H o=some (.dct es))(e:get es k=some v)(q:P v (H.set o (.dct (rem es k)))):biW .dpop1 [.ref o,.int k] H P:=by
 show ifS (H o) _
 exact ifD_mk h (by rw [e];exact q)
theorem s_wh{m:List V}{P:List V→AH→Prop}{R:V→AH→Prop}{c:X}{t:S}(I:Nat→List V→AH→Prop)(n:Nat)(h:I n m H)(h':∀n m H,I n m H→∃b,An3 (c.pv m H=some (.bool b)) ((b=true→t.wp sp m H (fun m H=>∃k,k<n∧I k m H) R)) ((b=false→P m H))):(S.whl c t).wp sp m H P R:=
 s_whl I n h fun n m H hI=>by
  refine nn fun hC=>?_
  obtain ⟨b,hb,h1,h2⟩:=h' n m H hI
  refine hC ?_
  refine zw c _ _ hb ?_
  induction b
  ·exact h2 rfl
  ·exact h1 rfl
theorem s_whK{m:List V}{P:List V→AH→Prop}{R:V→AH→Prop}{c:X}{t:S}(I:Nat→List V→AH→Prop)(n:Nat)(h:I n m H)(h':∀n m H (K:List V→AH→Prop),I n m H→(∀k m' H',k<n→I k m' H'→K m' H')→∃b,An3 (c.pv m H=some (.bool b)) (b=true→t.wp sp m H K R) (b=false→P m H)):(S.whl c t).wp sp m H P R:=
 s_wh I n h fun n m H hI=>h' n m H _ hI fun k m' H' h1 h2=>⟨k,h1,h2⟩
theorem s_setIE{m:List V}{o i x:X}{P:List V→AH→Prop}{R:V→AH→Prop}(h:x.ev sp m H fun w H=>o.ev sp m H fun v H=>i.ev sp m H fun k H=>setIW H v k w fun H=>P m H):(S.setI o i x).wp sp m H P R:=h
noncomputable def backS(s:St)(h p:Nat)(kn li:List (Int×V)):St:=((bk s (s.ro.take p) kn li).wBe (s.be.take h)).wSeen p
theorem c_back0(So:Sol H lay s)(ha:lay .ins=a){h:Nat}(hp:s.be.length≤h)(q:Q .none H):spN tabL (n+1) 4 [.ref a,.int h] H Q:=
 sp_go rfl rfl (zj (s_ite (b:=false) (pvb rfl (pvb (len_pv (So.a_ ha rfl rfl) (ln_nz (So.at_ .be trivial))) (pcm (show some _=some _ by rw [decide_eq_false];lia)))) (fun h=>by cases h) fun _=>zy (zy q)))
theorem c_back(So:Sol H lay s)(ha:lay .ins=a){N:Nat}(T:TD N s)(hN:N<1000){h p:Nat}(hp:s.be[h]?=some p)(hpl:p≤s.ro.length)
  (q:∀H' lay' kn li,SF H lay s H' lay' (backS s h p kn li)→TD N (backS s h p kn li)→Q .none H'):spN tabL (n+1) 4 [.ref a,.int h] H Q:=by
 have hlt:h<s.be.length:=(List.getElem?_eq_some_iff.mp hp).1
 have hsz:N<sz:=Nat.lt_trans hN (by decide)
 refine sp_go rfl rfl (zj (s_ite (b:=true) (pvb rfl (pvb (len_pv (So.a_ ha rfl rfl) (ln_nz (So.at_ .be trivial))) (pcm (show some _=some _ by rw [decide_eq_true];exact Int.ofNat_le.mpr ‹_›)))) (fun _=>?_) fun h=>by cases h))
 refine zj (s_whK (fun k m H'=>Ex3 fun w kn li=>An5 (m=[.ref a,.int h,w]) (p≤k) (k≤s.ro.length) (SF H lay s H' lay (bk s (s.ro.take k) kn li)) (TD N (bk s (s.ro.take k) kn li))) s.ro.length ⟨.un,s.kn,s.li,rfl,hpl,Nat.le_refl _,by rw [List.take_length];exact .refl So,by rw [List.take_length];exact T⟩ fun k m H1 KW hI hW=>?_)
 refine nn fun hC=>?_
 obtain ⟨w,kn,li,rfl,h1,h2,h3,h4⟩:=hI
 refine hC ?_
 have hlen:(s.ro.take k).length=k:=by rw [List.length_take];lia
 refine ⟨decide (p<k),pvb (len_pv (h3.1.a_ ha rfl rfl) (ln_zs (h3.1.at_ .ro trivial))) (pvb (pvb (h3.1.a_ ha rfl rfl) (pvb rfl (sb_l (h3.1.at_ .be trivial) (idx_nat (nz_get hp))))) (pcm (show some (decide ((p:Int)<((s.ro.take k).length:Int)))=_ by rw [hlen];congr 1;exact decide_eq_decide.mpr (by exact Int.ofNat_lt)))),fun hd=>?_,fun hd=>?_⟩
 ·have hd:p<k:=of_decide_eq_true hd
  obtain ⟨j,rfl⟩:∃j,k=j+1:=⟨k-1,by lia⟩
  have hj:j<s.ro.length:=by assumption
  have e1:s.ro.take (j+1)=s.ro.take j++[s.ro[j]]:=by rw [List.take_add_one,List.getElem?_eq_getElem hj];rfl
  have hro:=h3.1.at_ .ro trivial
  have hro:H1 (lay .ro)=some (.lst (zs (s.ro.take j)++[.int s.ro[j]])):=by
   rw [hro]
   show some (O.lst (zs (s.ro.take (j+1))))=_
   rw [e1,zs_app];rfl
  have T':=h4.pop e1
  have u1:=u_ro h3.1 (s.ro.take j)
  have hg:get kn ((s.ro[j].natAbs:Nat):Int)=some (.bool (decide (0<s.ro[j]))):=(h4.kn _ _).mpr ⟨s.ro[j],by show _∈s.ro.take (j+1);rw [e1];exact List.mem_append_right _ (List.mem_singleton.mpr rfl),rfl,rfl⟩
  have u2:=u_kn u1.1 (rem kn s.ro[j].natAbs)
  have u3:=u_li u2.1 (put li s.ro[j].natAbs (.bool (decide (0<s.ro[j]))))
  refine zj (vj (e_bi (zv (bm_l (h3.1.a_ ha rfl rfl) hro rfl (zp (pop_ok hro (zp ?_)))))))
  refine zj (s_setIE (bm_d (u1.1.a_ ha rfl rfl) (u1.1.at_ .kn trivial) rfl (zv (zw (.loc 2) (.int s.ro[j].natAbs) _ rfl (zp (dpop1_ok (u1.1.at_ .kn trivial) hg (zw (.attr (.loc 0) 6) (.ref (lay .li)) _ (u2.1.a_ ha rfl rfl) (zw (.loc 2) (.int s.ro[j].natAbs) _ rfl (setI_d (u2.1.at_ .li trivial) ?_ (zy (hW j _ _ (Nat.lt_succ_self _) ⟨_,_,_,rfl,Nat.le_of_lt_succ hd,Nat.le_of_lt hj,h3.trans (u1.trans (u2.trans u3)),T'⟩)))))))))))
  exact Nat.lt_of_le_of_lt h4.lK.len hsz
 ·have hd:¬p<k:=of_decide_eq_false hd
  obtain rfl:k=p:=by lia
  refine zj (s_setE (sl_hi (h3.1.a_ ha rfl rfl) (h3.1.at_ .be trivial) (k:=h) rfl fun y hy=>attS_ok (h3.1.junk hy) ha ?_))
  have u1:=n_be h3.1 y hy (s.be.take h)
  rw [show (nz (bk s (s.ro.take k) kn li).be).take h=nz (s.be.take h) from List.map_take.symm]
  have u2:=u_seen u1.1 k
  refine zj (s_setA (v:= .int k) u1.1 (u1.ins ha) rfl (len_pv (u1.1.a_ (u1.ins ha) rfl rfl) ?_) (zy (zy (q _ _ _ _ (h3.trans (u1.trans u2)) ⟨h4.nz,h4.nd,h4.kn,h4.kK,h4.hK,h4.cK,h4.lK,h4.lB⟩))))
  rw [ln_zs (u1.1.at_ .ro trivial)]
  show some (V.int ((s.ro.take k).length:Int))=_
  rw [hlen]
end
end Mine
end
section
open PySem PySem.W
namespace Mine
section
variable{n:Nat}{H:AH}{lay:Ro→Addr}{s:St}{a:Addr}{Q:V→AH→Prop}
theorem eq_ii{H:AH}{i j:Int}:cmpV H .eq (.int i) (.int j)=some (decide (i=j)):=by
 show some (i==j)=_
 congr 1
theorem s_says{m r:List V}(So:Sol H lay s)(ha:lay .ins=a)(K:KnOK s)(hm:m= .ref a::r){op:Cm}{x:X}{w:V}{l:Int}{b:Bool}{P:List V→AH→Prop}{R:V→AH→Prop}{t u:S}(hx:x.pv m H=some (.int l))(hc:cmpV H op (sayV s l) w=some b)
  (h1:b=true→t.wp (spN tabL (n+1)) m H P R) (h2:b=false→u.wp (spN tabL (n+1)) m H P R):(S.ite (.cmp op (.callM 2 (.loc 0) [x]) (.c w)) t u).wp (spN tabL (n+1)) m H P R:=by
 refine (cm_ok (xs:=[x]) (P:=fun v H=>ifS (cmpV H op v w) fun b=>ifB (.bool b) (t.wp (spN tabL (n+1)) m H P R) (u.wp (spN tabL (n+1)) m H P R)) So ha hm (zv (zw x _ _ hx (zp (c_says So ha K (zg hc ?_))))):(X.callM 2 (.loc 0) [x]).ev (spN tabL (n+1)) m H _)
 induction b
 ·exact h2 rfl
 ·exact h1 rfl
theorem s_rng{sp:Sp}{m:List V}{i:Nat}{x y:X}{b:S}{lo hi:Int}{P:List V→AH→Prop}{R:V→AH→Prop}(hx:x.pv m H=some (.int lo))(hy:y.pv m H=some (.int hi))(b1: -big≤lo∧lo<big)(b2: -big≤hi∧hi<big)
  (h:floop (fun _=>True) (fun v m H Q R=>b.wp sp (m.set i v) H Q R) (rngL lo hi) m H P (rt fun v H=>True∧R v H)):(S.for_ i (.rng x y) b).wp sp m H P R:=by
 exact zw x _ (fun v H=>y.ev sp m H fun w H=>ifS v.i? fun i=>ifS w.i? fun j=>_) hx (zw y _ _ hy (zg (x:=lo) rfl (zg (x:=hi) rfl ⟨b1.1,b1.2,b2.1,b2.2,h⟩)))
theorem rng_at{lo hi:Int}{i:Nat}{v:V}(h:(rngL lo hi)[i]?=some v):v= .int (lo+i)∧i<(hi-lo).toNat:=by
 unfold rngL at h
 rw [List.getElem?_map] at h
 obtain ⟨k,hk,rfl⟩:=Option.map_eq_some_iff.mp h
 obtain ⟨h2,h3⟩:=List.getElem?_eq_some_iff.mp hk
 rw [List.getElem_range] at h3
 subst h3
 rw [List.length_range] at h2
 exact ⟨rfl,h2⟩
theorem rng_len{lo hi:Int}:(rngL lo hi).length=(hi-lo).toNat:=by unfold rngL;rw [List.length_map,List.length_range]
theorem zs_set{l:List Int}{i:Nat}{x:Int}:(zs l).set i (.int x)=zs (l.set i x):=by unfold zs;rw [List.map_set]
theorem setRow_same{s:St}{k:Nat}{c:List Int}(h:s.rows[k]?=some c):s.setRow k c=s:=by
 unfold St.setRow
 have:s.rows.set k c=s.rows:=by
  obtain ⟨h1,h2⟩:=List.getElem?_eq_some_iff.mp h
  rw [←h2];exact List.set_getElem_self h1
 rw [this]
theorem setRow_two{s:St}{k:Nat}{c d:List Int}:(s.setRow k c).setRow k d=s.setRow k d:=by
 unfold St.setRow
 show {s with rows:=(s.rows.set k c).set k d}=_
 rw [List.set_set]
theorem setRow_at{s:St}{k:Nat}{c:List Int}(h:k<s.rows.length):(s.setRow k c).rows[k]?=some c:=by
 show (s.rows.set k c)[k]?=_
 rw [List.getElem?_set_self h]
theorem Sol.row(So:Sol H lay s){k:Nat}{c:List Int}(h:s.rows[k]?=some c):H (lay (.cl k))=some (.lst (zs c)):=by
 have h1:=(List.getElem?_eq_some_iff.mp h).1
 have:=So.at_ (.cl k) h1
 rw [this]
 show some (O.lst (zs (s.rows.getD k [])))=_
 rw [List.getD_eq_getElem?_getD,h];rfl
theorem ref_row(So:Sol H lay s)(ha:lay .ins=a){r:List V}{x:X}{k:Nat}(h:k<s.rows.length)(hx:x.pv (.ref a::r) H=some (.int k)):(X.sub (.attr (.loc 0) 7) x).pv (.ref a::r) H=some (.ref (lay (.cl k))):=
 pvb (So.a_ ha rfl rfl) (pvb hx (sb_l (So.at_ .rs trivial) (idx_nat (refs_get h))))
theorem s_swp{m:List V}{sp:Sp}(So:Sol H lay s){k:Nat}{c:List Int}(hk:s.rows[k]?=some c){i j:Nat}(hi:i<c.length)(hj:j<c.length){x y o i1 i2:X}{u w:Int}(hx:x.pv m H=some (.int u))(hy:y.pv m H=some (.int w))
  (ho:∀H,o.pv m H=some (.ref (lay (.cl k)))) (h1:∀H,i1.pv m H=some (.int i)) (h2:∀H,i2.pv m H=some (.int j)) {P:List V→AH→Prop} {R:V→AH→Prop}
  (q:∀H',SF H lay s H' lay (s.setRow k ((c.set i u).set j w))→P m H'):(S.swap o i1 o i2 x y).wp sp m H P R:=by
 have hlt:=(List.getElem?_eq_some_iff.mp hk).1
 have hrow:=So.row hk
 have u1:=u_row So hlt (c.set i u)
 have hrow1:=u1.1.row (setRow_at hlt)
 have hlt1:k<(s.setRow k (c.set i u)).rows.length:=by
  show k<(s.rows.set k _).length
  rw [List.length_set];exact hlt
 have u2:=u_row u1.1 hlt1 ((c.set i u).set j w)
 rw [setRow_two] at u2
 refine zw x _ _ hx (zw y _ _ hy (zw o _ _ (ho _) (zw i1 _ _ (h1 _) (setI_l hrow (by rw [wd];exact hi) ?_))))
 rw [zs_set]
 refine zw o _ _ (ho _) (zw i2 _ _ (h2 _) (setI_l hrow1 (by rw [wd,List.length_set];exact hj) ?_))
 rw [zs_set]
 exact q _ (u1.trans u2)
theorem c_moved(So:Sol H lay s)(ha:lay .ins=a)(K:KnOK s){k:Nat}{c rest:List Int}{lit w:Int}(hk:s.rows[k]?=some c)(hc:c=lit::w::rest∨c=w::lit::rest)(hw:w≠lit)(hlen:c.length<sz)(hz:s.wks.length<sz)(hz2:∀l,(wg s l).length<sz)
  (q1:sayV s w= .bool true→∀H',SF H lay s H' lay (s.setRow k (w::lit::rest))→Q (.bool false) H')
  (q2:sayV s w≠ .bool true→(∀x∈rest,sayV s x= .bool false)→∀H',SF H lay s H' lay (s.setRow k (w::lit::rest))→Q (.bool false) H')
  (q3:∀i x,rest[i]?=some x→sayV s x≠ .bool false→∀H' lay',(∀r,use s r→lay' r=lay r)→SF H lay s H' lay' (addW (s.setRow k (w::x::rest.set i lit)) x k)→Q (.bool true) H'):spN tabL (n+2) 10 [.ref a,.int k,.int lit] H Q:=by
 have hlt:=(List.getElem?_eq_some_iff.mp hk).1
 refine sp_go rfl rfl (zj (vj (zw _ _ _ (ref_row So ha hlt rfl) ?_)))
 suffices hmain:∀H',SF H lay s H' lay (s.setRow k (w::lit::rest))→(S.seq (.ite (.cmp .eq (.callM 2 (.loc 0) [(.sub (.loc 3) (.c (.int 0)))]) (.c (.bool true))) (.seq (.ret (.c (.bool false))) .skip) .skip) (.seq (.for_ 4 (.rng (.c (.int 2)) (.bi .len [(.loc 3)])) (.seq (.ite (.cmp .ne (.callM 2 (.loc 0) [(.sub (.loc 3) (.loc 4))]) (.c (.bool false))) (.seq (.swap (.loc 3) (.c (.int 1)) (.loc 3) (.loc 4) (.sub (.loc 3) (.loc 4)) (.loc 2)) (.seq (.ex (.bm .append (.bm .setdef (.attr (.loc 0) 8) [(.sub (.loc 3) (.c (.int 1))),(.list [])]) [(.loc 1)])) (.seq (.ret (.c (.bool true))) .skip))) .skip) .skip)) (.seq (.ret (.c (.bool false))) .skip))).wp (spN tabL (n+1)) [.ref a,.int k,.int lit,.ref (lay (.cl k)),.un] H' (fun _ H=>Q .none H) (rt Q) by
  have hrow:=So.row hk
  rcases hc with rfl|rfl
  ·refine zj (s_ite (b:=true) (pvb (pvb rfl (pvb rfl (sb_l (n:=0) hrow rfl))) (pvb rfl (pcm (eq_ii.trans (by rw [decide_eq_true rfl]))))) (fun _=>?_) fun h=>by cases h)
   exact zj (s_swp So hk (i:=0) (j:=1) (u:=w) (w:=lit) (by simp) (by simp) (by exact pvb rfl (pvb rfl (sb_l (n:=1) hrow rfl))) rfl (fun _=>rfl) (fun _=>rfl) (fun _=>rfl) fun H' h=>zy (hmain H' h))
  ·refine zj (s_ite (b:=false) (pvb (pvb rfl (pvb rfl (sb_l (n:=0) hrow rfl))) (pvb rfl (pcm (eq_ii.trans (by rw [decide_eq_false hw]))))) (fun h=>by cases h) fun _=>zy (hmain H ?_))
   rw [setRow_same hk];exact .refl So
 intro H1 h1
 have hrow:=h1.1.row (setRow_at hlt)
 have hlen':(w::lit::rest).length=c.length:=by rcases hc with rfl|rfl<;>rfl
 have hret:∀{P:List V→AH→Prop} {R:V→AH→Prop} {m:List V} {b:Bool},R (.bool b) H1→(S.seq (.ret (.c (.bool b))) .skip).wp (spN tabL (n+1)) m H1 P R:=fun r=>zj (s_ret (zw (.c (.bool _)) _ _ rfl r))
 have hbig:∀{k:Nat},k<sz→-big≤(k:Int)∧(k:Int)<big:=fun h=>⟨by unfold big;lia,by unfold big;unfold sz at h;lia⟩
 refine zj (s_says (l:=w) (b:=decide (sayV s w= .bool true)) h1.1 ha K rfl (pvb rfl (pvb rfl (sb_l (n:=0) hrow rfl))) ?_ (fun hd=>hret (q1 (of_decide_eq_true hd) _ h1)) fun hd=>?_)
 ·show cmpV H1 .eq (sayV s w) (.bool true)=_
  rcases say_kinds s w with e|e|e<;>rw [e]<;>rfl
 have hd:=of_decide_eq_false hd
 refine zy (zj (s_rng (lo:=2) (hi:=c.length) rfl (len_pv rfl (by rw [ln_zs hrow,hlen'])) (by decide) (hbig hlen) ?_))
 refine floop_ind (fun i m H'=>∃z,An3 (m=[.ref a,.int k,.int lit,.ref (lay (.cl k)),z]) (H'=H1) (∀j x,j<i→rest[j]?=some x→sayV s x= .bool false)) _ (fun i v m H' K' hv hI hK=>?_) (fun m H' hI=>?_) ⟨.un,rfl,rfl,fun j x h=>absurd h (Nat.not_lt_zero _)⟩
 ·obtain ⟨z,rfl,rfl,hI⟩:=hI
  obtain ⟨rfl,hi⟩:=rng_at hv
  have hi:i<rest.length:=by
   rw [←hlen'] at hi
   simp only [List.length_cons] at hi
   lia
  have e2:(2:Int)+(i:Int)=((2+i:Nat):Int):=by lia
  have hx:rest[i]?=some rest[i]:=List.getElem?_eq_getElem hi
  have hget:(w::lit::rest)[2+i]?=some rest[i]:=by
   rw [show 2+i=i+1+1 by lia,List.getElem?_cons_succ,List.getElem?_cons_succ];exact hx
  refine ⟨trivial,zj (s_says (l:=rest[i]) (b:=decide (sayV s rest[i]≠ .bool false)) h1.1 ha K rfl (by exact pvb rfl (pvb rfl (sb_l hrow (by rw [e2];exact idx_nat (zs_get hget))))) ?_ (fun hd=>?_) fun hd=>zy (zy (hK _ _ ⟨_,rfl,rfl,fun j x hj hjx=>?_⟩)))⟩
  ·show cmpV H' .ne (sayV s rest[i]) (.bool false)=_
   rcases say_kinds s rest[i] with e|e|e<;>rw [e]<;>rfl
  ·refine zj (s_swp h1.1 (setRow_at hlt) (i:=1) (j:=2+i) (u:=rest[i]) (w:=lit) (by simp) (by simp only [List.length_cons];lia) (by exact pvb rfl (pvb rfl (sb_l hrow (by rw [e2];exact idx_nat (zs_get hget))))) rfl (fun _=>rfl) (fun _=>rfl) (fun _=>by rw [←e2];rfl) fun H2 h2=>?_)
   rw [setRow_two] at h2
   have e3:((w::lit::rest).set 1 rest[i]).set (2+i) lit=w::rest[i]::rest.set i lit:=by
    rw [show 2+i=i+1+1 by lia];rfl
   rw [e3] at h2
   have hrow2:=h2.1.row (setRow_at hlt)
   have h12:=h1.trans h2
   have hus:∀r,use s r→use (s.setRow k (w::rest[i]::rest.set i lit)) r:=fun r u=>by
    induction r<;>first|exact u|skip
    rename_i kk
    show kk<(s.rows.set k _).length
    rw [List.length_set];exact u
   exact zj (s_ex (w_add (w:=rest[i]) (k:=k) h2.1 ha rfl (by exact pvb rfl (pvb rfl (sb_l (n:=1) hrow2 rfl))) (fun _ _ _ _ _=>rfl) hz (hz2 _) fun H3 lay3 hl3 h3=>zj (s_ret (zw (.c (.bool true)) _ _ rfl ⟨trivial,q3 i _ hx (of_decide_eq_true hd) H3 lay3 (fun r u=>hl3 r (hus r u)) (h12.trans h3)⟩))))
  ·have hd:=of_decide_eq_false hd
   rcases Nat.lt_succ_iff_lt_or_eq.mp hj with hj|rfl
   ·exact hI j x hj hjx
   ·rw [hx] at hjx
    cases hjx
    exact Decidable.not_not.mp hd
 ·refine nn fun hC=>?_
  obtain ⟨z,rfl,rfl,hI⟩:=hI
  refine hC ?_
  refine ⟨trivial,hret (q2 hd (fun x hx=>?_) _ h1)⟩
  obtain ⟨j,hj,rfl⟩:=List.getElem_of_mem hx
  refine hI j _ ?_ (List.getElem?_eq_getElem hj)
  rw [rng_len,←hlen']
  simp only [List.length_cons]
  lia
end
end Mine
end
section
open PySem PySem.W
set_option tactic.hygienic false
namespace Mine
noncomputable def ltr(α:Nat→Bool)(l:Int):Prop:=α l.natAbs=decide (0<l)
noncomputable def Sat(α:Nat→Bool)(c:List Int):Prop:=∃l∈c,ltr α l
theorem ltr_neg{α:Nat→Bool}{l:Int}(h:l≠0):ltr α (-l)↔¬ltr α l:=by
 unfold ltr
 rw [Int.natAbs_neg]
 have:decide (0< -l)=!decide (0<l):=by
  by_cases h2:0<l
  ·rw [decide_eq_true h2,decide_eq_false (by lia)];rfl
  ·rw [decide_eq_false h2,decide_eq_true (by lia)];rfl
 rw [this]
 induction α l.natAbs<;>induction decide (0<l)<;>simp
noncomputable def lvl(be:List Nat)(i:Nat):Nat:=(be.filter fun b=>decide (b≤i)).length
section
variable{be:List Nat}
theorem lvl_le{i:Nat}:lvl be i≤be.length:=List.length_filter_le ..
theorem lvl_mono{i j:Nat}(h:i≤j):lvl be i≤lvl be j:=by
 unfold lvl
 induction be with
 |nil=>exact Nat.le_refl _
 |cons b be ih=>
  rw [List.filter_cons,List.filter_cons]
  by_cases hb:b≤i
  ·rw [if_pos (decide_eq_true hb),if_pos (decide_eq_true (Nat.le_trans hb h))]
   exact Nat.succ_le_succ ih
  ·rw [if_neg (by simp [hb])]
   split
   ·exact Nat.le_succ_of_le ih
   ·exact ih
theorem lvl_all{i:Nat}(h:∀b∈be,b≤i):lvl be i=be.length:=by
 unfold lvl
 rw [List.filter_eq_self.mpr fun b hb=>decide_eq_true (h b hb)]
theorem lvl_app{be':List Nat}{i:Nat}:lvl (be++be') i=lvl be i+lvl be' i:=by
 unfold lvl
 rw [List.filter_append,List.length_append]
theorem lvl_none{i:Nat}(h:∀b∈be,i<b):lvl be i=0:=by
 unfold lvl
 rw [List.filter_eq_nil_iff.mpr fun b hb=>by have:=h b hb;simp;assumption];rfl
theorem srt_drop{h p:Nat}(s:be.Pairwise (·≤·))(hp:be[h]?=some p):∀b∈be.drop h,p≤b:=by
 intro b hb
 obtain ⟨hl,rfl⟩:=List.getElem?_eq_some_iff.mp hp
 rw [List.drop_eq_getElem_cons hl] at hb
 rcases List.mem_cons.mp hb with rfl|hb
 ·exact Nat.le_refl _
 ·have:=s.sublist (List.drop_sublist h be)
  rw [List.drop_eq_getElem_cons hl] at this
  exact (List.pairwise_cons.mp this).1 b hb
theorem srt_take{h p:Nat}(s:be.Pairwise (·≤·))(hp:be[h]?=some p):∀b∈be.take h,b≤p:=by
 intro b hb
 obtain ⟨hl,rfl⟩:=List.getElem?_eq_some_iff.mp hp
 have s':=s
 rw [←List.take_append_drop h be,List.pairwise_append] at s'
 exact s'.2.2 b hb _ (by rw [List.drop_eq_getElem_cons hl];exact List.mem_cons_self ..)
theorem lvl_take{h p i:Nat}(s:be.Pairwise (·≤·))(hp:be[h]?=some p)(hi:i<p):lvl (be.take h) i=lvl be i:=by
 have e:lvl be i=lvl (be.take h++be.drop h) i:=by rw [List.take_append_drop]
 rw [e,lvl_app,lvl_none fun b hb=>Nat.lt_of_lt_of_le hi (srt_drop s hp b hb)];rfl
theorem lvl_lt{h p i:Nat}(s:be.Pairwise (·≤·))(hp:be[h]?=some p):lvl be i≤h↔i<p:=by
 obtain ⟨hl,_⟩:=List.getElem?_eq_some_iff.mp hp
 have e:lvl be i=lvl (be.take h++be.drop h) i:=by rw [List.take_append_drop]
 constructor
 ·intro q
  rcases Nat.lt_or_ge i p with h'|h'
  ·exact h'
  ·exfalso
   have h1:lvl (be.take h) i=h:=by
    rw [lvl_all fun b hb=>Nat.le_trans (srt_take s hp b hb) h',List.length_take];lia
   have h2:0<lvl (be.drop h) i:=by
    unfold lvl
    rw [List.length_pos_iff]
    intro h3
    rw [List.filter_eq_nil_iff] at h3
    obtain ⟨hl,rfl⟩:=List.getElem?_eq_some_iff.mp hp
    refine h3 be[h] (by rw [List.drop_eq_getElem_cons hl];exact List.mem_cons_self ..) ?_
    exact decide_eq_true h'
   rw [e,lvl_app] at q
   lia
 ·intro q
  rw [←lvl_take s hp q]
  exact Nat.le_trans lvl_le (by rw [List.length_take];exact Nat.min_le_left ..)
end
noncomputable def RowOK(N:Nat)(c:List Int):Prop:=2≤c.length∧(c.map Int.natAbs).Nodup∧∀x∈c,x≠0∧x.natAbs≤N
noncomputable def wch(c:List Int)(l:Int):Prop:=c[0]?=some l∨c[1]?=some l
noncomputable def Pair(c:List Int)(w w':Int):Prop:=(c[0]?=some w∧c[1]?=some w')∨(c[1]?=some w∧c[0]?=some w')
noncomputable def Wat(s:St)(k:Nat)(l:Int):Prop:=∃c,s.rows[k]?=some c∧wch c l
noncomputable def CauseAt(s:St)(i:Nat)(l:Int):Prop:=(get s.ca l.natAbs=some .none∧(lvl s.be i=0∨i∈s.be))∨
 Ex2 fun (k:Nat) (c:List Int)=>An4 (get s.ca l.natAbs=some (.int k)) (s.rows[k]?=some c) (l∈c) (∀x∈c,x≠l→-x∈s.ro.take i)
structure Core(N:Nat)(M:(Nat→Bool)→Prop)(s:St):Prop where
 td:TD N s
 he:∀(i:Nat) (l:Int),s.ro[i]?=some l→get s.he l.natAbs=some (.int (lvl s.be i))
 ca:∀(i:Nat) (l:Int),s.ro[i]?=some l→CauseAt s i l
 srt:s.be.Pairwise (·≤·)
 bs:∀b∈s.be,b≤s.seen
 sl:s.seen≤s.ro.length
 rk:∀c∈s.rows,RowOK N c
 rM:∀c∈s.rows,∀α,M α→Sat α c
 zM:∀(i:Nat) (l:Int),s.ro[i]?=some l→lvl s.be i=0→∀α,M α→ltr α l
 ht:HtOK N s.ht
 wn:s.wks.Nodup
 wr:∀l∈s.wks,l≠0∧l.natAbs≤N
 lim:s.lim=0∨s.lim=1
noncomputable def Cv(M:(Nat→Bool)→Prop)(s:St):Prop:=∀α,(∀c∈s.rows,Sat α c)→(∀(i:Nat) (l:Int),s.ro[i]?=some l→lvl s.be i=0→ltr α l)→M α
structure WI(s:St):Prop where
 iff:∀k l,k∈wg s l↔Wat s k l
 nd:∀l,(wg s l).Nodup
noncomputable def PR(s:St)(p:Nat):Prop:=∀(k:Nat) (c:List Int) (w w':Int),s.rows[k]?=some c→Pair c w w'→∀i<p,s.ro[i]?=some (-w)→∃j,s.ro[j]?=some w'∧lvl s.be j≤lvl s.be i
section
variable{N:Nat}{M:(Nat→Bool)→Prop}{s:St}
theorem Core.kb(C:Core N M s):∀b∈s.be,b≤s.ro.length:=fun b hb=>Nat.le_trans (C.bs b hb) C.sl
theorem Core.wlen(C:Core N M s):s.wks.length≤2*N:=by
 have h1:=nodup_le (r:=(oneTo N)++(oneTo N).map fun x=> -x) C.wn fun l hl=>by
  obtain ⟨h0,h2⟩:=C.wr l hl
  rw [List.mem_append]
  by_cases h:0<l
  ·exact .inl (mem_oneTo.mpr ⟨by assumption,by lia⟩)
  ·exact .inr (List.mem_map.mpr ⟨-l,mem_oneTo.mpr ⟨by lia,by lia⟩,by lia⟩)
 rw [List.length_append,List.length_map,oneTo_len] at h1
 lia
theorem Core.sz(C:Core N M s)(hN:N<1000):Sz s:=by
 have h:N<Mine.sz:=Nat.lt_trans hN (by decide)
 exact ⟨Nat.lt_of_le_of_lt C.td.kK.len h,Nat.lt_of_le_of_lt C.td.hK.len h,Nat.lt_of_le_of_lt C.td.cK.len h,Nat.lt_of_le_of_lt C.td.len h⟩
theorem WI.len(W:WI s){l:Int}:(wg s l).length≤s.rows.length:=by
 have:=nodup_le (r:=List.range s.rows.length) (W.nd l) fun k hk=>by
  obtain ⟨c,hc,_⟩:=(W.iff k l).mp hk
  exact List.mem_range.mpr (List.getElem?_eq_some_iff.mp hc).1
 rwa [List.length_range] at this
theorem row_len(h:∀c∈s.rows,RowOK N c){k:Nat}{c:List Int}(hk:s.rows[k]?=some c):c.length≤N:=by
 obtain ⟨_,h2,h3⟩:=h c (List.mem_of_getElem? hk)
 have:=nodup_le (r:=(List.range N).map (·+1)) h2 fun x hx=>by
  obtain ⟨l,hl,rfl⟩:=List.mem_map.mp hx
  have:=h3 l hl
  exact List.mem_map.mpr ⟨l.natAbs-1,List.mem_range.mpr (sub_1 (Int.natAbs_pos.mpr this.1) this.2),Nat.sub_add_cancel (Int.natAbs_pos.mpr this.1)⟩
 rwa [List.length_map,List.length_map,List.length_range] at this
theorem at_app{l x:Int}{i:Nat}(h:(s.ro++[l])[i]?=some x):s.ro[i]?=some x∨(i=s.ro.length∧x=l):=by
 rcases Nat.lt_or_ge i s.ro.length with h'|h'
 ·rw [List.getElem?_append_left h'] at h;exact .inl h
 ·have h2:=(List.getElem?_eq_some_iff.mp h).1
  rw [List.length_append,List.length_singleton] at h2
  obtain rfl:i=s.ro.length:=by lia
  rw [List.getElem?_concat_length] at h
  cases h;exact .inr ⟨rfl,rfl⟩
theorem app_at{l x:Int}{i:Nat}(h:s.ro[i]?=some x):(s.ro++[l])[i]?=some x:=by
 rw [List.getElem?_append_left (List.getElem?_eq_some_iff.mp h).1];exact h
theorem Core.let_(C:Core N M s){l:Int}{v:V}(h0:l≠0)(hl:l.natAbs≤N)(hn:∀x∈s.ro,x.natAbs≠l.natAbs)
  (hc:(v= .none∧(s.be.length=0∨s.ro.length∈s.be))∨Ex2 fun (k:Nat) (c:List Int)=>An4 (v= .int k) (s.rows[k]?=some c) (l∈c) (∀x∈c,x≠l→-x∈s.ro))
  (hz:s.be.length=0→∀α,M α→ltr α l):Core N M (letS s l v):=by
 have hlv:lvl s.be s.ro.length=s.be.length:=lvl_all C.kb
 have hne:∀(i:Nat) (x:Int),s.ro[i]?=some x→((x.natAbs:Nat):Int)≠l.natAbs:=fun i x h e=>hn x (List.mem_of_getElem? h) (by exact_mod_cast e)
 have hlt:∀(i:Nat) (x:Int),s.ro[i]?=some x→(s.ro++[l]).take i=s.ro.take i:=fun i x h=>by
  rw [List.take_append_of_le_length (Nat.le_of_lt (List.getElem?_eq_some_iff.mp h).1)]
 refine ⟨C.td.let_ h0 hl hn,fun i x hx=>?_,fun i x hx=>?_,C.srt,C.bs,?_,C.rk,C.rM,fun i x hx hi=>?_,C.ht,C.wn,C.wr,C.lim⟩
 ·show get (put s.he l.natAbs (.int s.be.length)) x.natAbs=some (.int (lvl s.be i))
  rw [get_put]
  rcases at_app hx with hx|⟨rfl,rfl⟩
  ·rw [if_neg (hne i x hx)];exact C.he i x hx
  ·rw [if_pos rfl,hlv]
 ·rcases at_app hx with hx|⟨rfl,rfl⟩
  ·rcases C.ca i x hx with ⟨h1,h2⟩|⟨k,c,h1,h2,h3,h4⟩
   ·refine .inl ⟨?_,h2⟩
    show get (put s.ca l.natAbs v) x.natAbs=_
    rw [get_put,if_neg (hne i x hx)];exact h1
   ·refine .inr ⟨k,c,?_,h2,h3,fun y hy hyx=>?_⟩
    ·show get (put s.ca l.natAbs v) x.natAbs=_
     rw [get_put,if_neg (hne i x hx)];exact h1
    ·show-y∈(s.ro++[l]).take i
     rw [hlt i x hx];exact h4 y hy hyx
  ·have e:get (put s.ca x.natAbs v) x.natAbs=some v:=by rw [get_put,if_pos rfl]
   rcases hc with ⟨rfl,h⟩|⟨k,c,rfl,h1,h2,h3⟩
   ·exact .inl ⟨e,h.imp (fun h=>by show lvl s.be s.ro.length=0;rw [hlv];exact h) id⟩
   ·refine .inr ⟨k,c,e,h1,h2,fun y hy hyx=>?_⟩
    show-y∈(s.ro++[x]).take s.ro.length
    rw [List.take_left']
    ·exact h3 y hy hyx
    ·rfl
 ·show s.seen≤(s.ro++[l]).length
  rw [List.length_append];exact Nat.le_add_right_of_le C.sl
 ·rcases at_app hx with hx|⟨rfl,rfl⟩
  ·exact C.zM i x hx hi
  ·exact hz (by rw [←hlv];exact hi)
theorem Cv.let_(h:Cv M s){l:Int}{v:V}:Cv M (letS s l v):=fun α h1 h2=>h α h1 fun i x hx hi=>h2 i x (app_at hx) hi
theorem PR.let_{p:Nat}(h:PR s p)(hp:p≤s.ro.length){l:Int}{v:V}:PR (letS s l v) p:=fun k c w w' hk hc i hi hx=>by
 have hx:s.ro[i]?=some (-w):=by
  rcases at_app hx with hx|⟨rfl,_⟩
  ·exact hx
  ·lia
 obtain ⟨j,h1,h2⟩:=h k c w w' hk hc i hi hx
 exact ⟨j,app_at h1,h2⟩
theorem rows_set{k k':Nat}{c c':List Int}(h:(s.rows.set k c')[k']?=some c):(k'=k∧c=c')∨(k'≠k∧s.rows[k']?=some c):=by
 by_cases e:k'=k
 ·subst e
  have h2:=(List.getElem?_eq_some_iff.mp h).1
  rw [List.length_set] at h2
  rw [List.getElem?_set_self h2] at h
  cases h;exact .inl ⟨rfl,rfl⟩
 ·rw [List.getElem?_set_ne fun q=>e q.symm] at h;exact .inr ⟨e,h⟩
theorem rows_mem{k:Nat}{c c':List Int}(h:c∈s.rows.set k c'):c=c'∨c∈s.rows:=(List.mem_or_eq_of_mem_set h).symm
theorem Core.row(C:Core N M s){k:Nat}{c c':List Int}(hk:s.rows[k]?=some c)(hp:c'.Perm c):Core N M (s.setRow k c'):=by
 have hc:=List.mem_of_getElem? hk
 refine ⟨⟨C.td.nz,C.td.nd,C.td.kn,C.td.kK,C.td.hK,C.td.cK,C.td.lK,C.td.lB⟩,C.he,fun i l hl=>?_,C.srt,C.bs,C.sl,fun d hd=>?_,fun d hd α hα=>?_,C.zM,C.ht,C.wn,C.wr,C.lim⟩
 ·rcases C.ca i l hl with h|⟨k2,c2,h1,h2,h3,h4⟩
  ·exact .inl h
  ·by_cases e:k2=k
   ·subst e
    rw [hk] at h2;cases h2
    exact .inr ⟨k2,c',h1,setRow_at (List.getElem?_eq_some_iff.mp hk).1,hp.mem_iff.mpr h3,fun x hx=>h4 x (hp.mem_iff.mp hx)⟩
   ·refine .inr ⟨k2,c2,h1,?_,h3,h4⟩
    show (s.rows.set k c')[k2]?=_
    rw [List.getElem?_set_ne fun q=>e q.symm];exact h2
 ·rcases rows_mem hd with rfl|hd
  ·obtain ⟨h1,h2,h3⟩:=C.rk c hc
   exact ⟨by rw [hp.length_eq];exact h1,(hp.map _).nodup_iff.mpr h2,fun x hx=>h3 x (hp.mem_iff.mp hx)⟩
  ·exact C.rk d hd
 ·rcases rows_mem hd with rfl|hd
  ·obtain ⟨l,h1,h2⟩:=C.rM c hc α hα
   exact ⟨l,hp.mem_iff.mpr h1,h2⟩
  ·exact C.rM d hd α hα
theorem Cv.row(h:Cv M s){k:Nat}{c c':List Int}(hk:s.rows[k]?=some c)(hp:c'.Perm c):Cv M (s.setRow k c'):=fun α h1 h2=>h α (fun d hd=>by
 obtain ⟨k2,hk2⟩:=List.mem_iff_getElem?.mp hd
 by_cases e:k2=k
 ·subst e
  rw [hk] at hk2;cases hk2
  obtain ⟨l,hl,hl2⟩:=h1 c' (List.mem_of_getElem? (setRow_at (s:=s) (List.getElem?_eq_some_iff.mp hk).1))
  exact ⟨l,hp.mem_iff.mp hl,hl2⟩
 ·refine h1 d (List.mem_of_getElem? (i:=k2) ?_)
  show (s.rows.set k c')[k2]?=_
  rw [List.getElem?_set_ne fun q=>e q.symm];exact hk2) h2
theorem Core.wat(C:Core N M s){ks:List Int}{f:Int→List Nat}(h1:ks.Nodup)(h2:∀l∈ks,l≠0∧l.natAbs≤N):Core N M (s.wW ks f):=
 ⟨⟨C.td.nz,C.td.nd,C.td.kn,C.td.kK,C.td.hK,C.td.cK,C.td.lK,C.td.lB⟩,C.he,C.ca,C.srt,C.bs,C.sl,C.rk,C.rM,C.zM,C.ht,h1,h2,C.lim⟩
theorem Core.addW(C:Core N M s){w:Int}{k:Nat}(h0:w≠0)(hl:w.natAbs≤N):Core N M (addW s w k):=by
 refine C.wat ?_ fun l hl'=>?_
 ·split
  ·exact C.wn
  ·rename_i hk
   rw [List.nodup_append]
   exact ⟨C.wn,by simp,fun a ha b hb e=>hk (by rw [←List.mem_singleton.mp hb,←e];exact ha)⟩
 ·split at hl'
  ·exact C.wr l hl'
  ·rcases List.mem_append.mp hl' with h|h
   ·exact C.wr l h
   ·rw [List.mem_singleton.mp h];exact ⟨h0,hl⟩
end
structure SpI(N:Nat)(M:(Nat→Bool)→Prop)(s:St)(p:Nat)(lit:Int)(ol:List Nat)(i:Nat):Prop where
 core:Core N M s
 cv:Cv M s
 seen:s.seen=p+1
 at_:s.ro[p]?=some (-lit)
 be:∀b∈s.be,b≤p
 pr:PR s p
 wi:∀k l,l≠lit→(k∈wg s l↔Wat s k l)
 wl:∀k,(k∈wg s lit∨k∈ol.drop i)↔Wat s k lit
 nd:∀l,l≠lit→(wg s l).Nodup
 nl:(wg s lit++ol.drop i).Nodup
 prl:∀k∈wg s lit,∀(c:List Int) (w':Int),s.rows[k]?=some c→Pair c lit w'→∃j,s.ro[j]?=some w'∧lvl s.be j≤lvl s.be p
 lk:lit∈s.wks
theorem perm_swap{x lit:Int}:∀{r:List Int} {i:Nat},r[i]?=some x→(x::r.set i lit).Perm (lit::r)
 |[],i,h=>by cases h
 |y::r,0,h=>by
  cases h
  exact .swap ..
 |y::r,i+1,h=>by
  have:=perm_swap (lit:=lit) (r:=r) (i:=i) h
  exact (List.Perm.swap y x _).trans ((this.cons y).trans (.swap ..))
section
variable{N:Nat}{M:(Nat→Bool)→Prop}{s:St}{p i k:Nat}{lit w:Int}{ol:List Nat}{c rest:List Int}
theorem wch_pair{c:List Int}{l:Int}(h2:2≤c.length)(h:wch c l):∃w r,c=l::w::r∨c=w::l::r:=by
 match c,h2,h with
 |a::b::r,_,.inl h=>cases h;exact ⟨b,r,.inl rfl⟩
 |a::b::r,_,.inr h=>cases h;exact ⟨a,r,.inr rfl⟩
theorem SpI.row(S:SpI N M s p lit ol i)(hk:ol[i]?=some k):Ex3 fun c w rest=>An7 (s.rows[k]?=some c) ((c=lit::w::rest∨c=w::lit::rest)) (w≠lit) (lit∉rest) (w∉rest) ((w::lit::rest).Perm c) (rest.Nodup):=by
 have hd:ol.drop i=k::ol.drop (i+1):=by
  obtain ⟨h,rfl⟩:=List.getElem?_eq_some_iff.mp hk
  exact List.drop_eq_getElem_cons h
 refine nn fun hC=>?_
 obtain ⟨c,hc,hw⟩:=(S.wl k).mp (.inr (by rw [hd];exact List.mem_cons_self ..))
 obtain ⟨h1,h2,h3⟩:=S.core.rk c (List.mem_of_getElem? hc)
 obtain ⟨w,r,h⟩:=wch_pair h1 hw
 refine hC ?_
 have hp:(w::lit::r).Perm c:=by
  rcases h with rfl|rfl
  ·exact .swap ..
  ·exact .refl _
 have hnd:(w::lit::r).Nodup:=by
  have h4:((w::lit::r).map Int.natAbs).Nodup:=(hp.map _).nodup_iff.mpr h2
  exact List.Pairwise.imp (fun h e=>h (congrArg Int.natAbs e)) (List.pairwise_map.mp h4)
 have a1:=List.nodup_cons.mp hnd
 have a2:=List.nodup_cons.mp a1.2
 exact ⟨c,w,r,hc,h,fun e=>a1.1 (by rw [e];exact List.mem_cons_self ..),a2.1,fun q=>a1.1 (List.mem_cons_of_mem _ q),hp,a2.2⟩
theorem drop_get(hk:ol[i]?=some k):ol.drop i=k::ol.drop (i+1):=by
 obtain ⟨h,rfl⟩:=List.getElem?_eq_some_iff.mp hk
 exact List.drop_eq_getElem_cons h
theorem pair_two{w v x y:Int}{r:List Int}(h:Pair (w::v::r) x y):(x=w∧y=v)∨(x=v∧y=w):=by
 rcases h with ⟨h1,h2⟩|⟨h1,h2⟩
 ·cases h1;cases h2;exact .inl ⟨rfl,rfl⟩
 ·cases h1;cases h2;exact .inr ⟨rfl,rfl⟩
theorem wch_two{w v x:Int}{r:List Int}:wch (w::v::r) x↔x=w∨x=v:=by
 constructor
 ·rintro (h|h)
  ·cases h;exact .inl rfl
  ·cases h;exact .inr rfl
 ·rintro (rfl|rfl)
  ·exact .inl rfl
  ·exact .inr rfl
theorem SpI.order(S:SpI N M s p lit ol i)(hk:s.rows[k]?=some c)(hc:c=lit::w::rest∨c=w::lit::rest):SpI N M (s.setRow k (w::lit::rest)) p lit ol i:=by
 have hp:(w::lit::rest).Perm c:=by
  rcases hc with rfl|rfl
  ·exact .swap ..
  ·exact .refl _
 have hch:∀l,wch (w::lit::rest) l↔wch c l:=fun l=>by
  rcases hc with rfl|rfl
  ·rw [wch_two,wch_two,or_comm]
  ·exact Iff.rfl
 have hpr:∀x y,Pair (w::lit::rest) x y→Pair c x y:=fun x y h=>by
  rcases hc with rfl|rfl
  ·rcases pair_two h with ⟨rfl,rfl⟩|⟨rfl,rfl⟩
   ·exact .inr ⟨rfl,rfl⟩
   ·exact .inl ⟨rfl,rfl⟩
  ·exact h
 have hlt:=(List.getElem?_eq_some_iff.mp hk).1
 have hW:∀q l,Wat (s.setRow k (w::lit::rest)) q l↔Wat s q l:=fun q l=>by
  constructor
  ·rintro ⟨d,hd,h⟩
   rcases rows_set hd with ⟨rfl,rfl⟩|⟨_,hd⟩
   ·exact ⟨c,hk,(hch l).mp h⟩
   ·exact ⟨d,hd,h⟩
  ·rintro ⟨d,hd,h⟩
   by_cases e:q=k
   ·subst e
    rw [hk] at hd;cases hd
    exact ⟨_,setRow_at hlt,(hch l).mpr h⟩
   ·exact ⟨d,by show (s.rows.set k _)[q]?=_;rw [List.getElem?_set_ne fun x=>e x.symm];exact hd,h⟩
 have hP:∀(q:Nat) (d:List Int) (x y:Int),(s.rows.set k (w::lit::rest))[q]?=some d→Pair d x y→∃d',s.rows[q]?=some d'∧Pair d' x y:=fun q d x y hd h=>by
  rcases rows_set hd with ⟨rfl,rfl⟩|⟨_,hd⟩
  ·exact ⟨c,hk,hpr x y h⟩
  ·exact ⟨d,hd,h⟩
 refine ⟨S.core.row hk hp,S.cv.row hk hp,S.seen,S.at_,S.be,fun q d x y hd h=>?_,fun q l hl=>?_,fun q=>?_,S.nd,S.nl,fun q hq d y hd h=>?_,S.lk⟩
 ·obtain ⟨d',h1,h2⟩:=hP q d x y hd h
  exact S.pr q d' x y h1 h2
 ·rw [hW];exact S.wi q l hl
 ·rw [hW];exact S.wl q
 ·obtain ⟨d',h1,h2⟩:=hP q d lit y hd h
  exact S.prl q hq d' y h1 h2
noncomputable def keptS(s:St)(lit:Int)(ns:List Nat):St:=s.wW s.wks fun l=>if l=lit then ns else s.wat l
theorem wg_kept{l:Int}{ns:List Nat}(h:lit∈s.wks):wg (keptS s lit ns) l=if l=lit then ns else wg s l:=by
 show (if l∈s.wks then (if l=lit then ns else s.wat l) else [])=if l=lit then ns else if l∈s.wks then s.wat l else []
 by_cases e:l=lit
 ·subst e;rw [if_pos h,if_pos rfl];simp
 ·rw [if_neg e,if_neg e]
theorem SpI.keep(S:SpI N M s p lit ol i)(hk:ol[i]?=some k)(hr:s.rows[k]?=some (w::lit::rest))(hw:∃j,s.ro[j]?=some w∧lvl s.be j≤lvl s.be p)(hwl:w≠lit):SpI N M (keptS s lit (wg s lit++[k])) p lit ol (i+1):=by
 have hd:=drop_get hk
 have e1:wg (keptS s lit (wg s lit++[k])) lit=wg s lit++[k]:=by rw [wg_kept S.lk,if_pos rfl]
 have e2:∀l,l≠lit→wg (keptS s lit (wg s lit++[k])) l=wg s l:=fun l h=>by rw [wg_kept S.lk,if_neg h]
 refine ⟨S.core.wat S.core.wn S.core.wr,S.cv,S.seen,S.at_,S.be,S.pr,fun q l hl=>?_,fun q=>?_,fun l hl=>?_,?_,fun q hq d y hd' h=>?_,S.lk⟩
 ·rw [e2 l hl];exact S.wi q l hl
 ·rw [e1,List.mem_append,List.mem_singleton,or_assoc,show (q=k∨q∈ol.drop (i+1))↔q∈ol.drop i by rw [hd,List.mem_cons]]
  exact S.wl q
 ·rw [e2 l hl];exact S.nd l hl
 ·rw [e1,List.append_assoc]
  have:=S.nl
  rw [hd] at this;exact this
 ·rw [e1,List.mem_append,List.mem_singleton] at hq
  rcases hq with hq|rfl
  ·exact S.prl q hq d y hd' h
  ·have:s.rows[q]?=some d:=hd'
   rw [hr] at this;cases this
   rcases pair_two h with ⟨e,_⟩|⟨_,rfl⟩
   ·exact absurd e.symm hwl
   ·exact hw
theorem SpI.clash(S:SpI N M s p lit ol i):Core N M (keptS s lit (wg s lit++ol.drop i))∧WI (keptS s lit (wg s lit++ol.drop i)):=by
 refine ⟨S.core.wat S.core.wn S.core.wr,⟨fun q l=>?_,fun l=>?_⟩⟩
 ·rw [wg_kept S.lk]
  by_cases e:l=lit
  ·subst e
   rw [if_pos rfl,List.mem_append];exact S.wl q
  ·rw [if_neg e];exact S.wi q l e
 ·rw [wg_kept S.lk]
  by_cases e:l=lit
  ·rw [if_pos e];exact S.nl
  ·rw [if_neg e];exact S.nd l e
theorem SpI.done(S:SpI N M s p lit ol i)(hi:ol.length≤i):WI s∧PR s s.seen:=by
 have hd:ol.drop i=[]:=List.drop_of_length_le hi
 refine ⟨⟨fun q l=>?_,fun l=>?_⟩,fun q d x y hd' h j hj hx=>?_⟩
 ·by_cases e:l=lit
  ·subst e
   rw [←S.wl q,hd];simp
  ·exact S.wi q l e
 ·by_cases e:l=lit
  ·subst e
   have:=S.nl
   rw [hd,List.append_nil] at this;exact this
  ·exact S.nd l e
 ·rw [S.seen] at hj
  rcases Nat.lt_succ_iff_lt_or_eq.mp hj with hj|rfl
  ·exact S.pr q d x y hd' h j hj hx
  ·rw [S.at_] at hx
   obtain rfl:lit=x:=by have:=Option.some.inj hx;lia
   have hq:q∈wg s lit:=by
    have:=(S.wl q).mpr ⟨d,hd',?_⟩
    ·rw [hd] at this;simpa using this
    ·rcases h with ⟨h,_⟩|⟨h,_⟩
     ·exact .inl h
     ·exact .inr h
   exact S.prl q hq d y hd' h
theorem SpI.let_(S:SpI N M s p lit ol i)(hr:s.rows[k]?=some (w::lit::rest))(h1:∀x∈s.ro,x.natAbs≠w.natAbs)(h2:∀x∈rest,-x∈s.ro):SpI N M (letS s w (.int k)) p lit ol i∧∃j,(letS s w (.int k)).ro[j]?=some w∧lvl (letS s w (.int k)).be j≤lvl (letS s w (.int k)).be p:=by
 have hc:=List.mem_of_getElem? hr
 obtain ⟨_,hnd,hnz⟩:=S.core.rk _ hc
 have hw:=hnz w (List.mem_cons_self ..)
 have hoth:∀x∈w::lit::rest,x≠w→-x∈s.ro:=fun x hx hxw=>by
  rcases List.mem_cons.mp hx with rfl|hx
  ·exact absurd rfl hxw
  ·rcases List.mem_cons.mp hx with rfl|hx
   ·exact List.mem_of_getElem? S.at_
   ·exact h2 x hx
 have hpl:p<s.ro.length:=(List.getElem?_eq_some_iff.mp S.at_).1
 have hcore:Core N M (letS s w (.int k)):=S.core.let_ hw.1 hw.2 h1 (.inr ⟨k,_,rfl,hr,List.mem_cons_self ..,hoth⟩) fun hz α hα=>by
  obtain ⟨l,hl,ht⟩:=S.core.rM _ hc α hα
  by_cases e:l=w
  ·rw [←e];exact ht
  ·obtain ⟨j,hj⟩:=List.mem_iff_getElem?.mp (hoth l hl e)
   have:=S.core.zM j _ hj (Nat.le_zero.mp (by rw [←hz];exact lvl_le)) α hα
   exact absurd ht ((ltr_neg (hnz l hl).1).mp this)
 have hle:s.ro.length=(letS s w (.int k)).ro.length-1:=by
  show _=(s.ro++[w]).length-1
  rw [List.length_append];rfl
 refine ⟨⟨hcore,S.cv.let_,S.seen,app_at S.at_,S.be,S.pr.let_ (Nat.le_of_lt hpl),S.wi,S.wl,S.nd,S.nl,fun q hq d y hd h=>?_,S.lk⟩,s.ro.length,?_,?_⟩
 ·obtain ⟨j,h3,h4⟩:=S.prl q hq d y hd h
  exact ⟨j,app_at h3,h4⟩
 ·show (s.ro++[w])[s.ro.length]?=_
  rw [List.getElem?_concat_length]
 ·show lvl s.be s.ro.length≤lvl s.be p
  rw [lvl_all S.be];exact lvl_le
theorem SpI.move(S:SpI N M s p lit ol i)(hk:ol[i]?=some k)(hr:s.rows[k]?=some c)(hp:(w::lit::rest).Perm c)(hc:c=lit::w::rest∨c=w::lit::rest){j:Nat}{x:Int}(hx:rest[j]?=some x)(hxf: -x∉s.ro):SpI N M (addW (s.setRow k (w::x::rest.set j lit)) x k) p lit ol (i+1):=by
 have hlt:=(List.getElem?_eq_some_iff.mp hr).1
 have hd:=drop_get hk
 have hp2:(w::x::rest.set j lit).Perm c:=((perm_swap hx).cons w).trans hp
 have hcm:=List.mem_of_getElem? hr
 obtain ⟨_,hnd,hnz⟩:=S.core.rk c hcm
 have hxc:x∈c:=hp.mem_iff.mp (List.mem_cons_of_mem _ (List.mem_cons_of_mem _ (List.mem_of_getElem? hx)))
 have hlc:lit∈c:=hp.mem_iff.mp (List.mem_cons_of_mem _ (List.mem_cons_self ..))
 have hnd2:(w::lit::rest).Nodup:=by
  have h4:((w::lit::rest).map Int.natAbs).Nodup:=(hp.map _).nodup_iff.mpr hnd
  exact List.Pairwise.imp (fun h e=>h (congrArg Int.natAbs e)) (List.pairwise_map.mp h4)
 have a1:=List.nodup_cons.mp hnd2
 have a2:=List.nodup_cons.mp a1.2
 have hwl:w≠lit:=fun e=>a1.1 (by rw [e];exact List.mem_cons_self ..)
 have hxl:x≠lit:=fun e=>a2.1 (by rw [←e];exact List.mem_of_getElem? hx)
 have hxw:x≠w:=fun e=>a1.1 (by rw [←e];exact List.mem_cons_of_mem _ (List.mem_of_getElem? hx))
 have hch:∀l,wch c l↔l=w∨l=lit:=fun l=>by
  rcases hc with rfl|rfl
  ·rw [wch_two,or_comm]
  ·exact wch_two
 have hrow:∀q (d:List Int),(addW (s.setRow k (w::x::rest.set j lit)) x k).rows[q]?=some d→(q=k∧d=w::x::rest.set j lit)∨(q≠k∧s.rows[q]?=some d):=fun q d h=>rows_set h
 have hrow':∀q (d:List Int),q≠k→s.rows[q]?=some d→(addW (s.setRow k (w::x::rest.set j lit)) x k).rows[q]?=some d:=fun q d e h=>by
  show (s.rows.set k _)[q]?=_
  rw [List.getElem?_set_ne fun y=>e y.symm];exact h
 have hWk:∀l,Wat (addW (s.setRow k (w::x::rest.set j lit)) x k) k l↔l=w∨l=x:=fun l=>by
  constructor
  ·rintro ⟨d,h1,h2⟩
   rcases hrow k d h1 with ⟨_,rfl⟩|⟨e,_⟩
   ·exact wch_two.mp h2
   ·exact absurd rfl e
  ·intro h
   exact ⟨_,setRow_at hlt,wch_two.mpr h⟩
 have hWq:∀q l,q≠k→(Wat (addW (s.setRow k (w::x::rest.set j lit)) x k) q l↔Wat s q l):=fun q l e=>by
  constructor
  ·rintro ⟨d,h1,h2⟩
   rcases hrow q d h1 with ⟨rfl,_⟩|⟨_,h⟩
   ·exact absurd rfl e
   ·exact ⟨d,h,h2⟩
  ·rintro ⟨d,h1,h2⟩
   exact ⟨d,hrow' q d e h1,h2⟩
 have hWs:∀l,Wat s k l↔l=w∨l=lit:=fun l=>by
  rw [←hch]
  constructor
  ·rintro ⟨d,h1,h2⟩
   rw [hr] at h1;cases h1;exact h2
  ·exact fun h=>⟨c,hr,h⟩
 have hwg:∀l,wg (addW (s.setRow k (w::x::rest.set j lit)) x k) l=if l=x then wg s x++[k] else wg s l:=fun l=>wg_add
 have hnl:=S.nl
 rw [hd] at hnl
 have hkl:k∉wg s lit:=fun h=>by
  have:=(List.nodup_append.mp hnl).2.2 k h k (List.mem_cons_self ..)
  exact this rfl
 have hkd:k∉ol.drop (i+1):=(List.nodup_cons.mp (List.nodup_append.mp hnl).2.1).1
 have hpl:p<s.ro.length:=(List.getElem?_eq_some_iff.mp S.at_).1
 refine ⟨(S.core.row hr hp2).addW (hnz x hxc).1 (hnz x hxc).2,S.cv.row hr hp2,S.seen,S.at_,S.be,fun q d y z hd' h t ht hy=>?_,fun q l hl=>?_,fun q=>?_,fun l hl=>?_,?_,fun q hq d y hd' h=>?_,?_⟩
 ·rcases hrow q d hd' with ⟨rfl,rfl⟩|⟨_,h1⟩
  ·exfalso
   have hy:s.ro[t]?=some (-y):=hy
   rcases pair_two h with ⟨rfl,rfl⟩|⟨rfl,rfl⟩
   ·obtain ⟨t',h1,_⟩:=S.pr q c y lit hr (by
     rcases hc with rfl|rfl
     ·exact .inr ⟨rfl,rfl⟩
     ·exact .inl ⟨rfl,rfl⟩) t ht hy
    exact S.core.td.no2 (List.mem_of_getElem? h1) (List.mem_of_getElem? S.at_)
   ·exact hxf (List.mem_of_getElem? hy)
  ·exact S.pr q d y z h1 h t ht hy
 ·rw [hwg]
  by_cases e:q=k
  ·subst e
   rw [hWk]
   by_cases e2:l=x
   ·subst e2
    rw [if_pos rfl,List.mem_append,List.mem_singleton]
    exact ⟨fun _=> .inr rfl,fun _=> .inr rfl⟩
   ·rw [if_neg e2,S.wi q l hl,hWs]
    exact ⟨fun h=> .inl (h.elim id fun h=>absurd h hl),fun h=> .inl (h.elim id fun h=>absurd h e2)⟩
  ·rw [hWq q l e,←S.wi q l hl]
   by_cases e2:l=x
   ·subst e2
    rw [if_pos rfl,List.mem_append,List.mem_singleton]
    exact ⟨fun h=>h.elim id fun h=>absurd h e,.inl⟩
   ·rw [if_neg e2]
 ·rw [hwg,if_neg fun h=>hxl h.symm]
  by_cases e:q=k
  ·subst e
   rw [hWk]
   exact ⟨fun h=>(h.elim hkl hkd).elim,fun h=>(h.elim (fun h=>hwl h.symm) fun h=>hxl h.symm).elim⟩
  ·rw [hWq q lit e,←S.wl q,hd,List.mem_cons]
   exact ⟨fun h=>h.imp id .inr,fun h=>h.imp id fun h=>h.elim (fun h=>absurd h e) id⟩
 ·rw [hwg]
  by_cases e2:l=x
  ·subst e2
   rw [if_pos rfl,List.nodup_append]
   refine ⟨S.nd l hl,by simp,fun a ha b hb e=>?_⟩
   rw [List.mem_singleton] at hb
   subst hb;subst e
   rcases (hWs l).mp ((S.wi a l hl).mp ha) with h|h
   ·exact hxw h
   ·exact hxl h
  ·rw [if_neg e2];exact S.nd l hl
 ·rw [hwg,if_neg fun h=>hxl h.symm]
  rw [List.nodup_append] at hnl⊢
  exact ⟨hnl.1,(List.nodup_cons.mp hnl.2.1).2,fun a ha b hb=>hnl.2.2 a ha b (List.mem_cons_of_mem _ hb)⟩
 ·rw [hwg,if_neg fun h=>hxl h.symm] at hq
  have e:q≠k:=fun e=>hkl (e▸hq)
  rcases hrow q d hd' with ⟨rfl,_⟩|⟨_,h1⟩
  ·exact absurd rfl e
  ·exact S.prl q hq d y h1 h
 ·show lit∈(if x∈s.wks then s.wks else s.wks++[x])
  split
  ·exact S.lk
  ·exact List.mem_append_left _ S.lk
end
noncomputable def brW(T F:AH→Prop):V→AH→Prop:=fun v H=>ifB v (T H) (F H)
noncomputable def notW(Q:V→AH→Prop):V→AH→Prop:=fun v H=>ifS v.b? fun b=>Q (.bool (!b)) H
section
variable{sp:Sp}{m:List V}{H:AH}{P:List V→AH→Prop}{R:V→AH→Prop}{Q:V→AH→Prop}
theorem s_iteE{c:X}{t u:S}(h:c.ev sp m H (brW (fun H=>t.wp sp m H P R) fun H=>u.wp sp m H P R)):(S.ite c t u).wp sp m H P R:=h
theorem x_not{x:X}(h:x.ev sp m H (notW Q)):(X.not x).ev sp m H Q:=h
theorem e_list{xs:List X}(h:X.evs sp xs m H fun vs H=>∀a,H a=none→Q (.ref a) (H.set a (.lst vs))):(X.list xs).ev sp m H Q:=h
theorem s_asgN{js:List Nat}{xs:List X}(h:X.evs sp xs m H fun vs H=>vs.length=js.length∧P (putsN js vs m) H):(S.asgN js xs).wp sp m H P R:=h
theorem dpop2_s{o:Addr}{es:List (Int×V)}{k:Int}{v d:V}(h:H o=some (.dct es))(e:get es k=some v)(q:Q v (H.set o (.dct (rem es k)))):biW .dpop2 [.ref o,.int k,d] H Q:=by
 show ifS (H o) _
 exact ifD_mk h (by rw [e];exact q)
theorem dpop2_n{o:Addr}{es:List (Int×V)}{k:Int}{d:V}(h:H o=some (.dct es))(e:get es k=none)(q:Q d H):biW .dpop2 [.ref o,.int k,d] H Q:=by
 show ifS (H o) _
 exact ifD_mk h (by rw [e];exact q)
theorem ext_ok{a b:Addr}{l r:List V}(h:H a=some (.lst l))(h':H b=some (.lst r))(n:a≠b)(hl:l.length+r.length≤sz)(q:Q .none (H.set a (.lst (l++r)))):biW .extend [.ref a,.ref b] H Q:=by
 show ifS (H a) _
 exact ifL_mk h (ifL_mk (wq h') ⟨n,hl,q⟩)
end
section
variable{n:Nat}{H:AH}{lay:Ro→Addr}{s:St}{a:Addr}{Q:V→AH→Prop}
noncomputable def popS(s:St)(lit:Int):St:=s.wW ((s.wks.filter fun k=>decide (k≠lit))++[lit]) fun l=>if l=lit then [] else s.wat l
theorem w_pop{sp:Sp}(So:Sol H lay s)(ha:lay .ins=a)(hz:s.wks.length<sz){lit:Int}{z2 z3 z4 z5:V}{P:List V→AH→Prop}{R:V→AH→Prop}{t:S}
  (q:∀H' lay' o,SF H lay s H' lay' (popS s lit)→H' o=some (.lst (nz (wg s lit)))→¬fp lay' (popS s lit) o→t.wp sp [.ref a,.int lit,.ref o,.ref (lay' (.wt lit)),z4,z5] H' P R):
  (S.seq (.asgN [2,3] [(.bm .dpop2 (.attr (.loc 0) 8) [(.loc 1),(.list [])]),(.list [])]) (.seq (.setI (.attr (.loc 0) 8) (.loc 1) (.loc 3)) t)).wp sp [.ref a,.int lit,z2,z3,z4,z5] H P R:=by
 refine zj (s_asgN (zv (bm_d (So.a_ ha rfl rfl) (So.at_ .wa trivial) rfl (zv (zw (.loc 1) (.int lit) _ rfl (zv (e_list (zp fun x hx=>zp ?_))))))))
 have h1:=SF.junk So (o:= .lst []) hx
 have hwa:=h1.1.at_ .wa trivial
 by_cases hl:lit∈s.wks
 ·refine dpop2_s hwa (by rw [get_wkD,if_pos hl]) ?_
  have h2:=d_wt h1.1 lit
  refine zv (e_list (zp fun y hy=>zp ⟨rfl,?_⟩))
  have hn:lit∉(s.wW (s.wks.filter fun k=>decide (k≠lit)) s.wat).wks:=fun h=>by
   have:=(List.mem_filter.mp h).2
   simp at this
  have h3:=n_wt h2.1 hn y hy []
  have hlen:(s.wks.filter fun k=>decide (k≠lit)).length<sz:=Nat.lt_of_le_of_lt (List.length_filter_le ..) hz
  refine zj (s_setI (w:= .ref y) (v:= .ref (lay .wa)) (k:= .int lit) rfl ((h2.1.junk (o:= .lst []) hy).a_ ha rfl rfl) rfl (setI_d ((h2.1.junk (o:= .lst []) hy).at_ .wa trivial) (by rw [wkD,List.length_map];exact hlen) ?_))
  have hne:∀r,use s r→lay r=lay (.wt lit)→r= .wt lit:=fun r u e=>So.inj r _ u hl e
  have hold:((H.set x (.lst [])).set (lay .wa) (.dct (rem (wkD lay s.wks) lit))) (lay (.wt lit))=some (.lst (nz (s.wat lit))):=by
   rw [zu fun e=>by have:=hne .wa trivial e.symm;cases this]
   exact h1.1.at_ (.wt lit) hl
  have hnf:¬fp lay (s.wW (s.wks.filter fun k=>decide (k≠lit)) s.wat) (lay (.wt lit)):=fun ⟨r,u,e⟩=>by
   have u':use s r:=by
    induction r<;>first|exact u|exact (List.mem_filter.mp u).1
   obtain rfl:=hne r u' e
   exact hn u
  have hout:=h2.1.out h3.2 hold hnf
  have e:wg s lit=s.wat lit:=if_pos hl
  have:=q _ _ (lay (.wt lit)) (h1.trans (h2.trans h3)) (by rw [e];exact hout.1) hout.2
  rw [up_eq] at this
  exact this
 ·refine dpop2_n hwa (by rw [get_wkD,if_neg hl]) ?_
  have efil:s.wks.filter (fun k=>decide (k≠lit))=s.wks:=List.filter_eq_self.mpr fun k hk=>decide_eq_true fun e=>hl (e▸hk)
  refine zv (e_list (zp fun y hy=>zp ⟨rfl,?_⟩))
  have h3:=n_wt h1.1 hl y hy []
  refine zj (s_setI (w:= .ref y) (v:= .ref (lay .wa)) (k:= .int lit) rfl ((h1.1.junk (o:= .lst []) hy).a_ ha rfl rfl) rfl (setI_d ((h1.1.junk (o:= .lst []) hy).at_ .wa trivial) (by rw [wkD,List.length_map];exact hz) ?_))
  have hout:=h1.1.out h3.2 (x:=x) (o:= .lst []) zx (So.nfp hx)
  have e:wg s lit=[]:=if_neg hl
  have:=q _ _ x (by unfold popS;rw [efil];exact h1.trans h3) (by rw [e];exact hout.1) (by unfold popS;rw [efil];exact hout.2)
  rw [up_eq] at this
  exact this
structure Kp(s s':St):Prop where
 be:s'.be=s.be
 ref:s'.ref=s.ref
 lg:s'.lg=s.lg
 cl:s'.cl=s.cl
 bl:s'.bl=s.bl
 lim:s'.lim=s.lim
 rl:s'.rows.length=s.rows.length
 ro:∃t,s'.ro=s.ro++t
 nb:∀b∈s.be,b<s'.ro.length→b<s.ro.length
theorem Kp.refl:Kp s s:=⟨rfl,rfl,rfl,rfl,rfl,rfl,rfl,⟨[],(List.append_nil _).symm⟩,fun _ _ h=>h⟩
theorem Kp.trans{s' s'':St}(h:Kp s s')(h':Kp s' s''):Kp s s'':=by
 obtain ⟨t,ht⟩:=h.ro
 obtain ⟨t',ht'⟩:=h'.ro
 exact ⟨h'.be.trans h.be,h'.ref.trans h.ref,h'.lg.trans h.lg,h'.cl.trans h.cl,h'.bl.trans h.bl,h'.lim.trans h.lim,h'.rl.trans h.rl,⟨t++t',by rw [ht',ht,List.append_assoc]⟩,fun b hb q=>h.nb b hb (h'.nb b (by rw [h.be];exact hb) q)⟩
theorem Kp.row{k:Nat}{c:List Int}:Kp s (s.setRow k c):=⟨rfl,rfl,rfl,rfl,rfl,rfl,List.length_set ..,⟨[],(List.append_nil _).symm⟩,fun _ _ h=>h⟩
theorem Kp.wat{ks:List Int}{f:Int→List Nat}:Kp s (s.wW ks f):=⟨rfl,rfl,rfl,rfl,rfl,rfl,rfl,⟨[],(List.append_nil _).symm⟩,fun _ _ h=>h⟩
theorem Kp.let_{l:Int}{v:V}(h:∀b∈s.be,b<s.ro.length):Kp s (letS s l v):=⟨rfl,rfl,rfl,rfl,rfl,rfl,rfl,⟨[l],rfl⟩,fun b hb _=>h b hb⟩
variable{N:Nat}{M:(Nat→Bool)→Prop}
theorem SpI.start(C:Core N M s)(cv:Cv M s)(W:WI s)(P:PR s s.seen){x:Int}(hx:s.ro[s.seen]?=some x):SpI N M (popS (s.wSeen (s.seen+1)) (-x)) s.seen (-x) (wg s (-x)) 0:=by
 have hxm:=C.td.nz x (List.mem_of_getElem? hx)
 have hwg:∀l,wg (popS (s.wSeen (s.seen+1)) (-x)) l=if l= -x then [] else wg s l:=fun l=>by
  show (if l∈(s.wks.filter fun k=>decide (k≠-x))++[-x] then (if l= -x then [] else s.wat l) else [])=_
  by_cases e:l= -x
  ·subst e
   rw [if_pos rfl,if_pos rfl];simp
  ·rw [if_neg e,if_neg e]
   unfold wg
   by_cases hl:l∈s.wks
   ·rw [if_pos hl,if_pos (List.mem_append_left _ (List.mem_filter.mpr ⟨hl,decide_eq_true e⟩))]
   ·rw [if_neg hl,if_neg fun h=>by
     rcases List.mem_append.mp h with h|h
     ·exact hl (List.mem_filter.mp h).1
     ·exact e (List.mem_singleton.mp h)]
 have hlt:=(List.getElem?_eq_some_iff.mp hx).1
 have C1:Core N M (s.wSeen (s.seen+1)):=⟨⟨C.td.nz,C.td.nd,C.td.kn,C.td.kK,C.td.hK,C.td.cK,C.td.lK,C.td.lB⟩,C.he,C.ca,C.srt,fun b hb=>Nat.le_succ_of_le (C.bs b hb),hlt,C.rk,C.rM,C.zM,C.ht,C.wn,C.wr,C.lim⟩
 refine ⟨C1.wat ?_ fun l hl=>?_,cv,rfl,by show s.ro[s.seen]?=_;rw [Int.neg_neg];exact hx,C.bs,P,fun k l hl=>?_,fun k=>?_,fun l hl=>?_,?_,fun k hk=>?_,?_⟩
 ·rw [List.nodup_append]
  exact ⟨C.wn.filter _,by simp,fun a ha b hb e=>by
   have:=(List.mem_filter.mp ha).2
   rw [List.mem_singleton] at hb
   subst hb;subst e
   simp at this⟩
 ·rcases List.mem_append.mp hl with h|h
  ·exact C.wr l (List.mem_filter.mp h).1
  ·rw [List.mem_singleton.mp h];exact nz_p (by assumption)
 ·rw [hwg,if_neg hl];exact W.iff k l
 ·rw [hwg,if_pos rfl,List.drop_zero]
  exact ⟨fun h=>(W.iff k _).mp (h.elim (fun h=>by cases h) id),fun h=> .inr ((W.iff k _).mpr h)⟩
 ·rw [hwg,if_neg hl];exact W.nd l
 ·rw [hwg,if_pos rfl];exact W.nd _
 ·rw [hwg,if_pos rfl] at hk;cases hk
 ·exact List.mem_append_right _ (List.mem_singleton.mpr rfl)
theorem SpI.wlen{p i:Nat}{lit:Int}{ol:List Nat}(S:SpI N M s p lit ol i):(wg s lit++ol.drop i).length≤s.rows.length∧∀l,(wg s l).length≤s.rows.length:=by
 have h1:(wg s lit++ol.drop i).length≤s.rows.length:=by
  have:=nodup_le (r:=List.range s.rows.length) S.nl fun k hk=>by
   obtain ⟨c,hc,_⟩:=(S.wl k).mp (List.mem_append.mp hk)
   exact List.mem_range.mpr (List.getElem?_eq_some_iff.mp hc).1
  rwa [List.length_range] at this
 refine ⟨h1,fun l=>?_⟩
 by_cases e:l=lit
 ·subst e
  rw [List.length_append] at h1;omega
 ·have:=nodup_le (r:=List.range s.rows.length) (S.nd l e) fun k hk=>by
   obtain ⟨c,hc,_⟩:=(S.wi k l e).mp hk
   exact List.mem_range.mpr (List.getElem?_eq_some_iff.mp hc).1
  rwa [List.length_range] at this
theorem kept_two{lit:Int}{l l':List Nat}:keptS (keptS s lit l) lit l'=keptS s lit l':=by
 unfold keptS St.wW
 show {s with wks:=s.wks,wat:=_}={s with wks:=s.wks,wat:=_}
 congr 1
 funext x
 by_cases e:x=lit
 ·simp [e]
 ·simp [e]
end
section
variable{n:Nat}{H:AH}{lay:Ro→Addr}{s:St}{a:Addr}{Q:V→AH→Prop}{N:Nat}{M:(Nat→Bool)→Prop}
theorem c_spread(So:Sol H lay s)(ha:lay .ins=a)(C:Core N M s)(hN:N<1000)(cv:Cv M s)(W:WI s)(P:PR s s.seen)(hrs:s.rows.length<sz)
  (q1:∀H' lay' s',SF H lay s H' lay' s'→Kp s s'→Core N M s'→Cv M s'→WI s'→PR s' s'.seen→s'.seen=s'.ro.length→Q (.int (-1)) H')
  (q2:∀H' lay' s' (k p:Nat) (c:List Int),SF H lay s H' lay' s'→Kp s s'→Core N M s'→Cv M s'→WI s'→PR s' p→(∀b∈s'.be,b≤p)→s'.rows[k]?=some c→(∀x∈c,-x∈s'.ro)→(∃x∈c,s'.ro[p]?=some (-x))→Q (.int k) H'):
  spN tabL (n+3) 9 [.ref a] H Q:=by
 have hbig:∀{k:Nat},k<sz→-big≤(k:Int)∧(k:Int)<big:=fun h=>⟨by unfold big;lia,by unfold big;unfold sz at h;lia⟩
 refine sp_go rfl rfl (zj (s_whK (fun k m H'=>Ex7 fun lay' s' w1 w2 w3 w4 w5=>An8 (m=[.ref a,w1,w2,w3,w4,w5]) (k=N-s'.seen) (SF H lay s H' lay' s') (Kp s s') (Core N M s') (Cv M s') (WI s') (PR s' s'.seen)) (N-s.seen) ⟨lay,s,.un,.un,.un,.un,.un,rfl,rfl,.refl So,.refl,C,cv,W,P⟩ fun k m H1 KW hI hW=>?_))
 refine nn fun hC=>?_
 obtain ⟨lay1,s1,w1,w2,w3,w4,w5,rfl,rfl,h1,K1,C1,cv1,W1,P1⟩:=hI
 refine hC ?_
 have ha1:=h1.ins ha
 refine ⟨decide (s1.seen<s1.ro.length),pvb (h1.1.a_ ha1 rfl rfl) (pvb (len_pv (h1.1.a_ ha1 rfl rfl) (ln_zs (h1.1.at_ .ro trivial))) (pcm (show some (decide ((s1.seen:Int)<(s1.ro.length:Int)))=_ by congr 1;exact decide_eq_decide.mpr Int.ofNat_lt))),fun hd=>?_,fun hd=>?_⟩
 rotate_left
 ·have hd:=of_decide_eq_false hd
  exact zj (s_ret (zw _ (.int (-1)) _ rfl (q1 _ _ _ h1 K1 C1 cv1 W1 P1 (Nat.le_antisymm C1.sl (Nat.not_lt.mp hd)))))
 have hlt:=of_decide_eq_true hd
 have hx:s1.ro[s1.seen]?=some s1.ro[s1.seen]:=List.getElem?_eq_getElem hlt
 generalize s1.ro[s1.seen]=x at hx
 have hrl1:s1.rows.length<sz:=by rw [K1.rl];exact hrs
 have S0:=SpI.start C1 cv1 W1 P1 hx
 have u1:=u_seen h1.1 (s1.seen+1)
 refine zj (vj (zw _ (.int (-x)) _ (pvb (pvb (h1.1.a_ ha1 rfl rfl) (pvb (h1.1.a_ ha1 rfl rfl) (sb_l (h1.1.at_ .ro trivial) (idx_nat (zs_get hx))))) rfl) ?_))
 refine zj (s_setA (v:= .int (s1.seen+1:Nat)) h1.1 ha1 rfl (pvb (h1.1.a_ ha1 rfl rfl) (pvb rfl (by rfl))) ?_)
 refine w_pop (s:=s1.wSeen (s1.seen+1)) u1.1 ha1 (Nat.lt_of_le_of_lt C1.wlen (Nat.lt_of_lt_of_le (Nat.mul_lt_mul_of_pos_left hN (by decide)) (by decide))) fun H2 lay2 old h2 hold hnf=>?_
 have hol:(wg s1 (-x)).length≤s1.rows.length:=W1.len
 have ha2:=h2.ins ha1
 have h12:=h1.trans (u1.trans h2)
 have hsn:N-(s1.seen+1)<N-s1.seen:=by
  exact sub_s (Nat.lt_of_lt_of_le hlt C1.td.len)
 have K2:Kp s (popS (s1.wSeen (s1.seen+1)) (-x)):=K1.trans ⟨rfl,rfl,rfl,rfl,rfl,rfl,rfl,⟨[],(List.append_nil _).symm⟩,fun _ _ h=>h⟩
 have hold:H2 old=some (.lst (nz (wg s1 (-x)))):=hold
 refine zj (s_rng (lo:=0) (hi:=(wg s1 (-x)).length) rfl (len_pv rfl (ln_nz hold)) (by decide) (hbig (Nat.lt_of_le_of_lt hol hrl1)) ?_)
 refine floop_ind (fun i m H'=>Ex4 fun lay' s' z4 z5=>An7 (m=[.ref a,.int (-x),.ref old,.ref (lay2 (.wt (-x))),z4,z5]) (SF H lay s H' lay' s') (Kp s s') (H' old=some (.lst (nz (wg s1 (-x))))) (¬fp lay' s' old) (lay' (.wt (-x))=lay2 (.wt (-x))) (SpI N M s' s1.seen (-x) (wg s1 (-x)) i)) _ (fun i v m H3 K hv hI hK=>⟨trivial,?_⟩) (fun m H3 hI=>⟨trivial,?_⟩) ⟨lay2,_,w4,w5,rfl,h12,K2,hold,hnf,rfl,S0⟩
 rotate_left
 ·refine nn fun hC=>?_
  obtain ⟨lay3,s3,z4,z5,rfl,h3,K3,_,_,_,S3⟩:=hI
  obtain ⟨W3,P3⟩:=S3.done (by rw [rng_len];exact Nat.le_refl _)
  refine hC ?_
  exact zy (hW (N-s3.seen) _ _ (by rw [S3.seen];exact hsn) ⟨lay3,s3,_,_,_,_,_,rfl,rfl,h3,K3,S3.core,S3.cv,W3,P3⟩)
 refine nn fun hC=>?_
 obtain ⟨lay3,s3,z4,z5,rfl,h3,K3,ho3,hn3,hl3,S3⟩:=hI
 obtain ⟨rfl,hi⟩:=rng_at hv
 refine hC ?_
 have hi:i<(wg s1 (-x)).length:=by rwa [t_0] at hi
 have hk:(wg s1 (-x))[i]?=some (wg s1 (-x))[i]:=List.getElem?_eq_getElem hi
 generalize (wg s1 (-x))[i]=k at hk
 refine nn fun hC=>?_
 obtain ⟨c,w,rest,hr,hc,hwl,_,hwr,hp,_⟩:=S3.row hk
 refine hC ?_
 have hrl3:s3.rows.length<sz:=by rw [K3.rl];exact hrs
 have ha3:=h3.ins ha
 have hklt:=(List.getElem?_eq_some_iff.mp hr).1
 have e0:(0:Int)+(i:Int)=(i:Int):=Int.zero_add _
 have hsub:∀{m:List V} {H':AH},m[2]?=some (.ref old)→m[4]?=some (.int (0+(i:Int)))→H' old=some (.lst (nz (wg s1 (-x))))→(X.sub (.loc 2) (.loc 4)).pv m H'=some (.int k):=fun h1 h2 h3=>pvb (pvb h1 rfl) (pvb (pvb h2 rfl) (sb_l h3 (by rw [e0];exact idx_nat (nz_get hk))))
 have hnz:=S3.core.rk c (List.mem_of_getElem? hr)
 have hwc:w∈c:=hp.mem_iff.mp (List.mem_cons_self ..)
 have hw0:=(hnz.2.2 w hwc).1
 have hrc:∀y∈rest,y∈c:=fun y hy=>hp.mem_iff.mp (List.mem_cons_of_mem _ (List.mem_cons_of_mem _ hy))
 have hwk:s3.wks.length<sz:=Nat.lt_of_le_of_lt S3.core.wlen (Nat.lt_of_lt_of_le (Nat.mul_lt_mul_of_pos_left hN (by decide)) (by decide))
 suffices hF:∀H4,SF H3 lay3 s3 H4 lay3 (s3.setRow k (w:: -x::rest))→(w∈s3.ro∨∀y∈rest,-y∈s3.ro)→(S.seq (.ex (.bm .append (.loc 3) [(.sub (.loc 2) (.loc 4))])) (.seq (.asg 5 (.sub (.sub (.attr (.loc 0) 7) (.sub (.loc 2) (.loc 4))) (.c (.int 0)))) (.seq (.ite (.cmp .eq (.callM 2 (.loc 0) [(.loc 5)]) (.c (.bool false))) (.seq (.ex (.bm .extend (.loc 3) [(.slice (.loc 2) (.bin .add (.loc 4) (.c (.int 1))) (.c .none))])) (.seq (.ret (.sub (.loc 2) (.loc 4))) .skip)) .skip) (.seq (.ite (.cmp .is (.callM 2 (.loc 0) [(.loc 5)]) (.c .none)) (.seq (.ex (.callM 3 (.loc 0) [(.loc 5),(.sub (.loc 2) (.loc 4))])) .skip) .skip) .skip)))).wp (spN tabL (n+2)) [.ref a,.int (-x),.ref old,.ref (lay2 (.wt (-x))),.int (0+(i:Int)),z5] H4 K (rt fun v H=>True∧rt Q v H) by
  have hsn:∀y,sayV s3 y= .bool false→y≠0→-y∈s3.ro:=fun y h h0=>(S3.core.td.say_f h0).mp h
  refine zj (s_iteE (x_not (cm_ok (xs:=[.sub (.loc 2) (.loc 4),.loc 1]) (P:=notW (brW _ _)) h3.1 ha3 rfl (zv (zw _ (.int k) _ (hsub rfl rfl ho3) (zv (zw (.loc 1) (.int (-x)) _ rfl (zp (c_moved h3.1 ha3 S3.core.td.knOK hr hc hwl (Nat.lt_of_le_of_lt (row_len S3.core.rk hr) (Nat.lt_trans hN (by decide))) hwk (fun l=>Nat.lt_of_le_of_lt (S3.wlen.2 l) hrl3) (fun hsay H4 h4=>?_) (fun hsay hall H4 h4=>?_) fun j y hy hsay H4 lay4 hl4 h4=>?_)))))))))
  ·exact hF H4 h4 (.inl ((S3.core.td.say_t hw0).mp hsay))
  ·exact hF H4 h4 (.inr fun y hy=>hsn y (hall y hy) (hnz.2.2 y (hrc y hy)).1)
  ·have hyf: -y∉s3.ro:=fun h=>hsay ((S3.core.td.say_f (hnz.2.2 y (hrc y (List.mem_of_getElem? hy))).1).mpr h)
   have S4:=S3.move hk hr hp hc hy hyf
   have ho4:=h3.1.out h4.2 ho3 hn3
   exact hK _ _ ⟨lay4,_,_,_,rfl,h3.trans h4,K3.trans (Kp.row.trans Kp.wat),ho4.1,ho4.2,(hl4 (.wt (-x)) S3.lk).trans hl3,S4⟩
 intro H4 h4 hcase
 have S4:=S3.order hr hc
 have ho4:=h3.1.out h4.2 ho3 hn3
 have ha4:=h4.ins ha3
 have hkept:=h4.1.at_ (.wt (-x)) S4.lk
 have ew:wg (s3.setRow k (w:: -x::rest)) (-x)=s3.wat (-x):=if_pos S3.lk
 have hkept:H4 (lay2 (.wt (-x)))=some (.lst (nz (wg (s3.setRow k (w:: -x::rest)) (-x)))):=by
  rw [←hl3,ew];exact hkept
 have u5:=u_wt h4.1 S4.lk (wg (s3.setRow k (w:: -x::rest)) (-x)++[k])
 rw [hl3] at u5
 have hlen5:(wg (s3.setRow k (w:: -x::rest)) (-x)).length<sz:=by
  rw [ew]
  have:(s3.setRow k (w:: -x::rest)).rows.length=s3.rows.length:=List.length_set ..
  have h6:=S4.wlen.2 (-x)
  rw [this,ew] at h6
  exact Nat.lt_of_le_of_lt ‹_› ‹_›
 refine zj (s_ex (bm_l (l:=nz (wg (s3.setRow k (w:: -x::rest)) (-x))) (b:=lay2 (.wt (-x))) rfl hkept rfl (zv (zw _ (.int k) _ (hsub rfl rfl ho4.1) (zp (app_ok hkept (by rw [nz_len];exact hlen5) ?_))))))
 rw [show nz (wg (s3.setRow k (w:: -x::rest)) (-x))++[V.int k]=nz (wg (s3.setRow k (w:: -x::rest)) (-x)++[k]) from (nz_app (r:=[k])).symm]
 have u5':SF H4 lay3 (s3.setRow k (w:: -x::rest)) (H4.set (lay2 (.wt (-x))) (.lst (nz (wg (s3.setRow k (w:: -x::rest)) (-x)++[k])))) lay3 (keptS (s3.setRow k (w:: -x::rest)) (-x) (wg (s3.setRow k (w:: -x::rest)) (-x)++[k])):=u5
 generalize H4.set (lay2 (.wt (-x))) (.lst (nz (wg (s3.setRow k (w:: -x::rest)) (-x)++[k])))=H5 at u5'
 have ho5:=h4.1.out u5'.2 ho4.1 ho4.2
 have ha5:=u5'.ins ha4
 have hr5:(keptS (s3.setRow k (w:: -x::rest)) (-x) (wg (s3.setRow k (w:: -x::rest)) (-x)++[k])).rows[k]?=some (w:: -x::rest):=setRow_at hklt
 have hk5:k<(keptS (s3.setRow k (w:: -x::rest)) (-x) (wg (s3.setRow k (w:: -x::rest)) (-x)++[k])).rows.length:=(List.getElem?_eq_some_iff.mp hr5).1
 have hrow5:=u5'.1.row hr5
 have h345:=h3.trans (h4.trans u5')
 have K5:Kp s (keptS (s3.setRow k (w:: -x::rest)) (-x) (wg (s3.setRow k (w:: -x::rest)) (-x)++[k])):=K3.trans (Kp.row.trans Kp.wat)
 refine zj (vj (zw _ (.int w) _ (pvb (ref_row u5'.1 ha5 hk5 (by exact hsub rfl rfl ho5.1)) (pvb rfl (sb_l (n:=0) hrow5 rfl))) ?_))
 have T5:TD N (keptS (s3.setRow k (w:: -x::rest)) (-x) (wg (s3.setRow k (w:: -x::rest)) (-x)++[k])):=⟨S3.core.td.nz,S3.core.td.nd,S3.core.td.kn,S3.core.td.kK,S3.core.td.hK,S3.core.td.cK,S3.core.td.lK,S3.core.td.lB⟩
 have hal5:=S4.clash
 rcases T5.say hw0 with ⟨hin,hsay⟩|⟨hin,hsay⟩|⟨hin,hsay⟩
 ·--true
  refine zj (s_says (l:=w) (b:=false) u5'.1 ha5 T5.knOK rfl rfl (by rw [hsay];rfl) (fun h=>by cases h) fun _=>zy (zj (s_says (l:=w) (b:=false) u5'.1 ha5 T5.knOK rfl rfl (by rw [hsay];rfl) (fun h=>by cases h) fun _=>zy (zy (hK _ _ ⟨lay3,_,_,_,rfl,h345,K5,ho5.1,ho5.2,hl3,S4.keep hk (setRow_at hklt) ?_ hwl⟩)))))
  obtain ⟨j,hj⟩:=List.mem_iff_getElem?.mp hin
  exact ⟨j,hj,by rw [lvl_all S4.be];exact lvl_le⟩
 ·--false:a clash
  have hall:∀y∈w:: -x::rest,-y∈s3.ro:=fun y hy=>by
   rcases List.mem_cons.mp hy with rfl|hy
   ·exact hin
   ·rcases List.mem_cons.mp hy with rfl|hy
    ·exact List.mem_of_getElem? S3.at_
    ·exact hcase.elim (fun h=>(T5.no2 h hin).elim) fun h=>h y hy
  refine zj (s_says (l:=w) (b:=true) u5'.1 ha5 T5.knOK rfl rfl (by rw [hsay];rfl) (fun _=>?_) fun h=>by cases h)
  have hkept5:=u5'.1.at_ (.wt (-x)) S4.lk
  have hkept5:H5 (lay2 (.wt (-x)))=some (.lst (nz (wg (s3.setRow k (w:: -x::rest)) (-x)++[k]))):=by
   rw [←hl3,hkept5]
   show some (O.lst (nz (if (-x)=(-x) then _ else _)))=_
   rw [if_pos rfl]
  refine zj (s_ex (bm_l (l:=nz (wg (s3.setRow k (w:: -x::rest)) (-x)++[k])) (b:=lay2 (.wt (-x))) rfl hkept5 rfl (zv (sl_lo (a:=old) (k:=i+1) rfl ho5.1 (pvb rfl (pvb rfl (by rw [e0];rfl))) fun y hy=>zp ?_))))
  have u6:=SF.junk u5'.1 (o:= .lst ((nz (wg s1 (-x))).drop (i+1))) hy
  have e6:(nz (wg s1 (-x))).drop (i+1)=nz ((wg s1 (-x)).drop (i+1)):=List.map_drop.symm
  have hkept6:(H5.set y (.lst ((nz (wg s1 (-x))).drop (i+1)))) (lay2 (.wt (-x)))=some (.lst (nz (wg (s3.setRow k (w:: -x::rest)) (-x)++[k]))):=by
   rw [zu fun e=>by rw [←e,hkept5] at hy;cases hy];exact hkept5
  refine ext_ok hkept6 (by rw [zx,e6]) (fun e=>by rw [←e,hkept5] at hy;cases hy) ?_ ?_
  ·have h6:=S4.wlen.1
   rw [drop_get hk] at h6
   have:(s3.setRow k (w:: -x::rest)).rows.length=s3.rows.length:=List.length_set ..
   rw [this] at h6
   rw [nz_len,nz_len]
   simp only [List.length_append,List.length_cons,List.length_nil] at h6⊢
   lia
  have u7:=u_wt u6.1 S4.lk (wg (s3.setRow k (w:: -x::rest)) (-x)++(wg s1 (-x)).drop i)
  rw [hl3] at u7
  have e7:nz (wg (s3.setRow k (w:: -x::rest)) (-x)++[k])++nz ((wg s1 (-x)).drop (i+1))=nz (wg (s3.setRow k (w:: -x::rest)) (-x)++(wg s1 (-x)).drop i):=by
   rw [←nz_app,drop_get hk,List.append_assoc];rfl
  rw [e7]
  have u7':SF (H5.set y (.lst ((nz (wg s1 (-x))).drop (i+1)))) lay3 _ ((H5.set y (.lst ((nz (wg s1 (-x))).drop (i+1)))).set (lay2 (.wt (-x))) (.lst (nz (wg (s3.setRow k (w:: -x::rest)) (-x)++(wg s1 (-x)).drop i)))) lay3 (keptS (keptS (s3.setRow k (w:: -x::rest)) (-x) (wg (s3.setRow k (w:: -x::rest)) (-x)++[k])) (-x) (wg (s3.setRow k (w:: -x::rest)) (-x)++(wg s1 (-x)).drop i)):=u7
  rw [kept_two] at u7'
  have ho7:((H5.set y (.lst ((nz (wg s1 (-x))).drop (i+1)))).set (lay2 (.wt (-x))) (.lst (nz (wg (s3.setRow k (w:: -x::rest)) (-x)++(wg s1 (-x)).drop i)))) old=some (.lst (nz (wg s1 (-x)))):=by
   rw [zu fun e=>ho5.2 ⟨.wt (-x),S4.lk,by rw [hl3,e]⟩,zu fun e=>by rw [←e,ho5.1] at hy;cases hy];exact ho5.1
  exact zj (s_ret (zw _ (.int k) _ (by exact hsub rfl rfl ho7) ⟨trivial,q2 _ lay3 _ k s1.seen _ (h345.trans (u6.trans u7')) (K3.trans (Kp.row.trans Kp.wat)) hal5.1 S4.cv hal5.2 S4.pr S4.be (setRow_at hklt) hall ⟨-x,List.mem_cons_of_mem _ (List.mem_cons_self ..),S3.at_⟩⟩))
 ·--open:set
  have hrest:∀y∈rest,-y∈s3.ro:=hcase.elim (fun h=>(hin w h rfl).elim) id
  obtain ⟨S6,hj⟩:=S4.let_ (setRow_at hklt) hin hrest
  have S7:=S6.keep hk (setRow_at hklt) hj hwl
  have C5:Core N M (keptS (s3.setRow k (w:: -x::rest)) (-x) (wg (s3.setRow k (w:: -x::rest)) (-x)++[k])):=S4.core.wat S4.core.wn S4.core.wr
  refine zj (s_says (l:=w) (b:=false) u5'.1 ha5 T5.knOK rfl rfl (by rw [hsay];rfl) (fun h=>by cases h) fun _=>zy (zj (s_says (l:=w) (b:=true) u5'.1 ha5 T5.knOK rfl rfl (by rw [hsay];rfl) (fun _=>?_) fun h=>by cases h)))
  refine zj (s_ex (cm_ok (xs:=[.loc 5,.sub (.loc 2) (.loc 4)]) (P:=fun _ H=>_) u5'.1 ha5 rfl (zv (zw (.loc 5) (.int w) _ rfl (zv (zw _ (.int k) _ (by exact hsub rfl rfl ho5.1) (zp (c_let u5'.1 ha5 (C5.sz hN) rfl fun H6 h6=>?_))))))))
  have ho6:=u5'.1.out h6.2 ho5.1 ho5.2
  have hpl:s1.seen<s3.ro.length:=(List.getElem?_eq_some_iff.mp S3.at_).1
  exact zy (zy (hK _ _ ⟨lay3,_,_,_,rfl,h345.trans h6,K5.trans (Kp.let_ fun b hb=>Nat.lt_of_le_of_lt (S4.be b hb) hpl),ho6.1,ho6.2,hl3,S7⟩))
end
noncomputable def mkd(s:St)(fv:List Int)(i:Nat):Bool:=match s.ro[i]? with
 |some l=>decide ((l.natAbs:Int)∈fv)&&decide (lvl s.be i=s.be.length)
 |none=>false
noncomputable def cnt(s:St)(fv:List Int)(n:Nat):Nat:=((List.range n).filter (mkd s fv)).length
theorem fil1{p:Nat→Bool}{n:Nat}:[n].filter p=if p n=true then [n] else []:=by
 rw [List.filter_cons];rfl
theorem filter_one{p p':Nat→Bool}{i:Nat}(h:∀j,p' j=(p j||decide (j=i)))(hi:p i=false):∀n,((List.range n).filter p').length=((List.range n).filter p).length+if i<n then 1 else 0
 |0=>rfl
 |n+1=>by
  rw [List.range_succ,List.filter_append,List.filter_append,List.length_append,List.length_append,filter_one h hi n,fil1,fil1,h n]
  by_cases e:n=i
  ·subst e
   rw [hi];simp
  ·have e2:decide (n=i)=false:=decide_eq_false e
   rw [e2,Bool.or_false]
   by_cases h2:i<n
   ·rw [if_pos h2,if_pos (Nat.lt_succ_of_lt h2)];lia
   ·rw [if_neg h2,if_neg (show ¬i<n+1 by lia)];exact t_0
theorem lvl_full{be:List Nat}{i:Nat}(h:lvl be i=be.length):∀b∈be,b≤i:=by
 unfold lvl at h
 have:=List.filter_sublist (l:=be) (p:=fun b=>decide (b≤i))|>.eq_of_length h
 intro b hb
 rw [←this] at hb
 exact of_decide_eq_true (List.mem_filter.mp hb).2
noncomputable def Neg(α:Nat→Bool)(bh:List Int):Prop:=∀b∈bh,ltr α (-b)
noncomputable def Mks(s:St)(α:Nat→Bool)(fv:List Int)(n:Nat):Prop:=∀i<n,∀l,s.ro[i]?=some l→mkd s fv i=true→ltr α l
structure LsI(N:Nat)(M:(Nat→Bool)→Prop)(s:St)(c:List Int)(es:List (Int×V))(bh:List Int)(spot:Nat)(last:Int):Prop where
 kf:Keys N es
 b1:∀b∈bh,∃i,An4 (s.ro[i]?=some (-b)) (0<lvl s.be i) (lvl s.be i<s.be.length) ((b.natAbs:Int)∈ky es)
 b2:(bh.map Int.natAbs).Nodup
 f1:∀v∈ky es,Ex2 fun i l=>An3 (s.ro[i]?=some l) ((l.natAbs:Int)=v) ((lvl s.be i<s.be.length→-l∈bh))
 sp:spot≤s.ro.length
 cl:∀x∈c,x≠last→∃i<spot,s.ro[i]?=some (-x)
 sem:∀α,M α→Neg α bh→Mks s α (ky es) spot→(∀x∈c,x≠last→ltr α (-x))→False
 ne:1≤cnt s (ky es) spot∨∃x∈c,x≠last∧∃p<spot,s.ro[p]?=some (-x)∧lvl s.be p=s.be.length
section
variable{N:Nat}{M:(Nat→Bool)→Prop}{s:St}{c bh:List Int}{es:List (Int×V)}{spot:Nat}{last:Int}
theorem ro_inj(T:TD N s){i j:Nat}{l l':Int}(h:s.ro[i]?=some l)(h':s.ro[j]?=some l')(e:l.natAbs=l'.natAbs):i=j∧l=l':=by
 obtain ⟨h1,rfl⟩:=List.getElem?_eq_some_iff.mp h
 obtain ⟨h2,rfl⟩:=List.getElem?_eq_some_iff.mp h'
 have e1:i=j:=by
  have a1:i<(s.ro.map Int.natAbs).length:=by rw [List.length_map];exact h1
  have a2:j<(s.ro.map Int.natAbs).length:=by rw [List.length_map];exact h2
  exact (List.getElem_inj (h₀:=a1) (h₁:=a2) T.nd).mp (by rw [List.getElem_map,List.getElem_map];exact e)
 subst e1;exact ⟨rfl,rfl⟩
theorem ky_put_mem{k:Int}{v:V}{x:Int}:x∈ky (put es k v)↔x∈ky es∨x=k:=by
 rw [ky_put]
 split
 ·rename_i hk
  exact ⟨.inl,fun h=>h.elim id fun e=>e▸hk⟩
 ·rw [List.mem_append,List.mem_singleton]
theorem mkd_put(T:TD N s){i:Nat}{l:Int}(h:s.ro[i]?=some l){v:V}{k:Int}(hk:k=l.natAbs)(j:Nat):mkd s (ky (put es k v)) j=(mkd s (ky es) j||(decide (j=i)&&decide (lvl s.be i=s.be.length))):=by
 unfold mkd
 generalize hj:s.ro[j]?=zq;induction zq with
 |none=>
  by_cases e:j=i
  ·subst e;rw [h] at hj;cases hj
  ·simp [e]
 |some l'=>
  dsimp only
  rw [show decide ((l'.natAbs:Int)∈ky (put es k v))=(decide ((l'.natAbs:Int)∈ky es)||decide (j=i)) by
   rw [←Bool.decide_or]
   apply decide_eq_decide.mpr
   rw [ky_put_mem]
   refine or_congr Iff.rfl ⟨fun e=>(ro_inj T hj h (by rw [hk] at e;exact_mod_cast e)).1,fun e=>?_⟩
   subst e
   rw [h] at hj;cases hj;exact hk.symm]
  by_cases e:j=i
  ·subst e
   induction decide ((l'.natAbs:Int)∈ky es)<;>induction decide (lvl s.be j=s.be.length)<;>simp
  ·simp [e]
theorem mkd_mono(T:TD N s){fv fv':List Int}(h:∀v∈fv,v∈fv'){j:Nat}(hj:mkd s fv j=true):mkd s fv' j=true:=by
 unfold mkd at hj⊢
 generalize hr:s.ro[j]?=zq;induction zq with
 |none=>rw [hr] at hj;cases hj
 |some l=>
  rw [hr] at hj
  dsimp only at hj⊢
  rw [Bool.and_eq_true] at hj⊢
  exact ⟨decide_eq_true (h _ (of_decide_eq_true hj.1)),hj.2⟩
theorem LsI.hi(L:LsI N M s c es bh spot last)(C:Core N M s){x:Int}{i:Nat}(hx:x∈c)(hi:s.ro[i]?=some (-x))(his:i<spot)(hn:(x.natAbs:Int)∉ky es)(hl:lvl s.be i=s.be.length):LsI N M s c (put es x.natAbs (.bool true)) bh spot last∧cnt s (ky (put es x.natAbs (.bool true))) spot=cnt s (ky es) spot+1:=by
 have hk:=C.td.nz _ (List.mem_of_getElem? hi)
 have hsub:∀v∈ky es,v∈ky (put es x.natAbs (.bool true)):=fun v hv=>ky_put_mem.mpr (.inl hv)
 have hc:cnt s (ky (put es x.natAbs (.bool true))) spot=cnt s (ky es) spot+1:=by
  have h1:=filter_one (p:=mkd s (ky es)) (p':=mkd s (ky (put es x.natAbs (.bool true)))) (i:=i) (fun j=>by rw [mkd_put C.td hi (by rw [Int.natAbs_neg]) j,decide_eq_true hl,Bool.and_true]) (by
   unfold mkd
   rw [hi]
   dsimp only
   rw [Int.natAbs_neg,decide_eq_false hn];rfl) spot
  rw [if_pos his] at h1
  exact h1
 refine ⟨⟨L.kf.put (na_1 (nz_n hk).1) (Int.ofNat_le.mpr (nz_n hk).2),fun b hb=>?_,L.b2,fun v hv=>?_,L.sp,L.cl,fun α hα h1 h2 h3=>L.sem α hα h1 (fun j hj l hl hm=>h2 j hj l hl (mkd_mono C.td hsub hm)) h3,.inl (by lia)⟩,hc⟩
 ·refine nn fun hC=>?_
  obtain ⟨j,h1,h2,h3,h4⟩:=L.b1 b hb
  refine hC ?_
  exact ⟨j,h1,h2,h3,hsub _ h4⟩
 ·rcases ky_put_mem.mp hv with hv|rfl
  ·exact L.f1 v hv
  ·exact ⟨i,-x,hi,by rw [Int.natAbs_neg],fun h=>by lia⟩
theorem LsI.lo(L:LsI N M s c es bh spot last)(C:Core N M s){x:Int}{i:Nat}(hx:x∈c)(hi:s.ro[i]?=some (-x))(his:i<spot)(hn:(x.natAbs:Int)∉ky es)(h0:0<lvl s.be i)(hl:lvl s.be i<s.be.length):LsI N M s c (put es x.natAbs (.bool true)) (bh++[x]) spot last∧cnt s (ky (put es x.natAbs (.bool true))) spot=cnt s (ky es) spot:=by
 have hk:=C.td.nz _ (List.mem_of_getElem? hi)
 have hsub:∀v∈ky es,v∈ky (put es x.natAbs (.bool true)):=fun v hv=>ky_put_mem.mpr (.inl hv)
 have hm:mkd s (ky (put es x.natAbs (.bool true)))=mkd s (ky es):=funext fun j=>by
  rw [mkd_put C.td hi (by rw [Int.natAbs_neg]) j,decide_eq_false (Nat.ne_of_lt hl),Bool.and_false,Bool.or_false]
 have hc:cnt s (ky (put es x.natAbs (.bool true))) spot=cnt s (ky es) spot:=by unfold cnt;rw [hm]
 refine ⟨⟨L.kf.put (na_1 (nz_n hk).1) (Int.ofNat_le.mpr (nz_n hk).2),fun b hb=>?_,?_,fun v hv=>?_,L.sp,L.cl,fun α hα h1 h2 h3=>L.sem α hα (fun b hb=>h1 b (List.mem_append_left _ hb)) (fun j hj l hl hm'=>h2 j hj l hl (by rw [hm];exact hm')) h3,L.ne.imp (fun h=>by rw [hc];exact h) id⟩,hc⟩
 ·rcases List.mem_append.mp hb with hb|hb
  ·refine nn fun hC=>?_
   obtain ⟨j,h1,h2,h3,h4⟩:=L.b1 b hb
   refine hC ?_
   exact ⟨j,h1,h2,h3,hsub _ h4⟩
  ·rw [List.mem_singleton.mp hb]
   exact ⟨i,hi,h0,hl,ky_put_mem.mpr (.inr rfl)⟩
 ·rw [List.map_append,List.nodup_append]
  refine ⟨L.b2,by simp,fun a ha b hb e=>?_⟩
  obtain ⟨y,hy,rfl⟩:=List.mem_map.mp ha
  simp only [List.map_cons,List.map_nil,List.mem_singleton] at hb
  obtain ⟨_,_,_,_,h4⟩:=L.b1 y hy
  rw [e,hb] at h4
  exact hn h4
 ·rcases ky_put_mem.mp hv with hv|rfl
  ·refine nn fun hC=>?_
   obtain ⟨j,l,h1,h2,h3⟩:=L.f1 v hv
   refine hC ?_
   exact ⟨j,l,h1,h2,fun h=>List.mem_append_left _ (h3 h)⟩
  ·exact ⟨i,-x,hi,by rw [Int.natAbs_neg],fun _=>by rw [Int.neg_neg];exact List.mem_append_right _ (List.mem_singleton.mpr rfl)⟩
noncomputable def Seen(s:St)(es:List (Int×V))(last:Int)(l:List Int):Prop:=∀x∈l,x≠last→∀i,s.ro[i]?=some (-x)→lvl s.be i=0∨(x.natAbs:Int)∈ky es
structure ScI(N:Nat)(M:(Nat→Bool)→Prop)(s:St)(es:List (Int×V))(bh:List Int)(q:Nat):Prop where
 sem:∀α,M α→Neg α bh→Mks s α (ky es) q→False
 one:1≤cnt s (ky es) q
 le:q≤s.ro.length
theorem LsI.close(L:LsI N M s c es bh spot last)(C:Core N M s)(hb:0<s.be.length)(hs:Seen s es last c):ScI N M s es bh spot:=by
 refine ⟨fun α hα h1 h2=>L.sem α hα h1 h2 fun x hx hxl=>?_,?_,L.sp⟩
 ·obtain ⟨i,his,hi⟩:=L.cl x hx hxl
  rcases hs x hx hxl i hi with h0|hf
  ·exact C.zM i _ hi h0 α hα
  ·refine nn fun hC=>?_
   obtain ⟨j,l,hj,he,h3⟩:=L.f1 _ hf
   obtain ⟨rfl,rfl⟩:=ro_inj C.td hj hi (by rw [Int.natAbs_neg];exact na_i he)
   refine hC ?_
   by_cases hl:lvl s.be j<s.be.length
   ·have:=h1 _ (h3 hl)
    rwa [Int.neg_neg] at this
   ·refine h2 j his _ hi ?_
    unfold mkd
    rw [hi]
    dsimp only
    rw [Int.natAbs_neg,decide_eq_true hf,decide_eq_true (Nat.le_antisymm lvl_le (by exact Nat.not_lt.mp ‹_›))];rfl
 ·rcases L.ne with h|⟨x,hx,hxl,p,hp,hpr,hpl⟩
  ·exact h
  ·have hf:=(hs x hx hxl p hpr).resolve_left (by lia)
   unfold cnt
   rw [Nat.succ_le_iff,List.length_pos_iff]
   intro h
   rw [List.filter_eq_nil_iff] at h
   refine h p (List.mem_range.mpr hp) ?_
   unfold mkd
   rw [hpr]
   dsimp only
   rw [Int.natAbs_neg,decide_eq_true hf,decide_eq_true hpl];rfl
theorem cnt_succ{fv:List Int}{q:Nat}:cnt s fv (q+1)=cnt s fv q+if mkd s fv q=true then 1 else 0:=by
 unfold cnt
 rw [List.range_succ,List.filter_append,List.length_append,fil1]
 induction mkd s fv q<;>rfl
theorem cnt_pos{fv:List Int}{q:Nat}(h:1≤cnt s fv q):∃i<q,mkd s fv i=true:=by
 unfold cnt at h
 obtain ⟨i,hi⟩:=List.length_pos_iff_exists_mem.mp h
 have:=List.mem_filter.mp hi
 exact ⟨i,List.mem_range.mp this.1,this.2⟩
theorem mkd_lvl{fv:List Int}{q:Nat}(h:mkd s fv q=true):lvl s.be q=s.be.length:=by
 unfold mkd at h
 generalize hr:s.ro[q]?=zq;induction zq with
 |none=>rw [hr] at h;cases h
 |some l=>
  rw [hr] at h
  dsimp only at h
  rw [Bool.and_eq_true] at h
  exact of_decide_eq_true h.2
theorem ScI.skip{q:Nat}(S:ScI N M s es bh (q+1)){l:Int}(hl:s.ro[q]?=some l)(hn:(l.natAbs:Int)∉ky es):ScI N M s es bh q∧cnt s (ky es) q=cnt s (ky es) (q+1):=by
 have hm:mkd s (ky es) q=false:=by
  unfold mkd
  rw [hl]
  dsimp only
  rw [decide_eq_false hn];rfl
 have hc:cnt s (ky es) q=cnt s (ky es) (q+1):=by rw [cnt_succ,hm];rfl
 refine ⟨⟨fun α hα h1 h2=>S.sem α hα h1 fun i hi l' hl' hm'=>?_,by rw [hc];exact S.one,Nat.le_of_succ_le S.le⟩,hc⟩
 rcases Nat.lt_succ_iff_lt_or_eq.mp hi with hi|rfl
 ·exact h2 i hi l' hl' hm'
 ·rw [hm] at hm';cases hm'
theorem ScI.top{q:Nat}(S:ScI N M s es bh (q+1)){l:Int}(hl:s.ro[q]?=some l)(hn:(l.natAbs:Int)∈ky es):lvl s.be q=s.be.length∧cnt s (ky es) (q+1)=cnt s (ky es) q+1:=by
 obtain ⟨i,hi,hm⟩:=cnt_pos S.one
 have h1:lvl s.be q=s.be.length:=Nat.le_antisymm lvl_le (by rw [←mkd_lvl hm];exact lvl_mono (by exact Nat.le_of_lt_succ ‹_›))
 have h2:mkd s (ky es) q=true:=by
  unfold mkd
  rw [hl]
  dsimp only
  rw [decide_eq_true hn,decide_eq_true h1];rfl
 exact ⟨h1,by rw [cnt_succ,h2];rfl⟩
theorem ScI.learn{q:Nat}(S:ScI N M s es bh (q+1))(C:Core N M s){u:Int}(hl:s.ro[q]?=some u)(hn:(u.natAbs:Int)∈ky es)(h0:cnt s (ky es) q=0)(b1:∀b∈bh,b≠0):∀α,M α→Sat α (-u::bh):=by
 intro α hα
 apply Classical.byContradiction
 intro hns
 have hu:=(C.td.nz u (List.mem_of_getElem? hl)).1
 have hf:∀y∈-u::bh,¬ltr α y:=fun y hy ht=>hns ⟨y,hy,ht⟩
 refine S.sem α hα (fun b hb=>(ltr_neg (b1 b hb)).mpr (hf b (List.mem_cons_of_mem _ hb))) fun i hi l hi' hm=>?_
 rcases Nat.lt_succ_iff_lt_or_eq.mp hi with hi|rfl
 ·exfalso
  unfold cnt at h0
  have:=List.length_eq_zero_iff.mp h0
  rw [List.filter_eq_nil_iff] at this
  exact this i (List.mem_range.mpr hi) hm
 ·rw [hl] at hi';cases hi'
  have:=hf (-u) (List.mem_cons_self ..)
  exact Classical.byContradiction fun h=>this ((ltr_neg hu).mpr h)
theorem LsI.next{q k0:Nat}{c0:List Int}(L:LsI N M s c0 es bh k0 last)(S:ScI N M s es bh (q+1))(C:Core N M s)(hb:0<s.be.length){u:Int}(hl:s.ro[q]?=some u)(hn:(u.natAbs:Int)∈ky es)(h0:cnt s (ky es) q≠0):Ex2 fun (k:Nat) (c:List Int)=>An3 (get s.ca u.natAbs=some (.int k)) (s.rows[k]?=some c) (LsI N M s c es bh q u):=by
 obtain ⟨h1,h2⟩:=S.top hl hn
 obtain ⟨i,hi,hm⟩:=cnt_pos (Nat.one_le_iff_ne_zero.mpr h0)
 rcases C.ca q u hl with ⟨h3,h4⟩|⟨k,c,h3,h4,h5,h6⟩
 ·exfalso
  rcases h4 with h4|h4
  ·lia
  ·have:=lvl_full (mkd_lvl hm) q h4
   lia
 ·refine ⟨k,c,h3,h4,L.kf,L.b1,L.b2,L.f1,Nat.le_of_succ_le S.le,fun x hx hxu=>?_,fun α hα h7 h8 h9=>?_,.inl (Nat.one_le_iff_ne_zero.mpr h0)⟩
  ·obtain ⟨j,hj⟩:=List.mem_iff_getElem?.mp (h6 x hx hxu)
   have hlt:=(List.getElem?_eq_some_iff.mp hj).1
   rw [List.length_take] at hlt
   rw [List.getElem?_take_of_lt (by exact (Nat.lt_min.mp ‹_›).1)] at hj
   exact ⟨j,by exact (Nat.lt_min.mp ‹_›).1,hj⟩
  ·obtain ⟨y,hy,ht⟩:=C.rM c (List.mem_of_getElem? h4) α hα
   have hy0:=((C.rk c (List.mem_of_getElem? h4)).2.2 y hy).1
   have hyu:y=u:=Classical.byContradiction fun e=>(ltr_neg hy0).mp (h9 y hy e) ht
   subst hyu
   refine S.sem α hα h7 fun j hj l hl' hm'=>?_
   rcases Nat.lt_succ_iff_lt_or_eq.mp hj with hj|rfl
   ·exact h8 j hj l hl' hm'
   ·rw [hl] at hl';cases hl';exact ht
theorem LsI.start(C:Core N M s)(hc:c∈s.rows)(hall:∀x∈c,-x∈s.ro){p:Nat}(hp:∀b∈s.be,b≤p)(hx:∃x∈c,s.ro[p]?=some (-x)):LsI N M s c [] [] s.ro.length 0:=by
 have hnz:=(C.rk c hc).2.2
 refine ⟨.nil,fun b hb=>(by cases hb),List.nodup_nil,fun v hv=>(by cases hv),Nat.le_refl _,fun x hx _=>?_,fun α hα _ _ h=>?_,?_⟩
 ·obtain ⟨i,hi⟩:=List.mem_iff_getElem?.mp (hall x hx)
  exact ⟨i,(List.getElem?_eq_some_iff.mp hi).1,hi⟩
 ·obtain ⟨x,hx,ht⟩:=C.rM c hc α hα
  exact (ltr_neg (hnz x hx).1).mp (h x hx (hnz x hx).1) ht
 ·obtain ⟨x,hx,hxp⟩:=hx
  exact .inr ⟨x,hx,(hnz x hx).1,p,(List.getElem?_eq_some_iff.mp hxp).1,hxp,lvl_all hp⟩
end
theorem ne_ii{H:AH}{i j:Int}:cmpV H .ne (.int i) (.int j)=some (!decide (i=j)):=by
 show (eqV H (.int i) (.int j)).map (!·)=_
 rw [show eqV H (.int i) (.int j)=some (decide (i=j)) from eq_ii (H:=H)];rfl
theorem eq_nn{H:AH}{i j:Nat}:cmpV H .eq (.int i) (.int j)=some (decide (i=j)):=by
 rw [eq_ii]
 congr 1
 exact decide_eq_decide.mpr Int.ofNat_inj
theorem nm{H:AH}{d:Addr}{es:List (Int×V)}{k:Int}(h:H d=some (.dct es)):cmpV H .notMem (.int k) (.ref d)=some (!decide (k∈ky es)):=by
 show (memV H (.int k) (.ref d)).map (!·)=_
 rw [mb h];rfl
section
variable{sp:Sp}{m:List V}{H:AH}{Q:V→AH→Prop}
theorem pv_and{l r:X}{b d:Bool}(h:l.pv m H=some (.bool b))(h':b=true→r.pv m H=some (.bool d)):(X.and l r).pv m H=some (.bool (b&&d)):=by
 refine pvb (pvb h rfl) ?_
 induction b
 ·rfl
 ·show ((r.pv m H).bind V.b?).map V.bool=_
  rw [h' rfl];rfl
theorem abs_pv{x:X}{i:Int}(h:x.pv m H=some (.int i)):(X.bi .abs [x]).pv m H=some (.int i.natAbs):=pvb (pvb h rfl) rfl
theorem e_dict0(h:∀a,H a=none→Q (.ref a) (H.set a (.dct []))):(X.dict0).ev sp m H Q:=h
theorem add_ll{a b:Addr}{l r:List V}(h:H a=some (.lst l))(h':H b=some (.lst r))(hl:l.length+r.length≤sz)(q:∀x,H x=none→Q (.ref x) (H.set x (.lst (l++r)))):binW H .add (.ref a) (.ref b) Q:=by
 show ifS (H a) _
 exact zg h (zg h' ⟨hl,q⟩)
theorem e_bin{op:Op}{l r:X}(h:l.ev sp m H fun v H=>r.ev sp m H fun w H=>binW H op v w Q):(X.bin op l r).ev sp m H Q:=h
end
structure Les(N:Nat)(M:(Nat→Bool)→Prop)(s:St)(u:Int)(bh:List Int):Prop where
 u1:∃i,s.ro[i]?=some u∧lvl s.be i=s.be.length
 b1:∀b∈bh,∃i,An3 (s.ro[i]?=some (-b)) (0<lvl s.be i) (lvl s.be i<s.be.length)
 nd:((-u::bh).map Int.natAbs).Nodup
 sat:∀α,M α→Sat α (-u::bh)
noncomputable def LH(N:Nat)(H:AH)(lay:Ro→Addr)(s:St)(fa ba:Addr)(es:List (Int×V))(bh:List Int)(H':AH):Prop:=
 Ex3 fun lay' es' g=>An6 (SF H lay s H' lay' (hot s es' g)) (HtOK N es') (H' fa=some (.dct es)) (H' ba=some (.lst (zs bh))) (¬fp lay' (hot s es' g) fa) (¬fp lay' (hot s es' g) ba)
section
variable{n:Nat}{H:AH}{lay:Ro→Addr}{s:St}{a:Addr}{Q:V→AH→Prop}{N:Nat}{M:(Nat→Bool)→Prop}
theorem c_lesson(So:Sol H lay s)(ha:lay .ins=a)(C:Core N M s)(hN:N<1000)(hb:0<s.be.length){k:Nat}{c:List Int}(hk:s.rows[k]?=some c)(hall:∀x∈c,-x∈s.ro){p:Nat}(hp:∀b∈s.be,b≤p)(hx:∃x∈c,s.ro[p]?=some (-x))
  (qq:∀H' lay' es g y u bh,SF H lay s H' lay' (hot s es g)→HtOK N es→H' y=some (.lst (zs (-u::bh)))→¬fp lay' (hot s es g) y→Les N M s u bh→Q (.ref y) H'):spN tabL (n+2) 12 [.ref a,.int k] H Q:=by
 have hsz:N<sz:=Nat.lt_trans hN (by decide)
 refine sp_go rfl rfl (zj (s_asgN (zv (e_dict0 fun fa hfa=>zv (e_list (zp fun ba hba=>zv (zw (.c (.int 0)) (.int 0) _ rfl (zv (zw _ (.int s.ro.length) _ (len_pv (((So.junk hfa).junk hba).a_ ha rfl rfl) (ln_zs (((So.junk hfa).junk hba).at_ .ro trivial))) (zv (zw (.c (.int 0)) (.int 0) _ rfl (zp ⟨rfl,?_⟩))))))))))))
 have h0:=(SF.junk So (o:= .dct []) hfa).trans (SF.junk (So.junk hfa) (o:= .lst []) hba)
 have hfb:fa≠ba:=by rintro rfl;rw [zx] at hba;cases hba
 have ffa:Fre H lay s fa:= .of hfa
 have fba:Fre H lay s ba:=(SF.junk So (o:= .dct []) hfa).fre hba
 have hLH0:LH N H lay s fa ba [] [] ((H.set fa (.dct [])).set ba (.lst [])):=⟨lay,s.ht,s.gain,h0,C.ht,by rw [zu hfb];exact zx,zx,So.nfp hfa,(So.junk hfa).nfp hba⟩
 generalize ((H.set fa (.dct [])).set ba (.lst []))=H0 at hLH0
 have hcnt0:(0:Int)=(cnt s (ky []) s.ro.length:Nat):=by
  have:cnt s (ky []) s.ro.length=0:=by
   unfold cnt
   rw [List.length_eq_zero_iff,List.filter_eq_nil_iff]
   intro i _ h
   unfold mkd at h
   generalize hr:s.ro[i]?=zq;induction zq with
   |none=>rw [hr] at h;cases h
   |some l=>rw [hr] at h;cases h
  rw [this];rfl
 refine zj (s_whK (fun t m H'=>Ex7 fun (k:Nat) (c:List Int) (es:List (Int×V)) (bh:List Int) (last:Int) (z7 z8:V)=>An4 (m=[.ref a,.int k,.ref fa,.ref ba,.int (cnt s (ky es) t:Nat),.int t,.int last,z7,z8]) (s.rows[k]?=some c) (LH N H lay s fa ba es bh H') (LsI N M s c es bh t last)) s.ro.length ⟨k,c,[],[],0,.un,.un,by rw [←hcnt0];rfl,hk,hLH0,LsI.start C (List.mem_of_getElem? hk) hall hp hx⟩ fun t m H1 KW hI hW=>⟨true,rfl,fun _=>?_,fun h=>by cases h⟩)
 clear hk hall hx hLH0
 refine nn fun hC=>?_
 obtain ⟨k,c,es,bh,last,z7,z8,rfl,hk,hL,L⟩:=hI
 obtain ⟨lay1,es1,g1,h1,ht1,hfa1,hba1,nfa1,nba1⟩:=hL
 refine hC ?_
 have hklt:=(List.getElem?_eq_some_iff.mp hk).1
 have hfix:∀{H' lay' es g},SF H lay s H' lay' (hot s es g)→lay' (.cl k)=lay (.cl k):=fun h=>(h.2.fix (.cl k) rfl hklt).2
 have hrow:∀{H' lay' es g},SF H lay s H' lay' (hot s es g)→H' (lay (.cl k))=some (.lst (zs c)):=fun {H' lay' es g} h=>by
  rw [←hfix h];exact h.1.row (s:=hot s es g) hk
 have hnz:=(C.rk c (List.mem_of_getElem? hk)).2.2
 refine zj (s_for (zw _ (.ref (lay (.cl k))) _ (by rw [←hfix h1];exact ref_row h1.1 (h1.ins ha) hklt rfl) (it_l (hrow h1) ?_)))
 refine floop_ind (fun j m H'=>Ex4 fun es bh z7 z8=>An4 (m=[.ref a,.int k,.ref fa,.ref ba,.int (cnt s (ky es) t:Nat),.int t,.int last,z7,z8]) (LH N H lay s fa ba es bh H') (LsI N M s c es bh t last) (Seen s es last (c.take j))) _ (fun j v m H2 K hv hI hK=>?_) (fun m H2 hI=>?_) ⟨es,bh,z7,z8,rfl,⟨lay1,es1,g1,h1,ht1,hfa1,hba1,nfa1,nba1⟩,L,fun x hx=>by cases hx⟩
 ·clear L hfa1 hba1
  refine nn fun hC=>?_
  obtain ⟨es,bh,z7,z8,rfl,⟨lay2,es2,g2,h2,ht2,hfa2,hba2,nfa2,nba2⟩,L,hs⟩:=hI
  obtain ⟨x,hxj,rfl⟩:=zs_at hv
  refine hC ?_
  have hxc:=List.mem_of_getElem? hxj
  have hx0:=hnz x hxc
  have ha2:=h2.ins ha
  refine ⟨wq (hrow h2),zj (vj (zw _ (.int x.natAbs) _ rfl ?_))⟩
  have hsame:(∀y∈c.take (j+1),y∈c.take j∨y=x):=fun y hy=>(wy hxj).mp hy
  have hskip:∀z7 z8,(x=last∨(x.natAbs:Int)∈ky es∨∀i,s.ro[i]?=some (-x)→lvl s.be i=0)→K [.ref a,.int k,.ref fa,.ref ba,.int (cnt s (ky es) t:Nat),.int t,.int last,z7,z8] H2:=fun z7 z8 h=>hK _ _ ⟨es,bh,z7,z8,rfl,⟨lay2,es2,g2,h2,ht2,hfa2,hba2,nfa2,nba2⟩,L,fun y hy hyl i hi=>by
   rcases hsame y hy with hy|rfl
   ·exact hs y hy hyl i hi
   ·rcases h with h|h|h
    ·exact absurd h hyl
    ·exact .inr h
    ·exact .inl (h i hi)⟩
  by_cases hxl:x=last
  ·exact zj (s_ite (b:=false) (pv_and (b:=false) (d:=false) (pvb rfl (pvb rfl (pcm (by rw [ne_ii,decide_eq_true hxl];rfl)))) (fun h=>by cases h)) (fun h=>by cases h) fun _=>zy (zy (hskip _ _ (.inl hxl))))
  obtain ⟨i,hit,hi⟩:=L.cl x hxc hxl
  have hhe:∀{H' lay' es g z7},SF H lay s H' lay' (hot s es g)→(X.sub (.attr (.loc 0) 1) (.loc 8)).pv [.ref a,.int k,.ref fa,.ref ba,.int (cnt s (ky es) t:Nat),.int t,.int last,z7,.int x.natAbs] H'=some (.int (lvl s.be i)):=fun h=>pvb (h.1.a_ (h.ins ha) rfl rfl) (pvb rfl (sb_d (h.1.at_ .he trivial) (by have:=C.he i _ hi;rw [Int.natAbs_neg] at this;exact this)))
  have hcond:(X.and (.cmp .ne (.loc 7) (.loc 6)) (.and (.cmp .notMem (.loc 8) (.loc 2)) (.and (.cmp .gt (.sub (.attr (.loc 0) 1) (.loc 8)) (.c (.int 0))) (.c (.bool true))))).pv [.ref a,.int k,.ref fa,.ref ba,.int (cnt s (ky es) t:Nat),.int t,.int last,.int x,.int x.natAbs] H2=some (.bool (true&&(!decide ((x.natAbs:Int)∈ky es)&&(decide (0<lvl s.be i)&&true)))):=by
   refine pv_and (pvb rfl (pvb rfl (pcm (by rw [ne_ii,decide_eq_false hxl];rfl)))) fun _=>pv_and (pvb rfl (pvb rfl (pcm (nm hfa2)))) fun _=>pv_and (pvb (pvb (h2.1.a_ ha2 rfl rfl) (pvb rfl (sb_d (h2.1.at_ .he trivial) (by have:=C.he i _ hi;rw [Int.natAbs_neg] at this;exact this)))) (pvb rfl (pcm ?_))) fun _=>rfl
   show some (decide ((0:Int)<(lvl s.be i:Int)))=_
   congr 1
   exact decide_eq_decide.mpr Int.ofNat_lt
  refine zj (s_ite hcond (fun hd=>?_) fun hd=>?_)
  ·rw [Bool.true_and,Bool.and_true,Bool.and_eq_true] at hd
   have hnf:(x.natAbs:Int)∉ky es:=of_decide_eq_false (by
    have:=hd.1
    rwa [Bool.not_eq_true'] at this)
   have hl0:=of_decide_eq_true hd.2
   refine zj (s_setI (v:= .ref fa) (k:= .int x.natAbs) rfl rfl rfl (setI_d hfa2 (Nat.lt_of_le_of_lt L.kf.len hsz) ?_))
   have h3:=h2.side (o:= .dct (put es x.natAbs (.bool true))) ffa nfa2
   have hba3:(H2.set fa (.dct (put es x.natAbs (.bool true)))) ba=some (.lst (zs bh)):=by rw [zu fun e=>hfb e.symm];exact hba2
   refine zj (s_ex (cm_ok (xs:=[.loc 8]) (P:=fun _ H=>_) h3.1 ha2 rfl (zv (zw (.loc 8) (.int x.natAbs) _ rfl (zp (c_warm h3.1 ha2 hN ht2 (by exact na_1 (And.left ‹_›)) (by exact Int.ofNat_le.mpr (And.right ‹_›)) fun H4 lay4 es4 g4 h4 ht4=>?_))))))
   have h4':SF H lay s H4 lay4 (hot s es4 g4):=h3.trans h4
   have hfa4:=h3.1.out h4.2 (x:=fa) (o:= .dct (put es x.natAbs (.bool true))) zx nfa2
   have hba4:=h3.1.out h4.2 hba3 nba2
   refine zj (s_ite (b:=decide (lvl s.be i=s.be.length)) (pvb (pvb (h4'.1.a_ (h4'.ins ha) rfl rfl) (pvb rfl (sb_d (h4'.1.at_ .he trivial) (by have:=C.he i _ hi;rw [Int.natAbs_neg] at this;exact this)))) (pvb (len_pv (h4'.1.a_ (h4'.ins ha) rfl rfl) (ln_nz (h4'.1.at_ .be trivial))) (pcm eq_nn))) (fun he=>?_) fun he=>?_)
   ·obtain ⟨L',hc⟩:=L.hi C hxc hi hit hnf (of_decide_eq_true he)
    refine zj (vj (zw _ (.int (cnt s (ky (put es x.natAbs (.bool true))) t:Nat)) _ (pvb rfl (pvb rfl (by rw [hc];rfl))) (zy (zy (zy (hK _ _ ⟨_,_,_,_,rfl,⟨lay4,es4,g4,h4',ht4,hfa4.1,hba4.1,hfa4.2,hba4.2⟩,L',fun y hy hyl i' hi'=>?_⟩))))))
    rcases hsame y hy with hy|rfl
    ·exact (hs y hy hyl i' hi').imp id fun h=>ky_put_mem.mpr (.inl h)
    ·exact .inr (ky_put_mem.mpr (.inr rfl))
   ·have hll:lvl s.be i<s.be.length:=Nat.lt_of_le_of_ne lvl_le (of_decide_eq_false he)
    obtain ⟨L',hc⟩:=L.lo C hxc hi hit hnf hl0 hll
    have hbl:bh.length<sz:=by
     have:=nodup_le (r:=s.ro.map Int.natAbs) L.b2 fun v hv=>by
      obtain ⟨b,hb,rfl⟩:=List.mem_map.mp hv
      obtain ⟨i',hi',_⟩:=L.b1 b hb
      exact List.mem_map.mpr ⟨-b,List.mem_of_getElem? hi',Int.natAbs_neg _⟩
     rw [List.length_map,List.length_map] at this
     exact Nat.lt_of_le_of_lt (Nat.le_trans this C.td.len) hsz
    refine zj (s_ex (bm_l (b:=ba) rfl hba4.1 rfl (zv (zw (.loc 7) (.int x) _ rfl (zp (app_ok hba4.1 (by rw [wd];exact hbl) ?_))))))
    have h5:=h4'.side (o:= .lst (zs bh++[.int x])) fba hba4.2
    refine zy (zy (zy (hK _ _ ⟨_,bh++[x],_,_,by rw [hc];rfl,⟨lay4,es4,g4,h5,ht4,by rw [zu hfb];exact hfa4.1,by rw [zx,zs_app];rfl,hfa4.2,hba4.2⟩,L',fun y hy hyl i' hi'=>?_⟩)))
    rcases hsame y hy with hy|rfl
    ·exact (hs y hy hyl i' hi').imp id fun h=>ky_put_mem.mpr (.inl h)
    ·exact .inr (ky_put_mem.mpr (.inr rfl))
  ·rw [Bool.true_and,Bool.and_true,Bool.and_eq_false_iff] at hd
   refine zy (zy (hskip _ _ (.inr ?_)))
   rcases hd with hd|hd
   ·rw [Bool.not_eq_false'] at hd
    exact .inl (of_decide_eq_true hd)
   ·refine .inr fun i' hi'=>?_
    obtain ⟨rfl,_⟩:=ro_inj C.td hi hi' rfl
    have:=of_decide_eq_false hd
    lia
 ·clear L hfa1 hba1
  refine nn fun hC=>?_
  obtain ⟨es,bh,z7,z8,rfl,⟨lay2,es2,g2,h2,ht2,hfa2,hba2,nfa2,nba2⟩,L,hs⟩:=hI
  refine hC ?_
  have ha2:=h2.ins ha
  rw [wd,List.take_length] at hs
  have S:=L.close C hb hs
  refine ⟨wq (hrow h2),?_⟩
  obtain ⟨t,rfl⟩:∃q,t=q+1:=by
   induction t with
   |zero=>exact absurd S.one (by unfold cnt;simp)
   |succ q=>exact ⟨q,rfl⟩
  refine zj (vj (zw _ (.int t) _ (pvb rfl (pvb rfl (by show some (V.int (((t+1:Nat):Int)-1))=_;congr 2;lia))) ?_))
  refine zj (s_whK (fun q m H'=>m=[.ref a,.int k,.ref fa,.ref ba,.int (cnt s (ky es) (t+1):Nat),.int q,.int last,z7,z8]∧H'=H2∧q≤t∧ScI N M s es bh (q+1)∧cnt s (ky es) (q+1)=cnt s (ky es) (t+1)) t ⟨rfl,rfl,Nat.le_refl _,S,rfl⟩ fun q m H' KX hI hX=>?_)
  obtain ⟨rfl,rfl,hqt,Sq,hcq⟩:=hI
  have hql:q<s.ro.length:=Sq.le
  have hu:s.ro[q]?=some s.ro[q]:=List.getElem?_eq_getElem hql
  generalize s.ro[q]=u at hu
  have hrq:∀{z4 z6:V},(X.sub (.attr (.loc 0) 3) (.loc 5)).pv [.ref a,.int k,.ref fa,.ref ba,z4,.int q,z6,z7,z8] H'=some (.int u):=pvb (h2.1.a_ ha2 rfl rfl) (pvb rfl (sb_l (h2.1.at_ .ro trivial) (idx_nat (zs_get hu))))
  refine ⟨!decide ((u.natAbs:Int)∈ky es),pvb (abs_pv hrq) (pvb rfl (pcm (nm hfa2))),fun hd=>?_,fun hd=>?_⟩
  ·have hn:(u.natAbs:Int)∉ky es:=of_decide_eq_false (by rwa [Bool.not_eq_true'] at hd)
   obtain ⟨S',hc'⟩:=Sq.skip hu hn
   obtain ⟨q,rfl⟩:∃r,q=r+1:=by
    induction q with
    |zero=>exact absurd S'.one (by unfold cnt;simp)
    |succ q=>exact ⟨q,rfl⟩
   exact zj (vj (zw _ (.int q) _ (pvb rfl (pvb rfl (by show some (V.int (((q+1:Nat):Int)-1))=_;congr 2;lia))) (zy (hX q _ _ (Nat.lt_succ_self _) ⟨rfl,rfl,by exact Nat.le_of_lt ‹_›,S',hc'.trans hcq⟩))))
  ·have hn:(u.natAbs:Int)∈ky es:=of_decide_eq_true (by rwa [Bool.not_eq_false'] at hd)
   obtain ⟨hlv,hct⟩:=Sq.top hu hn
   refine zj (s_asgN (zv (zw _ (.int u) _ hrq (zv (zw _ (.int (cnt s (ky es) q:Nat)) _ (pvb rfl (pvb rfl (by rw [←hcq,hct];show some (V.int (((cnt s (ky es) q+1:Nat):Int)-1))=_;congr 2;lia))) (zp ⟨rfl,?_⟩))))))
   refine zj (s_ite (b:=decide (cnt s (ky es) q=0)) (pvb rfl (pvb rfl (pcm (eq_nn (j:=0))))) (fun h0=>?_) fun h0=>?_)
   ·have h0:=of_decide_eq_true h0
    have b10:∀b∈bh,b≠0:=fun b hb=>by
     obtain ⟨i,hi,_⟩:=L.b1 b hb
     exact (nz_n (C.td.nz _ (List.mem_of_getElem? hi))).1
    refine zj (s_ret (e_bin (e_list (zv (zw (.neg (.loc 6)) (.int (-u)) _ rfl (zp fun x hx=>zw (.loc 3) (.ref ba) _ rfl (add_ll (l:=[.int (-u)]) (r:=zs bh) zx (by rw [zu fun e=>by rw [e,hx] at hba2;cases hba2];exact hba2) ?_ fun y hy=>?_)))))))
    ·have:=nodup_le (r:=s.ro.map Int.natAbs) L.b2 fun v hv=>by
      obtain ⟨b,hb,rfl⟩:=List.mem_map.mp hv
      obtain ⟨i',hi',_⟩:=L.b1 b hb
      exact List.mem_map.mpr ⟨-b,List.mem_of_getElem? hi',Int.natAbs_neg _⟩
     rw [List.length_map,List.length_map] at this
     have:=C.td.len
     rw [wd]
     simp only [List.length_cons,List.length_nil]
     have:(1000:Nat)≤sz:=by decide
     lia
    ·have h6:=h2.trans ((SF.junk h2.1 hx).trans (SF.junk (h2.1.junk (o:= .lst [.int (-u)]) hx) (o:= .lst ([.int (-u)]++zs bh)) hy))
     refine qq _ _ _ _ y u bh h6 ht2 zx ((h2.1.junk (o:= .lst [.int (-u)]) hx).nfp hy) ⟨⟨_,hu,hlv⟩,fun b hb=>?_,?_,Sq.learn C hu hn h0 b10⟩
     ·refine nn fun hC=>?_
      obtain ⟨i,h7,h8,h9,_⟩:=L.b1 b hb
      refine hC ?_
      exact ⟨i,h7,h8,h9⟩
     ·rw [List.map_cons,List.nodup_cons]
      refine ⟨fun hm=>?_,L.b2⟩
      obtain ⟨b,hb,e⟩:=List.mem_map.mp hm
      obtain ⟨i,h7,h8,h9,_⟩:=L.b1 b hb
      obtain ⟨rfl,_⟩:=ro_inj C.td h7 hu (by rw [Int.natAbs_neg,e,Int.natAbs_neg])
      lia
   ·have h0:=of_decide_eq_false h0
    refine nn fun hC=>?_
    obtain ⟨k',c',hca,hk',L'⟩:=L.next Sq C hb hu hn h0
    refine hC ?_
    refine zy (zj (vj (zw _ (.int k') _ (pvb (h2.1.a_ ha2 rfl rfl) (pvb (abs_pv (i:=u) rfl) (sb_d (h2.1.at_ .ca trivial) hca))) (zy (hW q _ _ (by exact Nat.lt_succ_of_le ‹_›) ⟨k',c',es,bh,u,z7,z8,rfl,hk',⟨lay2,es2,g2,h2,ht2,hfa2,hba2,nfa2,nba2⟩,L'⟩)))))
end
section
variable{N:Nat}{M:(Nat→Bool)→Prop}{s:St}
theorem take_at{α:Type}{l:List α}{i q:Nat}{x:α}(h:(l.take q)[i]?=some x):i<q∧l[i]?=some x:=by
 have hlt:=(List.getElem?_eq_some_iff.mp h).1
 rw [List.length_take] at hlt
 rw [List.getElem?_take_of_lt (by exact (Nat.lt_min.mp ‹_›).1)] at h
 exact ⟨by exact (Nat.lt_min.mp ‹_›).1,h⟩
theorem at_take{α:Type}{l:List α}{i q:Nat}{x:α}(h:l[i]?=some x)(hi:i<q):(l.take q)[i]?=some x:=by
 rw [List.getElem?_take_of_lt hi];exact h
theorem mem_take_at{α:Type}{l:List α}{q:Nat}{x:α}(h:x∈l.take q):∃i<q,l[i]?=some x:=by
 obtain ⟨i,hi⟩:=List.mem_iff_getElem?.mp h
 exact ⟨i,take_at hi⟩
theorem at_mem_take{α:Type}{l:List α}{i q:Nat}{x:α}(h:l[i]?=some x)(hi:i<q):x∈l.take q:=List.mem_of_getElem? (at_take h hi)
theorem Core.back(C:Core N M s){h q:Nat}{kn li:List (Int×V)}(hq:s.be[h]?=some q)(T:TD N (backS s h q kn li)):Core N M (backS s h q kn li):=by
 have hlv:∀{i},i<q→lvl (s.be.take h) i=lvl s.be i:=fun hi=>lvl_take C.srt hq hi
 refine ⟨T,fun i l hl=>?_,fun i l hl=>?_,C.srt.sublist (List.take_sublist ..),fun b hb=>srt_take C.srt hq b hb,?_,C.rk,C.rM,fun i l hl h0=>?_,C.ht,C.wn,C.wr,C.lim⟩
 ·obtain ⟨hi,hl⟩:=take_at hl
  show _=some (V.int (lvl (s.be.take h) i:Nat))
  rw [hlv hi];exact C.he i l hl
 ·obtain ⟨hi,hl⟩:=take_at hl
  rcases C.ca i l hl with ⟨h1,h2⟩|⟨k,c,h1,h2,h3,h4⟩
  ·refine .inl ⟨h1,?_⟩
   rcases h2 with h2|h2
   ·exact .inl (by show lvl (s.be.take h) i=0;rw [hlv hi];exact h2)
   ·refine .inr ?_
    rw [←List.take_append_drop h s.be] at h2
    rcases List.mem_append.mp h2 with h2|h2
    ·exact h2
    ·have:=srt_drop C.srt hq i h2
     lia
  ·refine .inr ⟨k,c,h1,h2,h3,fun x hx hxl=>?_⟩
   show-x∈(s.ro.take q).take i
   rw [List.take_take,Nat.min_eq_left (Nat.le_of_lt hi)]
   exact h4 x hx hxl
 ·show q≤(s.ro.take q).length
  rw [List.length_take]
  have:=C.kb q (List.mem_of_getElem? hq)
  lia
 ·obtain ⟨hi,hl⟩:=take_at hl
  have h0:lvl (s.be.take h) i=0:=h0
  rw [hlv hi] at h0
  exact C.zM i l hl h0
theorem Cv.back(h:Cv M s)(C:Core N M s){k q:Nat}{kn li:List (Int×V)}(hq:s.be[k]?=some q):Cv M (backS s k q kn li):=fun α h1 h2=>h α h1 fun i l hl h0=>by
 have hi:i<q:=(lvl_lt C.srt hq).mp (by lia)
 refine h2 i l (at_take hl hi) ?_
 show lvl (s.be.take k) i=0
 rw [lvl_take C.srt hq hi];exact h0
theorem PR.back{p:Nat}(P:PR s p)(C:Core N M s){h q:Nat}{kn li:List (Int×V)}(hq:s.be[h]?=some q)(hp:q≤p):PR (backS s h q kn li) q:=fun k c w w' hc hw i hi hx=>by
 refine nn fun hC=>?_
 obtain ⟨_,hx⟩:=take_at hx
 obtain ⟨j,h1,h2⟩:=P k c w w' hc hw i (by exact Nat.lt_of_lt_of_le ‹_› ‹_›) hx
 refine hC ?_
 have hj:j<q:=(lvl_lt C.srt hq).mp (Nat.le_trans h2 ((lvl_lt C.srt hq).mpr hi))
 refine ⟨j,at_take h1 hj,?_⟩
 show lvl (s.be.take h) j≤lvl (s.be.take h) i
 rw [lvl_take C.srt hq hi,lvl_take C.srt hq hj];exact h2
theorem WI.back(W:WI s){h q:Nat}{kn li:List (Int×V)}:WI (backS s h q kn li):=⟨W.iff,W.nd⟩
theorem Core.hot(C:Core N M s){es:List (Int×V)}{g:Int}(h:HtOK N es):Core N M (hot s es g):=⟨⟨C.td.nz,C.td.nd,C.td.kn,C.td.kK,C.td.hK,C.td.cK,C.td.lK,C.td.lB⟩,C.he,C.ca,C.srt,C.bs,C.sl,C.rk,C.rM,C.zM,h,C.wn,C.wr,C.lim⟩
theorem Core.cl_(C:Core N M s){n:Nat}:Core N M (s.wCl n):=⟨⟨C.td.nz,C.td.nd,C.td.kn,C.td.kK,C.td.hK,C.td.cK,C.td.lK,C.td.lB⟩,C.he,C.ca,C.srt,C.bs,C.sl,C.rk,C.rM,C.zM,C.ht,C.wn,C.wr,C.lim⟩
theorem Core.lg_(C:Core N M s){c:List Int}:Core N M (s.addLog c):=⟨⟨C.td.nz,C.td.nd,C.td.kn,C.td.kK,C.td.hK,C.td.cK,C.td.lK,C.td.lB⟩,C.he,C.ca,C.srt,C.bs,C.sl,C.rk,C.rM,C.zM,C.ht,C.wn,C.wr,C.lim⟩
theorem Core.gain_(C:Core N M s){g:Int}:Core N M (s.wGain g):=⟨⟨C.td.nz,C.td.nd,C.td.kn,C.td.kK,C.td.hK,C.td.cK,C.td.lK,C.td.lB⟩,C.he,C.ca,C.srt,C.bs,C.sl,C.rk,C.rM,C.zM,C.ht,C.wn,C.wr,C.lim⟩
theorem Core.ref_(C:Core N M s){b:Bool}:Core N M (s.wRef b):=⟨⟨C.td.nz,C.td.nd,C.td.kn,C.td.kK,C.td.hK,C.td.cK,C.td.lK,C.td.lB⟩,C.he,C.ca,C.srt,C.bs,C.sl,C.rk,C.rM,C.zM,C.ht,C.wn,C.wr,C.lim⟩
theorem Core.bl_(C:Core N M s){b:List Int}:Core N M (s.wBl b):=⟨⟨C.td.nz,C.td.nd,C.td.kn,C.td.kK,C.td.hK,C.td.cK,C.td.lK,C.td.lB⟩,C.he,C.ca,C.srt,C.bs,C.sl,C.rk,C.rM,C.zM,C.ht,C.wn,C.wr,C.lim⟩
theorem rows_app{c d:List Int}{k:Nat}(h:(s.rows++[c])[k]?=some d):(k=s.rows.length∧d=c)∨s.rows[k]?=some d:=by
 rcases Nat.lt_or_ge k s.rows.length with h'|h'
 ·rw [List.getElem?_append_left h'] at h;exact .inr h
 ·have h2:=(List.getElem?_eq_some_iff.mp h).1
  rw [List.length_append,List.length_singleton] at h2
  obtain rfl:k=s.rows.length:=by lia
  rw [List.getElem?_concat_length] at h
  cases h;exact .inl ⟨rfl,rfl⟩
theorem app_rows{c d:List Int}{k:Nat}(h:s.rows[k]?=some d):(s.rows++[c])[k]?=some d:=by
 rw [List.getElem?_append_left (List.getElem?_eq_some_iff.mp h).1];exact h
theorem Core.row_(C:Core N M s){c:List Int}(h1:RowOK N c)(h2:∀α,M α→Sat α c):Core N M (s.addRow c):=by
 refine ⟨⟨C.td.nz,C.td.nd,C.td.kn,C.td.kK,C.td.hK,C.td.cK,C.td.lK,C.td.lB⟩,C.he,fun i l hl=>?_,C.srt,C.bs,C.sl,fun d hd=>?_,fun d hd=>?_,C.zM,C.ht,C.wn,C.wr,C.lim⟩
 ·rcases C.ca i l hl with h|⟨k,d,h3,h4,h5,h6⟩
  ·exact .inl h
  ·exact .inr ⟨k,d,h3,app_rows h4,h5,h6⟩
 ·rcases List.mem_append.mp hd with hd|hd
  ·exact C.rk d hd
  ·rw [List.mem_singleton.mp hd];exact h1
 ·rcases List.mem_append.mp hd with hd|hd
  ·exact C.rM d hd
  ·rw [List.mem_singleton.mp hd];exact h2
theorem Core.keep(C:Core N M s){w0 w1:Int}{r:List Int}(h1:RowOK N (w0::w1::r))(h2:∀α,M α→Sat α (w0::w1::r)):Core N M (keepS s w0 w1 r):=by
 have a0:=h1.2.2 w0 (List.mem_cons_self ..)
 have a1:=h1.2.2 w1 (List.mem_cons_of_mem _ (List.mem_cons_self ..))
 exact ((C.row_ h1 h2).addW a0.1 a0.2).addW a1.1 a1.2
theorem Cv.keep(h:Cv M s){w0 w1:Int}{r:List Int}:Cv M (keepS s w0 w1 r):=fun α h1 h2=>h α (fun c hc=>h1 c (List.mem_append_left _ hc)) h2
theorem WI.keep(W:WI s){w0 w1:Int}{r:List Int}(hw:w0≠w1):WI (keepS s w0 w1 r):=by
 have hwg:∀l,wg (keepS s w0 w1 r) l=if l=w0∨l=w1 then wg s l++[s.rows.length] else wg s l:=fun l=>by
  have e1:∀l,wg (Mine.addW (s.addRow (w0::w1::r)) w0 s.rows.length) l=if l=w0 then wg s w0++[s.rows.length] else wg s l:=fun l=>wg_add
  have e2:wg (keepS s w0 w1 r) l=if l=w1 then wg (Mine.addW (s.addRow (w0::w1::r)) w0 s.rows.length) w1++[s.rows.length] else wg (Mine.addW (s.addRow (w0::w1::r)) w0 s.rows.length) l:=wg_add
  rw [e2,e1,e1,if_neg (fun e:w1=w0=>hw e.symm)]
  by_cases h1:l=w1
  ·rw [if_pos h1,if_pos (.inr h1),h1]
  ·rw [if_neg h1]
   by_cases h0:l=w0
   ·rw [if_pos h0,if_pos (.inl h0),h0]
   ·rw [if_neg h0,if_neg fun h=>h.elim h0 h1]
 have hlt:∀l,s.rows.length∉wg s l:=fun l h=>by
  obtain ⟨c,hc,_⟩:=(W.iff _ l).mp h
  have:=(List.getElem?_eq_some_iff.mp hc).1
  lia
 refine ⟨fun k l=>?_,fun l=>?_⟩
 ·rw [hwg]
  constructor
  ·intro h
   have key:k∈wg s l∨(k=s.rows.length∧(l=w0∨l=w1)):=by
    split at h
    ·rename_i e
     rcases List.mem_append.mp h with h|h
     ·exact .inl h
     ·exact .inr ⟨List.mem_singleton.mp h,e⟩
    ·exact .inl h
   rcases key with h|⟨rfl,e⟩
   ·obtain ⟨c,hc,hw⟩:=(W.iff k l).mp h
    exact ⟨c,app_rows hc,hw⟩
   ·exact ⟨w0::w1::r,List.getElem?_concat_length,wch_two.mpr e⟩
  ·rintro ⟨c,hc,hw⟩
   rcases rows_app hc with ⟨rfl,rfl⟩|hc
   ·rw [if_pos (wch_two.mp hw)];exact List.mem_append_right _ (List.mem_singleton.mpr rfl)
   ·have h:=(W.iff k l).mpr ⟨c,hc,hw⟩
    split
    ·exact List.mem_append_left _ h
    ·exact h
 ·rw [hwg]
  split
  ·rw [List.nodup_append]
   exact ⟨W.nd l,by simp,fun a ha b hb e=>hlt l (by rw [←List.mem_singleton.mp hb,←e];exact ha)⟩
  ·exact W.nd l
theorem PR.keep{p:Nat}(P:PR s p){w0 w1:Int}{r:List Int}(h:∀x y,(x=w0∧y=w1)∨(x=w1∧y=w0)→∀i<p,s.ro[i]?=some (-x)→∃j,s.ro[j]?=some y∧lvl s.be j≤lvl s.be i):PR (keepS s w0 w1 r) p:=fun k c w w' hc hw i hi hx=>by
 rcases rows_app hc with ⟨rfl,rfl⟩|hc
 ·exact h w w' (pair_two hw) i hi hx
 ·exact P k c w w' hc hw i hi hx
end
theorem ext_split{H H':AH}(h:Ext H H'){y:Addr}{o:O}(hy:H y=none)(hy':H' y=some o):∃H0,An3 (Ext H H0) (H0 y=none) (H'=H0.set y o):=by
 refine ⟨fun a=>if a=y then none else H' a,fun x p hx=>?_,if_pos rfl,?_⟩
 ·show (if x=y then none else H' x)=_
  rw [if_neg (by rintro rfl;rw [hy] at hx;cases hx)];exact h x p hx
 ·funext a
  unfold AH.set
  by_cases e:a=y
  ·rw [if_pos e,e];exact hy'
  ·rw [if_neg e];exact (if_neg e).symm
theorem nd_inj{l:List Int}(h:(l.map Int.natAbs).Nodup){x y:Int}(hx:x∈l)(hy:y∈l)(e:x.natAbs=y.natAbs):x=y:=by
 obtain ⟨i,hi,rfl⟩:=List.getElem_of_mem hx
 obtain ⟨j,hj,rfl⟩:=List.getElem_of_mem hy
 have h1:i<(l.map Int.natAbs).length:=by rw [List.length_map];exact hi
 have h2:j<(l.map Int.natAbs).length:=by rw [List.length_map];exact hj
 have:i=j:=(List.getElem_inj (h₀:=h1) (h₁:=h2) h).mp (by rw [List.getElem_map,List.getElem_map];exact e)
 subst this;rfl
theorem lits_len{N:Nat}{c:List Int}(h2:(c.map Int.natAbs).Nodup)(h3:∀x∈c,x≠0∧x.natAbs≤N):c.length≤N:=by
 have:=nodup_le (r:=(List.range N).map (·+1)) h2 fun x hx=>by
  obtain ⟨l,hl,rfl⟩:=List.mem_map.mp hx
  have:=h3 l hl
  exact List.mem_map.mpr ⟨l.natAbs-1,List.mem_range.mpr (by lia),by lia⟩
 rwa [List.length_map,List.length_map,List.length_range] at this
section
variable{N:Nat}{M:(Nat→Bool)→Prop}{s:St}
structure Good4(N:Nat)(M:(Nat→Bool)→Prop)(s:St):Prop where
 c:Core N M s
 cv:Cv M s
 w:WI s
 p:PR s s.seen
theorem Les.perm{u:Int}{bh bh2:List Int}(L:Les N M s u bh)(h:bh2.Perm bh):Les N M s u bh2:=
 ⟨L.u1,fun b hb=>L.b1 b (h.mem_iff.mp hb),((h.cons (-u)).map _).nodup_iff.mpr L.nd,fun α hα=>by
  obtain ⟨y,hy,ht⟩:=L.sat α hα
  exact ⟨y,(h.cons (-u)).mem_iff.mpr hy,ht⟩⟩
theorem Les.free{u:Int}{bh:List Int}(L:Les N M s u bh)(C:Core N M s){h q:Nat}(hq:s.be[h]?=some q):∀x∈s.ro.take q,x.natAbs≠(-u).natAbs:=by
 intro x hx e
 obtain ⟨i,hi,hxi⟩:=mem_take_at hx
 obtain ⟨iu,hu,hlu⟩:=L.u1
 obtain ⟨rfl,_⟩:=ro_inj C.td hxi hu (e.trans (Int.natAbs_neg u))
 have h1:=(lvl_lt C.srt hq).mpr hi
 have h2:=(List.getElem?_eq_some_iff.mp hq).1
 lia
theorem Les.nz{u:Int}{bh:List Int}(L:Les N M s u bh)(C:Core N M s):∀x∈-u::bh,x≠0∧x.natAbs≤N:=by
 intro x hx
 rcases List.mem_cons.mp hx with rfl|hx
 ·obtain ⟨i,hi,_⟩:=L.u1
  exact nz_p (C.td.nz u (List.mem_of_getElem? hi))
 ·obtain ⟨i,hi,_⟩:=L.b1 x hx
  exact nz_n (C.td.nz _ (List.mem_of_getElem? hi))
theorem learn_nil(C:Core N M s)(cv:Cv M s)(W:WI s){p:Nat}(P:PR s p)(hp:∀b∈s.be,b≤p){u:Int}(L:Les N M s u []){q:Nat}(hq:s.be[0]?=some q){kn li:List (Int×V)}(T:TD N (backS s 0 q kn li)):Good4 N M (letS (backS s 0 q kn li) (-u) .none):=by
 have hqb:=List.mem_of_getElem? hq
 have C1:=C.back hq T
 have hu:=L.nz C (-u) (List.mem_cons_self ..)
 refine ⟨C1.let_ hu.1 hu.2 (L.free C hq) (.inl ⟨rfl,.inl rfl⟩) fun _ α hα=>?_,(cv.back C hq).let_,⟨W.iff,W.nd⟩,(P.back C hq (hp q hqb)).let_ C1.sl⟩
 obtain ⟨y,hy,ht⟩:=L.sat α hα
 rw [List.mem_singleton.mp hy] at ht;exact ht
theorem learn_cons(C:Core N M s)(cv:Cv M s)(W:WI s){p:Nat}(P:PR s p)(hp:∀b∈s.be,b≤p){u b:Int}{r:List Int}(L:Les N M s u (b::r)){h q:Nat}(hq:s.be[h]?=some q)(h0:0<h)(hmax:∀x∈b::r,∀i,s.ro[i]?=some (-x)→lvl s.be i≤h)(hbh:∀i,s.ro[i]?=some (-b)→lvl s.be i=h){kn li:List (Int×V)}(T:TD N (backS s h q kn li)):Good4 N M (letS (keepS (backS s h q kn li) (-u) b r) (-u) (.int s.rows.length)):=by
 have hqb:=List.mem_of_getElem? hq
 have C1:=C.back hq T
 have hnz:=L.nz C
 have hlen:∀x∈b::r,∃i<q,s.ro[i]?=some (-x):=fun x hx=>by
  obtain ⟨i,hi,_⟩:=L.b1 x hx
  exact ⟨i,(lvl_lt C.srt hq).mp (hmax x hx i hi),hi⟩
 have hub: -u≠b:=fun e=>(List.nodup_cons.mp L.nd).1 (by rw [e];exact List.mem_map_of_mem (List.mem_cons_self ..))
 have hrow:RowOK N (-u::b::r):=⟨by simp,L.nd,hnz⟩
 have C2:=C1.keep hrow L.sat
 have hfree:=L.free C hq
 have hu:=hnz (-u) (List.mem_cons_self ..)
 have hlt:=(List.getElem?_eq_some_iff.mp hq).1
 have hbl:(s.be.take h).length=h:=by rw [List.length_take];lia
 have hql:(s.ro.take q).length=q:=by
  have:=C.kb q hqb
  rw [List.length_take];lia
 have W2:=(W.back (h:=h) (q:=q) (kn:=kn) (li:=li)).keep (r:=r) hub
 refine ⟨C2.let_ hu.1 hu.2 hfree (.inr ⟨s.rows.length,-u::b::r,rfl,List.getElem?_concat_length,List.mem_cons_self ..,fun x hx hxu=>?_⟩) fun hz=>?_,(cv.back C hq).keep.let_,⟨W2.iff,W2.nd⟩,?_⟩
 ·obtain ⟨i,hi,hx2⟩:=hlen x ((List.mem_cons.mp hx).resolve_left hxu)
  exact at_mem_take hx2 hi
 ·exfalso
  have:(s.be.take h).length=0:=hz
  lia
 ·have P1:=P.back C (kn:=kn) (li:=li) hq (hp q hqb)
  intro k c w w' hc hw i hi hx
  have hi:i<q:=hi
  have hx5:(s.ro.take q)[i]?=some (-w):=by
   rcases at_app (s:=keepS (backS s h q kn li) (-u) b r) hx with hx|⟨rfl,_⟩
   ·exact hx
   ·have:(s.ro.take q).length<q:=hi
    lia
  have hlast:(letS (keepS (backS s h q kn li) (-u) b r) (-u) (.int s.rows.length)).ro[q]?=some (-u):=by
   show (s.ro.take q++[-u])[q]?=_
   have:=List.getElem?_concat_length (l:=s.ro.take q) (a:= -u)
   rwa [hql] at this
  rcases rows_app (s:=backS s h q kn li) hc with ⟨rfl,rfl⟩|hc
  ·rcases pair_two hw with ⟨rfl,rfl⟩|⟨rfl,rfl⟩
   ·exact (hfree _ (List.mem_of_getElem? hx5) (by exact Int.natAbs_neg _)).elim
   ·obtain ⟨_,hx2⟩:=take_at hx5
    refine ⟨q,hlast,?_⟩
    show lvl (s.be.take h) q≤lvl (s.be.take h) i
    rw [lvl_take C.srt hq hi,hbh i hx2]
    exact Nat.le_trans lvl_le (by lia)
  ·obtain ⟨j,h1,h2⟩:=P1 k c w w' hc hw i hi hx5
   exact ⟨j,app_at (s:=keepS (backS s h q kn li) (-u) b r) h1,h2⟩
theorem learn_new{u b:Int}{r:List Int}(C:Core N M s){h q:Nat}(hq:s.be[h]?=some q){i:Nat}(hi:s.ro[i]?=some (-b))(hl:lvl s.be i=h):q∉s.be.take h:=by
 intro hm
 have hiq:i<q:=(lvl_lt C.srt hq).mp (by lia)
 obtain ⟨j,hj,hjq⟩:=mem_take_at hm
 have:=(lvl_lt C.srt hjq).mpr hiq
 lia
end
section
variable{sp:Sp}{m:List V}{H:AH}{Q:V→AH→Prop}
theorem e_callG{f:Nat}{xs:List X}(h:X.evs sp xs m H fun vs H=>sp f vs H Q):(X.callG f xs).ev sp m H Q:=h
theorem e_ite{c x y:X}{b:Bool}(h:c.pv m H=some (.bool b))(h1:b=true→x.ev sp m H Q)(h2:b=false→y.ev sp m H Q):(X.ite c x y).ev sp m H Q:=by
 refine zw c _ _ h (zg (o:=(V.bool b).b?) rfl ?_)
 induction b
 ·exact h2 rfl
 ·exact h1 rfl
noncomputable def sortW(sp:Sp)(f:Nat)(v ov:V)(H:AH)(Q:V→AH→Prop):Prop:=ifS v.r? fun a=>ifS (H.see a) fun o=>ifS o.l? fun l=>ifS (insV H ov) fun _=>
   l.length<64∧∃g:V→Int,(∀v∈l,sp f [ov,v] H fun w H'=>w= .int (g v)∧H'=H)∧∀ys,ys.Perm l→ys.Pairwise (fun p q=>g q≤g p)→∀x,H x=none→Q (.ref x) (H.set x (.lst ys))
theorem e_sort{f:Nat}{x o:X}(h:x.ev sp m H fun v H=>o.ev sp m H fun ov H=>sortW sp f v ov H Q):(X.sortH f x o).ev sp m H Q:=h
theorem sort_ok{lay:Ro→Addr}{s:St}{a b:Addr}{f:Nat}{l:List V}(So:Sol H lay s)(ha:lay .ins=a)(hb:H b=some (.lst l))(hl:l.length<64)(g:V→Int)(hg:∀v∈l,sp f [.ref a,v] H fun w H'=>w= .int (g v)∧H'=H)
  (q:∀ys,ys.Perm l→ys.Pairwise (fun p q=>g q≤g p)→∀x,H x=none→Q (.ref x) (H.set x (.lst ys))):sortW sp f (.ref b) (.ref a) H Q:=by
 exact zg (x:=b) rfl (zg (wq hb) (zg (x:=l) rfl (zg (insV_mk (ha▸So.at_ .ins trivial) (So.at_ .att trivial)) ⟨hl,g,hg,q⟩)))
end
noncomputable def LgOK(N:Nat)(M:(Nat→Bool)→Prop)(c:List Int):Prop:=((∀x∈c,x≠0∧x.natAbs≤N)∧c.length≤N)∧∀α,M α→Sat α c
theorem lgE{N:Nat}{M:(Nat→Bool)→Prop}(h:∀α,¬M α):LgOK N M []:=⟨⟨fun x hx=>absurd hx List.not_mem_nil,Nat.zero_le _⟩,fun α hα=>absurd hα (h α)⟩
structure Lrn(s s':St)(h q:Nat)(l:Int)(lc:List Int):Prop where
 hq:s.be[h]?=some q
 be:s'.be=s.be.take h
 ro:s'.ro=s.ro.take q++[l]
 nq:q∉s.be.take h
 ref:s'.ref=s.ref
 lg:s'.lg=s.lg++[lc]
 cl:s'.cl=s.cl+1
 bl:s'.bl=s.bl
 lim:s'.lim=s.lim
 rl:s'.rows.length≤s.rows.length+1
section
variable{n:Nat}{H:AH}{lay:Ro→Addr}{s:St}{a:Addr}{Q:V→AH→Prop}{N:Nat}{M:(Nat→Bool)→Prop}
noncomputable def hgt(s:St):V→Int:=fun v=>match v with
 | .int l=>match get s.he l.natAbs with
  |some (.int h)=>h
  |_=>0
 |_=>0
theorem hgt_at(C:Core N M s){b:Int}{i:Nat}(h:s.ro[i]?=some (-b)):hgt s (.int b)=lvl s.be i:=by
 have:=C.he i _ h
 rw [Int.natAbs_neg] at this
 unfold hgt
 dsimp only
 rw [this]
set_option maxHeartbeats 2000000 in
theorem c_learn(So:Sol H lay s)(ha:lay .ins=a)(C:Core N M s)(hN:N<60)(cv:Cv M s)(W:WI s){p:Nat}(P:PR s p)(hp:∀b∈s.be,b≤p){k:Nat}{c:List Int}(hk:s.rows[k]?=some c)(hall:∀x∈c,-x∈s.ro)(hx:∃x∈c,s.ro[p]?=some (-x))(hrz:s.rows.length+1<sz)(hlz:s.lg.length<sz)
  (q1:∀H' lay',SF H lay s H' lay' (((s.wCl (s.cl+1)).wRef true).addLog [])→s.be=[]→(∀α,¬M α)→Q .none H')
  (q2:∀H' lay' s' h q u lc,SF H lay s H' lay' s'→Lrn s s' h q u lc→Good4 N M s'→LgOK N M lc→Q .none H'):spN tabL (n+3) 14 [.ref a,.int k] H Q:=by
 have hsz:N<sz:=Nat.lt_trans hN (by decide)
 have hN':N<1000:=Nat.lt_trans hN (by decide)
 have u1:=u_cl So (s.cl+1)
 refine sp_go rfl rfl (zj (s_setA (v:= .int (s.cl+1:Nat)) So ha rfl (pvb (So.a_ ha rfl rfl) (pvb rfl (by rfl))) ?_))
 generalize H.set (lay .att) (.att (put (attL lay s) 14 (.int (s.cl+1:Nat))))=H1 at u1
 have C1:Core N M (s.wCl (s.cl+1)):=C.cl_
 refine zj (s_ite (b:=decide (s.be.length=0)) (pvb (len_pv (u1.1.a_ ha rfl rfl) (ln_nz (u1.1.at_ .be trivial))) (pvb rfl (pcm (eq_nn (j:=0))))) (fun hd=>?_) fun hd=>?_)
 ·have h0:=List.length_eq_zero_iff.mp (of_decide_eq_true hd)
  refine zj (s_ex (cm_ok (xs:=[]) (P:=fun _ H=>_) u1.1 ha rfl (zp (c_refute u1.1 ha hlz fun H2 lay2 h2=>zj (s_ret (zw (.c .none) .none _ rfl (q1 _ _ (u1.trans h2) h0 fun α hα=>?_)))))))
  obtain ⟨y,hy,ht⟩:=C.rM c (List.mem_of_getElem? hk) α hα
  obtain ⟨i,hi⟩:=List.mem_iff_getElem?.mp (hall y hy)
  have:=C.zM i _ hi (by rw [h0];rfl) α hα
  exact (ltr_neg ((C.rk c (List.mem_of_getElem? hk)).2.2 y hy).1).mp this ht
 have hb:0<s.be.length:=Nat.pos_of_ne_zero (of_decide_eq_false hd)
 refine zy (zj (vj (cm_ok (xs:=[.loc 1]) (P:=fun v H=>_) u1.1 ha rfl (zv (zw (.loc 1) (.int k) _ rfl (zp (c_lesson u1.1 ha C1 hN' hb hk hall hp hx fun H2 lay2 es g y u bh h2 ht2 hy2 ny2 L=>?_)))))))
 have L:Les N M s u bh:=⟨L.u1,L.b1,L.nd,L.sat⟩
 have h12:=u1.trans h2
 have ha2:=h12.ins ha
 have hnz:=L.nz C
 have hlen:(-u::bh).length≤N:=lits_len L.nd hnz
 have hlen1:bh.length<60:=by
  rw [List.length_cons] at hlen;exact Nat.lt_trans ‹_› ‹_›
 refine zj (s_ex (bm_l (h2.1.a_ ha2 rfl rfl) (h2.1.at_ .lg trivial) rfl (zv (e_callG (zv (zw (.loc 2) (.ref y) _ rfl (zp (c_ordered hy2 (.inl rfl) (fun x hx=>(hnz x hx).1) (by lia) (fun H3 E3 hbad=>?_) fun H3 y3 cc E3 hy3 hy3' hO=>zp ?_))))))))
 ·obtain ⟨x,h7,h8⟩:=hbad
  have:=nd_inj L.nd h7 h8 (Int.natAbs_neg x).symm
  have:=(hnz x h7).1
  lia
 obtain ⟨H0,E0,hy0,rfl⟩:=ext_split E3 hy3 hy3'
 have s0:=E0.sf h2.1
 have s3:=n_lg s0.1 y3 hy0 cc
 have hz3:(refs (hot (s.wCl (s.cl+1)) es g).lg.length fun i=>lay2 (.le i)).length<sz:=by rw [refs_len];exact hlz
 refine app_ok ((s0.1.junk (o:= .tup (zs cc)) hy0).at_ .lg trivial) hz3 ?_
 have s03:=s0.trans s3
 have hyC:=h2.1.out s03.2 hy2 ny2
 have h123:=h12.trans s03
 have haC:=h123.ins ha
 generalize ((H0.set y3 (.tup (zs cc))).set (lay2 .lg) (.lst ((refs (hot (s.wCl (s.cl+1)) es g).lg.length fun i=>lay2 (.le i))++[.ref y3])))=HC at s3 s03 h123 hyC
 generalize (up lay2 (.le (hot (s.wCl (s.cl+1)) es g).lg.length) y3)=layC at s3 s03 h123 hyC haC
 have hcz:=fun x hx=>hnz x ((hO.mem x).mp hx)
 have hlog:LgOK N M cc:=⟨⟨hcz,lits_len hO.nd hcz⟩,fun α hα=>by
  obtain ⟨x,h7,h8⟩:=L.sat α hα
  exact ⟨x,(hO.mem x).mpr h7,h8⟩⟩
 obtain ⟨hyC,nyC⟩:=hyC
 have SoC:=s3.1
 clear s03 s3 s0 E3
 have CC:Core N M ((hot (s.wCl (s.cl+1)) es g).addLog cc):=(C1.hot ht2).lg_
 have hat:∀b∈bh,∃i,An4 (s.ro[i]?=some (-b)) (hgt s (.int b)=lvl s.be i) (0<lvl s.be i) (lvl s.be i<s.be.length):=fun b hb=>by
  refine nn fun hC=>?_
  obtain ⟨i,h7,h8,h9⟩:=L.b1 b hb
  refine hC ?_
  exact ⟨i,h7,hgt_at C h7,h8,h9⟩
 refine zj (vj (e_bin (sl_hi (a:=y) (k:=1) rfl hyC rfl fun x1 hx1=>e_sort (sl_lo (a:=y) (k:=1) rfl (by rw [zu fun e=>by rw [e,hx1] at hyC;cases hyC];exact hyC) rfl fun x2 hx2=>zw (.loc 0) (.ref a) _ rfl ?_))))
 rw [show (zs (-u::bh)).take 1=[.int (-u)] from rfl] at hx2⊢
 rw [show (zs (-u::bh)).drop 1=zs bh from rfl]
 have So1:=SoC.junk (o:= .lst [.int (-u)]) hx1
 have So2:=So1.junk (o:= .lst (zs bh)) hx2
 refine sort_ok So2 haC zx (by rw [wd];lia) (hgt s) (fun v hv=>?_) fun ys hys hpw x3 hx3=>?_
 ·refine nn fun hC=>?_
  obtain ⟨b,hb,rfl⟩:=List.mem_map.mp hv
  obtain ⟨i,h7,h8,_⟩:=hat b hb
  refine hC ?_
  have:=C.he i _ h7
  rw [Int.natAbs_neg] at this
  exact c_height So2 haC (i:=lvl s.be i) this ⟨by rw [h8],rfl⟩
 obtain ⟨bh2,rfl,hp2⟩:=perm_zs hys
 have So3:=So2.junk (o:= .lst (zs bh2)) hx3
 have L2:=L.perm hp2
 have hlen2:bh2.length<60:=by rw [hp2.length_eq];exact hlen1
 have hx12:x1≠x2:=fun e=>by rw [e,zx] at hx2;cases hx2
 have hx13:x1≠x3:=fun e=>by rw [←e,zu hx12,zx] at hx3;cases hx3
 have hl1:(((HC.set x1 (.lst [.int (-u)])).set x2 (.lst (zs bh))).set x3 (.lst (zs bh2))) x1=some (.lst [.int (-u)]):=by rw [zu hx13,zu hx12];exact zx
 have hl2:[V.int (-u)].length+(zs bh2).length≤sz:=by
  rw [wd]
  simp only [List.length_cons,List.length_nil]
  have:(1000:Nat)≤sz:=by decide
  lia
 refine add_ll (l:=[.int (-u)]) (r:=zs bh2) hl1 zx hl2 fun x4 hx4=>?_
 have So4:=So3.junk (o:= .lst ([.int (-u)]++zs bh2)) hx4
 have s4:=h123.trans ((SF.junk SoC (o:= .lst [.int (-u)]) hx1).trans ((SF.junk So1 (o:= .lst (zs bh)) hx2).trans ((SF.junk So2 (o:= .lst (zs bh2)) hx3).trans (SF.junk So3 (o:= .lst ([.int (-u)]++zs bh2)) hx4))))
 have hD:((((HC.set x1 (.lst [.int (-u)])).set x2 (.lst (zs bh))).set x3 (.lst (zs bh2))).set x4 (.lst ([.int (-u)]++zs bh2))) x4=some (.lst (zs (-u::bh2))):=zx
 have nD:¬fp layC ((hot (s.wCl (s.cl+1)) es g).addLog cc) x4:=So3.nfp hx4
 generalize ((((HC.set x1 (.lst [.int (-u)])).set x2 (.lst (zs bh))).set x3 (.lst (zs bh2))).set x4 (.lst ([.int (-u)]++zs bh2)))=HD at hD s4 So4
 have hpw2:=(List.pairwise_map (f:=V.int)).mp (show (bh2.map V.int).Pairwise (fun p q=>hgt s q≤hgt s p) from hpw)
 have hat2:∀b∈bh2,∃i,An4 (s.ro[i]?=some (-b)) (hgt s (.int b)=lvl s.be i) (0<lvl s.be i) (lvl s.be i<s.be.length):=fun b hb=>hat b (hp2.mem_iff.mp hb)
 clear hl1 hl2 hat hpw hys hx1 hx2 hx3 hx4 hx12 hx13 So1 So2 So3 hyC nyC h123 SoC L
 have hcond:∀{H':AH},H' x4=some (.lst (zs (-u::bh2)))→(X.cmp .gt (.bi .len [(.loc 2)]) (.c (.int 1))).pv [.ref a,.int k,.ref x4] H'=some (.bool (decide (1<(bh2.length+1)))):=fun h=>pvb (len_pv rfl (ln_zs h)) (pvb rfl (pcm (show some (decide ((1:Int)<((bh2.length+1:Nat):Int)))=_ by congr 1;exact decide_eq_decide.mpr (by exact Int.ofNat_lt))))
 have hgain:∀{H' lay' s'} {P:List V→AH→Prop},SF H lay s H' lay' s'→(∀H'' g',SF H lay s H'' lay' (s'.wGain g')→P [.ref a,.int k,.ref x4] H'')→(S.seq (.setA (.loc 0) 10 (.bin .add (.bin .add (.attr (.loc 0) 10) (.bin .fdiv (.attr (.loc 0) 10) (.c (.int 8)))) (.c (.int 1)))) .skip).wp (spN tabL (n+2)) [.ref a,.int k,.ref x4] H' P (rt Q):=fun {H' lay' s' P} h q=>zj (s_setA (v:= .int (s'.gain+s'.gain/8+1)) h.1 (h.ins ha) rfl (pvb (pvb (h.1.a_ (h.ins ha) rfl rfl) (pvb (pvb (h.1.a_ (h.ins ha) rfl rfl) (pvb rfl rfl)) rfl)) (pvb rfl rfl)) (zy (q _ _ (h.trans (u_gain h.1 _)))))
 induction bh2 with
 |nil=>
  obtain ⟨q,hq⟩:∃q,s.be[0]?=some q:=⟨s.be[0],List.getElem?_eq_getElem hb⟩
  refine zj (s_ex (cm_ok (xs:=[_]) (P:=fun _ H=>_) So4 haC rfl (zv (e_ite (hcond hD) (fun h=>by cases h) fun _=>zw (.c (.int 0)) (.int 0) _ rfl (zp (c_back (h:=0) So4 haC CC.td hN' hq (C.kb q (List.mem_of_getElem? hq)) fun H5 lay5 kn li h5 T5=>?_))))))
  have hD5:=So4.out h5.2 hD nD
  have h05:=s4.trans h5
  have ha5:=h05.ins ha
  have G:=learn_nil CC (show Cv M _ from cv) (show WI _ from ⟨W.iff,W.nd⟩) (show PR _ p from P) hp (show Les N M _ u [] from ⟨L2.u1,L2.b1,L2.nd,L2.sat⟩) hq T5
  have C5:Core N M (backS ((hot (s.wCl (s.cl+1)) es g).addLog cc) 0 q kn li):=CC.back hq T5
  refine zj (s_ex (cm_ok (xs:=[_,_]) (P:=fun _ H=>_) h05.1 ha5 rfl (zv (zw (.sub (.loc 2) (.c (.int 0))) (.int (-u)) _ (pvb rfl (pvb rfl (sb_l (n:=0) hD5.1 rfl))) (zv (e_ite (hcond hD5.1) (fun h=>by cases h) fun _=>zw (.c .none) .none _ rfl (zp (c_let h05.1 ha5 (C5.sz hN') rfl fun H6 h6=>?_))))))))
  exact hgain (h05.trans h6) fun H7 g' h7=>q2 _ _ _ 0 q (-u) cc h7 ⟨hq,rfl,rfl,fun h=>(by cases h),rfl,rfl,rfl,rfl,rfl,Nat.le_succ _⟩ ⟨G.c.gain_,G.cv,⟨G.w.iff,G.w.nd⟩,G.p⟩ hlog
 |cons b r=>
  refine nn fun hC=>?_
  obtain ⟨ib,hib,hgb,hb0,hbl⟩:=hat2 b (List.mem_cons_self ..)
  obtain ⟨q,hq⟩:∃q,s.be[lvl s.be ib]?=some q:=⟨_,List.getElem?_eq_getElem hbl⟩
  refine hC ?_
  have hmax:∀x∈b::r,∀i,s.ro[i]?=some (-x)→lvl s.be i≤lvl s.be ib:=fun x hx i hi=>by
   obtain ⟨i',hi',hg',_⟩:=hat2 x hx
   obtain ⟨rfl,_⟩:=ro_inj C.td hi hi' rfl
   rcases List.mem_cons.mp hx with rfl|hx
   ·obtain ⟨rfl,_⟩:=ro_inj C.td hi hib rfl
    exact Nat.le_refl _
   ·have:=(List.pairwise_cons.mp hpw2).1 x hx
    rw [hg',hgb] at this
    exact Int.ofNat_le.mp ‹_›
  have hbh:∀i,s.ro[i]?=some (-b)→lvl s.be i=lvl s.be ib:=fun i hi=>by
   obtain ⟨rfl,_⟩:=ro_inj C.td hi hib rfl
   rfl
  have hct:decide (1<(b::r).length+1)=true:=decide_eq_true (by simp)
  have hheb:=C.he ib _ hib
  rw [Int.natAbs_neg] at hheb
  clear hat2 hpw2
  generalize hhe:lvl s.be ib=hh at hb0 hbl hgb hmax hbh hheb hq
  have hq':((hot (s.wCl (s.cl+1)) es g).addLog cc).be[hh]?=some q:=hq
  refine zj (s_ex (cm_ok (xs:=[_]) (P:=fun _ H=>_) So4 haC rfl (zv (e_ite (hcond hD) (fun _=>?_) fun h=>by rw [hct] at h;cases h))))
  refine cm_ok (xs:=[_]) So4 haC rfl (zv (zw (.sub (.loc 2) (.c (.int 1))) (.int b) _ (pvb rfl (pvb rfl (sb_l (n:=1) hD rfl))) (zp ?_)))
  refine c_height So4 haC (i:=hh) hheb ?_
  refine zp ?_
  refine c_back (h:=hh) So4 haC CC.td hN' hq' (CC.kb q (List.mem_of_getElem? hq')) fun H5 lay5 kn li h5 T5=>?_
  have hD5:=So4.out h5.2 hD nD
  have h05:=s4.trans h5
  have ha5:=h05.ins ha
  have G:=learn_cons CC (show Cv M _ from cv) (show WI _ from ⟨W.iff,W.nd⟩) (show PR _ p from P) hp (show Les N M _ u (b::r) from ⟨L2.u1,L2.b1,L2.nd,L2.sat⟩) hq' hb0 hmax hbh T5
  have C5:Core N M (backS ((hot (s.wCl (s.cl+1)) es g).addLog cc) hh q kn li):=CC.back hq' T5
  have W5:WI (backS ((hot (s.wCl (s.cl+1)) es g).addLog cc) hh q kn li):=⟨W.iff,W.nd⟩
  have hw:(backS ((hot (s.wCl (s.cl+1)) es g).addLog cc) hh q kn li).wks.length<130:=Nat.lt_of_le_of_lt C5.wlen (by lia)
  have h130:(130:Nat)<sz:=by decide
  refine zj (s_ex (cm_ok (xs:=[_,_]) (P:=fun _ H=>_) h05.1 ha5 rfl (zv (zw (.sub (.loc 2) (.c (.int 0))) (.int (-u)) _ (pvb rfl (pvb rfl (sb_l (n:=0) hD5.1 rfl))) (zv (e_ite (hcond hD5.1) (fun _=>?_) fun h=>by rw [hct] at h;cases h))))))
  refine cm_ok (xs:=[_]) h05.1 ha5 rfl (zv (zw (.loc 2) (.ref x4) _ rfl (zp ?_)))
  refine c_keep h05.1 ha5 hD5.1 hD5.2 (Nat.lt_of_succ_lt hrz) (by exact Nat.lt_of_le_of_lt ‹_› ‹_›) (fun l=>Nat.lt_of_le_of_lt (Nat.succ_le_succ (W5.len (l:=l))) hrz) fun H6 lay6 h6=>zp ?_
  have h06:=h05.trans h6
  have hnz2:RowOK N (-u::b::r):=⟨by simp,L2.nd,L2.nz C⟩
  have C6:Core N M (keepS (backS ((hot (s.wCl (s.cl+1)) es g).addLog cc) hh q kn li) (-u) b r):=C5.keep hnz2 L2.sat
  refine c_let h06.1 (h06.ins ha) (C6.sz hN') rfl fun H7 h7=>?_
  exact hgain (h06.trans h7) fun H8 g' h8=>q2 _ _ _ _ q (-u) cc h8 ⟨hq,rfl,rfl,learn_new (u:=u) (b:=b) (r:=r) C hq hib hhe,rfl,rfl,rfl,rfl,rfl,by show (s.rows++[_]).length≤_;rw [List.length_append];exact Nat.le_refl _⟩ ⟨G.c.gain_,G.cv,⟨G.w.iff,G.w.nd⟩,G.p⟩ hlog
end
structure BlI(N:Nat)(M:(Nat→Bool)→Prop)(s:St)(l:Int)(ds:List Int)(es:List (Int×V))(t:Nat):Prop where
 kf:Keys N es
 d1:∀d∈ds,∃i,t≤i∧An3 (s.ro[i]?=some d) (0<lvl s.be i) (i∈s.be)
 d2:(ds.map Int.natAbs).Nodup
 sem:∀α,M α→(∀x∈l::ds,ltr α x)→(∀i<t,∀x,s.ro[i]?=some x→(x.natAbs:Int)∈ky es→0<lvl s.be i→ltr α x)→False
section
variable{N:Nat}{M:(Nat→Bool)→Prop}{s:St}{l:Int}{ds:List Int}{es:List (Int×V)}{t:Nat}
theorem BlI.start(C:Core N M s)(hl: -l∈s.ro):BlI N M s l [] [(l.natAbs,.bool true)] s.ro.length:=by
 have hz:=C.td.nz _ hl
 refine ⟨⟨by show [_].Nodup;simp,fun k hk=>?_⟩,fun d hd=>(by cases hd),List.nodup_nil,fun α hα h1 h2=>?_⟩
 ·rw [show k=l.natAbs from List.mem_singleton.mp hk]
  exact ⟨na_1 (nz_n hz).1,Int.ofNat_le.mpr (nz_n hz).2⟩
 ·obtain ⟨i,hi⟩:=List.mem_iff_getElem?.mp hl
  have h3:=h1 l (List.mem_cons_self ..)
  have h4:ltr α (-l):=by
   by_cases h0:lvl s.be i=0
   ·exact C.zM i _ hi h0 α hα
   ·exact h2 i (List.getElem?_eq_some_iff.mp hi).1 _ hi (by rw [Int.natAbs_neg];exact List.mem_singleton.mpr rfl) (by exact Nat.pos_of_ne_zero ‹_›)
  exact (ltr_neg (nz_n hz).1).mp h4 h3
theorem BlI.skip(B:BlI N M s l ds es (t+1)){x:Int}(hx:s.ro[t]?=some x)(h:(x.natAbs:Int)∉ky es∨lvl s.be t=0):BlI N M s l ds es t:=
 ⟨B.kf,fun d hd=>by
  obtain ⟨i,h1,h2⟩:=B.d1 d hd
  exact ⟨i,by exact Nat.le_of_lt ‹_›,h2⟩,B.d2,fun α hα h1 h2=>B.sem α hα h1 fun i hi y hy hm hl=>by
  rcases Nat.lt_succ_iff_lt_or_eq.mp hi with hi|rfl
  ·exact h2 i hi y hy hm hl
  ·rw [hx] at hy;cases hy
   rcases h with h|h
   ·exact absurd hm h
   ·lia⟩
theorem BlI.dec(B:BlI N M s l ds es (t+1))(C:Core N M s){x:Int}(hx:s.ro[t]?=some x)(h0:0<lvl s.be t)(hc:get s.ca x.natAbs=some .none):BlI N M s l (ds++[x]) es t:=by
 refine ⟨B.kf,fun d hd=>?_,?_,fun α hα h1 h2=>B.sem α hα (fun y hy=>h1 y ?_) fun i hi y hy hm hl=>?_⟩
 ·rcases List.mem_append.mp hd with hd|hd
  ·obtain ⟨i,h1,h2⟩:=B.d1 d hd
   exact ⟨i,by exact Nat.le_of_lt ‹_›,h2⟩
  ·rw [List.mem_singleton.mp hd]
   refine ⟨t,Nat.le_refl _,hx,h0,?_⟩
   rcases C.ca t x hx with ⟨_,h|h⟩|⟨k,c,h,_⟩
   ·lia
   ·exact h
   ·rw [hc] at h;cases h
 ·rw [List.map_append,List.nodup_append]
  refine ⟨B.d2,by simp,fun a ha b hb e=>?_⟩
  obtain ⟨y,hy,rfl⟩:=List.mem_map.mp ha
  simp only [List.map_cons,List.map_nil,List.mem_singleton] at hb
  obtain ⟨i,h1,h2,_⟩:=B.d1 y hy
  obtain ⟨rfl,_⟩:=ro_inj C.td h2 hx (e.trans hb)
  lia
 ·rcases List.mem_cons.mp hy with rfl|hy
  ·exact List.mem_cons_self ..
  ·exact List.mem_cons_of_mem _ (List.mem_append_left _ hy)
 ·rcases Nat.lt_succ_iff_lt_or_eq.mp hi with hi|rfl
  ·exact h2 i hi y hy hm hl
  ·rw [hx] at hy;cases hy
   exact h1 _ (List.mem_cons_of_mem _ (List.mem_append_right _ (List.mem_singleton.mpr rfl)))
theorem ky_putAll{es fs:List (Int×V)}{v:Int}:v∈ky (putAll es fs)↔v∈ky es∨v∈ky fs:=by
 induction fs generalizing es with
 |nil=>exact ⟨.inl,fun h=>h.elim id fun h=>by cases h⟩
 |cons f fs ih=>
  show v∈ky (putAll (put es f.1 f.2) fs)↔v∈ky es∨v∈f.1::ky fs
  rw [ih,ky_put_mem,List.mem_cons,or_assoc]
theorem Keys.putAll{es fs:List (Int×V)}(h:Keys N es)(h':∀k∈ky fs,1≤k∧k≤N):Keys N (putAll es fs):=by
 induction fs generalizing es with
 |nil=>exact h
 |cons f fs ih=>
  have hf:=h' f.1 (List.mem_cons_self ..)
  exact ih (h.put hf.1 hf.2) fun k hk=>h' k (List.mem_cons_of_mem _ hk)
theorem BlI.cause(B:BlI N M s l ds es (t+1))(C:Core N M s){x:Int}(hx:s.ro[t]?=some x){k:Nat}{c:List Int}(hk:s.rows[k]?=some c)(hxc:x∈c)(hoth:∀y∈c,y≠x→-y∈s.ro.take t){fs:List (Int×V)}(hf:∀v,v∈ky fs↔∃y∈c,(y.natAbs:Int)=v):BlI N M s l ds (putAll es fs) t:=by
 have hnz:=(C.rk c (List.mem_of_getElem? hk)).2.2
 refine ⟨B.kf.putAll fun v hv=>?_,fun d hd=>?_,B.d2,fun α hα h1 h2=>B.sem α hα h1 fun i hi y hy hm hl=>?_⟩
 ·obtain ⟨y,hy,rfl⟩:=(hf v).mp hv
  have:=hnz y hy
  exact ⟨na_1 this.1,Int.ofNat_le.mpr this.2⟩
 ·obtain ⟨i,h1,h2⟩:=B.d1 d hd
  exact ⟨i,by exact Nat.le_of_lt ‹_›,h2⟩
 ·rcases Nat.lt_succ_iff_lt_or_eq.mp hi with hi|rfl
  ·exact h2 i hi y hy (ky_putAll.mpr (.inl hm)) hl
  ·rw [hx] at hy;cases hy
   obtain ⟨z,hz,hzt⟩:=C.rM c (List.mem_of_getElem? hk) α hα
   by_cases e:z=x
   ·rw [←e];exact hzt
   ·exfalso
    obtain ⟨j,hj,hjz⟩:=mem_take_at (hoth z hz e)
    refine (ltr_neg (hnz z hz).1).mp ?_ hzt
    by_cases h0:lvl s.be j=0
    ·exact C.zM j _ hjz h0 α hα
    ·exact h2 j hj _ hjz (ky_putAll.mpr (.inr ((hf _).mpr ⟨z,hz,by rw [Int.natAbs_neg]⟩))) (by exact Nat.pos_of_ne_zero ‹_›)
end
section
variable{sp:Sp}{m:List V}{H:AH}{Q:V→AH→Prop}
theorem e_rev{x:X}{b:Addr}{l:List V}(hx:x.pv m H=some (.ref b))(h:H b=some (.lst l))(q:∀y,H y=none→Q (.ref y) (H.set y (.lst l.reverse))):(X.rev x).ev sp m H Q:=by
 exact zw x _ _ hx (zg (x:=b) rfl (zg (wq h) (zg (x:=l) rfl q)))
theorem e_dict1{k v:X}{i:Int}{w:V}(hk:k.pv m H=some (.int i))(hv:v.pv m H=some w)(q:∀a,H a=none→Q (.ref a) (H.set a (.dct [(i,w)]))):(X.dict1 k v).ev sp m H Q:=
 zw k _ _ hk (zw v _ _ hv (zg (x:=i) rfl q))
theorem upd_ok{a b:Addr}{es fs:List (Int×V)}(h:H a=some (.dct es))(h':H b=some (.dct fs))(n:a≠b)(hl:es.length+fs.length≤sz)(q:Q .none (H.set a (.dct (putAll es fs)))):biW .update [.ref a,.ref b] H Q:=by
 show ifS (H a) _
 exact ifD_mk h (ifD_mk (see_dct h') ⟨n,hl,q⟩)
theorem e_lc{mask:List Bool}{x cond b:X}(h:x.ev sp m H fun w H=>itW H w fun items chk thaw H=>
   cloop chk (fun x H acc K=>cond.ev sp (mskd m mask++[x]) H fun v H=>ifB v (X.cw sp b (mskd m mask++[x]) H acc K) (K acc H)) items H [] fun acc H=>∀a,thaw H a=none→Q (.ref a) ((thaw H).set a (.lst acc))):(X.lcomp mask (.src x) cond b).ev sp m H Q:=h
theorem pv_mem{v:X}{w:X}{k:Int}{d:Addr}{es:List (Int×V)}(hv:v.pv m H=some (.int k))(hw:w.pv m H=some (.ref d))(h:H d=some (.dct es)):(X.cmp .mem v w).pv m H=some (.bool (decide (k∈ky es))):=pvb hv (pvb hw (pcm (mb h)))
end
section
variable{n:Nat}{H:AH}{lay:Ro→Addr}{s:St}{a:Addr}{Q:V→AH→Prop}{N:Nat}{M:(Nat→Bool)→Prop}
structure Blm(N:Nat)(M:(Nat→Bool)→Prop)(s:St)(l:Int)(ds:List Int):Prop where
 d1:∀d∈ds,∃i,An3 (s.ro[i]?=some d) (0<lvl s.be i) (i∈s.be)
 d2:(ds.map Int.natAbs).Nodup
 sem:∀α,M α→¬∀x∈l::ds,ltr α x
set_option maxHeartbeats 1000000 in
theorem c_blame(So:Sol H lay s)(ha:lay .ins=a)(C:Core N M s)(hN:N<60){l:Int}(hl: -l∈s.ro)(hlz:s.lg.length<sz)
  (q:∀H' lay' s' ds,SF H lay s H' lay' s'→Blm N M s l ds→(s'=s.wBl (l::ds)∧(∃x∈l::ds,-x∈l::ds))∨(∃c,s'=(s.wBl (l::ds)).addLog c∧Ord ((l::ds).map fun x=> -x) c)→Q .none H'):spN tabL (n+2) 15 [.ref a,.int l] H Q:=by
 have hsz:N<sz:=Nat.lt_trans hN (by decide)
 have h1000:(1000:Nat)≤sz:=by decide
 have hz:=C.td.nz _ hl
 refine sp_go rfl rfl (zj (s_asgN (zv (e_list (zv (zw (.loc 1) (.int l) _ rfl (zp fun ba hba=>zv (e_dict1 (i:=l.natAbs) rfl rfl fun fa hfa=>zp ⟨rfl,?_⟩))))))))
 have h1:=SF.junk So (o:= .lst [.int l]) hba
 have h2:=h1.trans (SF.junk h1.1 (o:= .dct [((l.natAbs:Int),.bool true)]) hfa)
 have hfb:fa≠ba:=by rintro rfl;rw [zx] at hfa;cases hfa
 have fba:Fre H lay s ba:= .of hba
 have ffa:Fre H lay s fa:=h1.fre hfa
 have nba:=So.nfp hba
 have nfa:=h1.1.nfp hfa
 have hba1:((H.set ba (.lst [.int l])).set fa (.dct [((l.natAbs:Int),.bool true)])) ba=some (.lst (zs (l::[]))):=by rw [zu fun e=>hfb e.symm];exact zx
 have hfa1:((H.set ba (.lst [.int l])).set fa (.dct [((l.natAbs:Int),.bool true)])) fa=some (.dct [((l.natAbs:Int),.bool true)]):=zx
 generalize ((H.set ba (.lst [.int l])).set fa (.dct [((l.natAbs:Int),.bool true)]))=H1 at h2 hba1 hfa1
 refine zj (s_for (e_rev (h2.1.a_ ha rfl rfl) (h2.1.at_ .ro trivial) fun rv hrv=>it_l zx ?_))
 have h3:=h2.trans (SF.junk h2.1 (o:= .lst (zs s.ro).reverse) hrv)
 have nrv:=h2.1.nfp hrv
 have hrb:rv≠ba:=by rintro rfl;rw [hba1] at hrv;cases hrv
 have hrf:rv≠fa:=by rintro rfl;rw [hfa1] at hrv;cases hrv
 refine floop_ind (fun j m H'=>Ex4 fun (ds:List Int) (es:List (Int×V)) (z4 z5:V)=>An6 (m=[.ref a,.int l,.ref ba,.ref fa,z4,z5,.un]) (SF H lay s H' lay s) (H' ba=some (.lst (zs (l::ds)))) (H' fa=some (.dct es)) (H' rv=some (.lst (zs s.ro).reverse)) (BlI N M s l ds es (s.ro.length-j))) _ (fun j v m H2 K hv hI hK=>?_) (fun m H2 hI=>?_) ⟨[],_,.un,.un,rfl,h3,by rw [zu fun e=>hrb e.symm];exact hba1,by rw [zu fun e=>hrf e.symm];exact hfa1,zx,BlI.start C hl⟩
 ·refine nn fun hC=>?_
  obtain ⟨ds,es,z4,z5,rfl,h,hb,hf,hr,B⟩:=hI
  refine hC ?_
  have hv':=(List.getElem?_eq_some_iff.mp hv).1
  rw [List.length_reverse,wd] at hv'
  rw [List.getElem?_reverse (by rw [wd];exact hv'),wd] at hv
  obtain ⟨x,hx,rfl⟩:=zs_at hv
  obtain ⟨t,ht⟩:∃t,s.ro.length-j=t+1:=⟨s.ro.length-j-1,(Nat.sub_add_cancel (Nat.sub_pos_of_lt hv')).symm⟩
  rw [show s.ro.length-1-j=t by rw [Nat.sub_right_comm,ht];rfl] at hx
  rw [ht] at B
  have hx0:=C.td.nz _ (List.mem_of_getElem? hx)
  refine ⟨wq hr,zj (vj (zw _ (.int x.natAbs) _ rfl ?_))⟩
  have hhe:=C.he t x hx
  have hlen:s.ro.length-(j+1)=t:=by rw [←Nat.sub_sub,ht];rfl
  have hcond:(X.and (.cmp .mem (.loc 5) (.loc 3)) (.and (.cmp .gt (.sub (.attr (.loc 0) 1) (.loc 5)) (.c (.int 0))) (.c (.bool true)))).pv [.ref a,.int l,.ref ba,.ref fa,.int x,.int x.natAbs,.un] H2=some (.bool (decide ((x.natAbs:Int)∈ky es)&&(decide (0<lvl s.be t)&&true))):=by
   refine pv_and (pv_mem rfl rfl hf) fun _=>pv_and (pvb (pvb (h.1.a_ ha rfl rfl) (pvb rfl (sb_d (h.1.at_ .he trivial) hhe))) (pvb rfl (pcm ?_))) fun _=>rfl
   show some (decide ((0:Int)<(lvl s.be t:Int)))=_
   congr 1
   exact decide_eq_decide.mpr Int.natCast_pos
  refine zj (s_ite hcond (fun hd=>?_) fun hd=>?_)
  ·rw [Bool.and_true,Bool.and_eq_true] at hd
   have hl0:=of_decide_eq_true hd.2
   have hdl:ds.length≤N:=lits_len B.d2 fun d hd=>by
    obtain ⟨i,_,h7,_⟩:=B.d1 d hd
    exact C.td.nz _ (List.mem_of_getElem? h7)
   rcases C.ca t x hx with ⟨hca,_⟩|⟨k,c,hca,hk,hxc,hoth⟩
   ·refine zj (s_ite (b:=true) (pvb (pvb (h.1.a_ ha rfl rfl) (pvb rfl (sb_d (h.1.at_ .ca trivial) hca))) (pvb rfl (pcm rfl))) (fun _=>?_) fun h=>by cases h)
    refine zj (s_ex (bm_l (b:=ba) rfl hb rfl (zv (zw (.loc 4) (.int x) _ rfl (zp (app_ok hb (by rw [wd,List.length_cons];lia) ?_))))))
    refine zy (zy (zy (hK _ _ ⟨ds++[x],es,_,_,rfl,h.side fba nba,?_,by rw [zu hfb];exact hf,by rw [zu hrb];exact hr,by rw [hlen];exact B.dec C hx hl0 hca⟩)))
    rw [zx,show l::(ds++[x])=(l::ds)++[x] from rfl,zs_app];rfl
   ·have hklt:=(List.getElem?_eq_some_iff.mp hk).1
    have hnz:=(C.rk c (List.mem_of_getElem? hk)).2.2
    have hcl:=row_len C.rk hk
    refine zj (s_ite (b:=false) (pvb (pvb (h.1.a_ ha rfl rfl) (pvb rfl (sb_d (h.1.at_ .ca trivial) hca))) (pvb rfl (pcm rfl))) (fun h=>by cases h) fun _=>?_)
    refine zj (s_ex (bm_d (o:= .loc 3) (b:=fa) rfl hf rfl (zv (e_dc (zw _ (.ref (lay (.cl k))) _ (ref_row h.1 ha hklt (pvb (h.1.a_ ha rfl rfl) (pvb rfl (sb_d (h.1.at_ .ca trivial) hca)))) (it_l (h.1.row hk) ?_))))))
    refine cloop_ind (fun i acc H'=>H'=H2∧(∀v,v∈ky acc↔∃y∈c.take i,(y.natAbs:Int)=v)∧acc.length≤i) _ (fun i w acc H' K' hw hI hK'=>?_) (fun acc H' hI=>?_) ⟨rfl,fun v=>⟨fun h=>(by cases h),fun ⟨y,hy,_⟩=>(by cases hy)⟩,Nat.le_refl _⟩
    ·obtain ⟨rfl,hky,hle⟩:=hI
     obtain ⟨y,hy,rfl⟩:=zs_at hw
     have hic:=(List.getElem?_eq_some_iff.mp hy).1
     refine ⟨wq (h.1.row hk),zw (.bi .abs [.loc 7]) (.int y.natAbs) _ rfl (zw (.c (.bool true)) (.bool true) _ rfl ⟨by lia,hK' _ _ ⟨rfl,fun v=>?_,?_⟩⟩)⟩
     ·rw [ky_put_mem,hky]
      constructor
      ·rintro (⟨z,hz,e⟩|rfl)
       ·exact ⟨z,(wy hy).mpr (.inl hz),e⟩
       ·exact ⟨y,(wy hy).mpr (.inr rfl),rfl⟩
      ·rintro ⟨z,hz,e⟩
       rcases (wy hy).mp hz with hz|rfl
       ·exact .inl ⟨z,hz,e⟩
       ·exact .inr e.symm
     ·exact Nat.le_trans (put_length ..) (Nat.succ_le_succ hle)
    ·obtain ⟨rfl,hky,hle⟩:=hI
     rw [wd,List.take_length] at hky
     rw [wd] at hle
     refine ⟨wq (h.1.row hk),fun y hy=>?_⟩
     have hyf:fa≠y:=by rintro rfl;rw [show H' fa=none from hy] at hf;cases hf
     have hyb:ba≠y:=by rintro rfl;rw [show H' ba=none from hy] at hb;cases hb
     have hyr:rv≠y:=by rintro rfl;rw [show H' rv=none from hy] at hr;cases hr
     have hu:=h.trans (SF.junk h.1 (o:= .dct acc) hy)
     refine zp (upd_ok (es:=es) (fs:=acc) (by exact (zu hyf).trans hf) zx hyf (by have:=B.kf.len;lia) ?_)
     exact zy (zy (zy (hK _ _ ⟨ds,putAll es acc,_,_,rfl,hu.side ffa nfa,by rw [zu fun e=>hfb e.symm];exact (zu hyb).trans hb,zx,by rw [zu hrf];exact (zu hyr).trans hr,by rw [hlen];exact B.cause C hx hk hxc hoth hky⟩)))
  ·rw [Bool.and_true,Bool.and_eq_false_iff] at hd
   refine zy (zy (hK _ _ ⟨ds,es,_,_,rfl,h,hb,hf,hr,by rw [hlen];exact B.skip hx (hd.imp of_decide_eq_false fun h=>by have:=of_decide_eq_false h;lia)⟩))
 ·refine nn fun hC=>?_
  obtain ⟨ds,es,z4,z5,rfl,h,hb,hf,hr,B⟩:=hI
  refine hC ?_
  rw [List.length_reverse,wd,Nat.sub_self] at B
  have hdl:ds.length≤N:=lits_len B.d2 fun d hd=>by
   obtain ⟨i,_,h7,_⟩:=B.d1 d hd
   exact C.td.nz _ (List.mem_of_getElem? h7)
  have hds0:∀x∈l::ds,x≠0:=fun x hx=>by
   rcases List.mem_cons.mp hx with rfl|hx
   ·exact (nz_n ‹_›).1
   ·obtain ⟨i,_,h7,_⟩:=B.d1 x hx
    exact (C.td.nz _ (List.mem_of_getElem? h7)).1
  have hB:Blm N M s l ds:=⟨fun d hd=>by
   obtain ⟨i,_,h7⟩:=B.d1 d hd
   exact ⟨i,h7⟩,B.d2,fun α hα hall=>B.sem α hα hall fun i hi=>absurd hi (Nat.not_lt_zero _)⟩
  refine ⟨wq hr,zj (s_setE (e_bi (zv (zw (.loc 2) (.ref ba) _ rfl (zp (tt_l hb fun y hy=>attS_ok (h.1.junk (o:= .tup (zs (l::ds))) hy) ha ?_))))))⟩
  have h4:=n_bl h.1 y hy (l::ds)
  have hout:=h.1.out h4.2 hb nba
  have h04:=h.trans h4
  have ha4:=h04.ins ha
  generalize ((H2.set y (.tup (zs (l::ds)))).set (lay .att) (.att (put (attL lay s) 13 (.ref y))))=H4 at h4 hout h04
  generalize up lay .bl y=lay4 at h4 hout h04 ha4
  refine zj (vj (e_callG (zv (e_lc (zw (.loc 2) (.ref ba) _ rfl (it_l hout.1 ?_))))))
  refine cloop_ind (fun i acc H'=>H'=H4∧acc=zs (((l::ds).take i).map fun x=> -x)) _ (fun i w acc H' K' hw hI hK'=>?_) (fun acc H' hI=>?_) ⟨rfl,rfl⟩
  ·obtain ⟨rfl,rfl⟩:=hI
   obtain ⟨x,hx,rfl⟩:=zs_at hw
   have hic:=(List.getElem?_eq_some_iff.mp hx).1
   rw [List.length_cons] at hic
   refine ⟨wq hout.1,pvT (zw (.neg (.loc 7)) (.int (-x)) _ rfl ⟨?_,hK' _ _ ⟨rfl,?_⟩⟩)⟩
   ·rw [wd,List.length_map,List.length_take];lia
   ·rw [List.take_add_one,hx,List.map_append,zs_app];rfl
  ·obtain ⟨rfl,rfl⟩:=hI
   rw [wd,List.take_length]
   refine ⟨wq hout.1,fun z hz=>zp ?_⟩
   have h5:=SF.junk h4.1 (o:= .lst (zs ((l::ds).map fun x=> -x))) hz
   refine c_ordered zx (.inl rfl) (fun x hx=>?_) (by rw [List.length_map,List.length_cons];lia) (fun H6 E6 hbad=>?_) fun H6 y6 c E6 hy6 hy6' hO=>?_
   ·obtain ⟨x',hx',rfl⟩:=List.mem_map.mp hx
    have:=hds0 x' hx'
    lia
   ·have h6:=E6.sf h5.1
    refine zj (s_ite (b:=false) (pvb rfl (pvb rfl (pcm rfl))) (fun h=>by cases h) fun _=>zy (zy (q _ _ _ ds (h04.trans (h5.trans h6)) hB (.inl ⟨rfl,?_⟩))))
    refine nn fun hC=>?_
    obtain ⟨x,h7,h8⟩:=hbad
    obtain ⟨x',hx',rfl⟩:=List.mem_map.mp h7
    obtain ⟨x2,hx2,e⟩:=List.mem_map.mp h8
    refine hC ?_
    exact ⟨x',hx',by rw [show-x'=x2 by lia];exact hx2⟩
   ·obtain ⟨H0,E0,hy0,rfl⟩:=ext_split E6 hy6 hy6'
    have h6:=E0.sf h5.1
    have h7:=n_lg h6.1 y6 hy0 c
    refine zj (s_ite (b:=true) (pvb rfl (pvb rfl (pcm rfl))) (fun _=>?_) fun h=>by cases h)
    have h8:=h6.1.junk (o:= .tup (zs c)) hy0
    have hz8:(refs (s.wBl (l::ds)).lg.length fun i=>lay4 (.le i)).length<sz:=by rw [refs_len];exact hlz
    refine zj (s_ex (bm_l (h8.a_ ha4 rfl rfl) (h8.at_ .lg trivial) rfl (zv (zw (.loc 6) (.ref y6) _ rfl (zp (app_ok (h8.at_ .lg trivial) hz8 (zy (zy (q _ _ _ ds (h04.trans (h5.trans (h6.trans h7))) hB (.inr ⟨c,rfl,hO⟩))))))))))
end
noncomputable def orW(r:AH→Prop)(Q:V→AH→Prop):V→AH→Prop:=fun v H=>ifB v (Q (.bool true) H) (r H)
noncomputable def boolW(Q:V→AH→Prop):V→AH→Prop:=fun v H=>ifS v.b? fun b=>Q (.bool b) H
noncomputable def cmpW(op:Cm)(v w:V)(H:AH)(Q:V→AH→Prop):Prop:=ifS (cmpV H op v w) fun b=>Q (.bool b) H
section
variable{sp:Sp}{m:List V}{H:AH}{Q:V→AH→Prop}
theorem e_or{l r:X}(h:l.ev sp m H (orW (fun H=>r.ev sp m H (boolW Q)) Q)):(X.or l r).ev sp m H Q:=h
theorem e_cmp{op:Cm}{l r:X}(h:l.ev sp m H fun v H=>r.ev sp m H fun w H=>cmpW op v w H Q):(X.cmp op l r).ev sp m H Q:=h
theorem e_tup{xs:List X}(h:X.evs sp xs m H fun vs H=>∀a,H a=none→Q (.ref a) (H.set a (.tup vs))):(X.tup xs).ev sp m H Q:=h
theorem cmpW_i{op:Cm}{v w:V}{b:Bool}(h:cmpV H op v w=some b)(q:Q (.bool b) H):cmpW op v w H Q:=zg h q
theorem hset_comm{a b:Addr}{x y:O}(h:a≠b):(H.set a x).set b y=(H.set b y).set a x:=by
 funext c
 unfold AH.set
 by_cases h1:c=b
 ·subst h1
  rw [if_pos rfl,if_neg fun e=>h e.symm,if_pos rfl]
 ·rw [if_neg h1]
  by_cases h2:c=a
  ·rw [if_pos h2,if_pos h2]
  ·rw [if_neg h2,if_neg h2,if_neg h1]
end
section
variable{n:Nat}{H:AH}{lay:Ro→Addr}{s:St}{a:Addr}{Q:V→AH→Prop}{N:Nat}{M:(Nat→Bool)→Prop}
theorem c_hottest(So:Sol H lay s)(ha:lay .ins=a)(ht:HtOK N s.ht)
  (q:∀H' (v:Int),SF H lay s H' lay s→(v=0∧∀k:Int,1≤k→k≤N→k∈ky s.kn)∨(1≤v∧v≤N∧v∉ky s.kn)→Q (.int v) H'):spN tabL (n+1) 16 [.ref a] H Q:=by
 refine sp_go rfl rfl (zj (vj (zw (.c (.int 0)) (.int 0) _ rfl ?_)))
 refine zj (s_for (zw _ _ _ (So.a_ ha rfl rfl) (it_d (So.at_ .ht trivial) fun o=>?_)))
 have hne:∀r,r≠ .ht→use s r→lay r≠lay .ht:=fun r h u e=>h (So.inj r .ht u trivial e)
 refine floop_ind (fun i m H'=>Ex3 fun (b:Int) (z:V) (H1:AH)=>An4 (m=[.ref a,.int b,z]) (Ext H H1) (H'=H1.set (lay .ht) (.froz (.dct s.ht) o)) (((b=0∧∀k∈(oneTo N).take i,k∈ky s.kn)∨(1≤b∧b≤N∧b∉ky s.kn)))) _ (fun i v m H' K hv hI hK=>?_) (fun m H' hI=>?_) ⟨0,.un,H,rfl,.refl,rfl,.inl ⟨rfl,fun k h=>(by cases h)⟩⟩
 ·obtain ⟨b,z,H1,rfl,E,rfl,hb⟩:=hI
  obtain ⟨k,hk,rfl⟩:=keys_get hv
  have hk:(oneTo N)[i]?=some k:=by rw [←ht.1];exact hk
  have hk1:=mem_oneTo.mp (List.mem_of_getElem? hk)
  obtain ⟨hx,hhx⟩:=ht.get hk1.1 hk1.2
  have hat:∀{H2:AH},Ext H H2→∀{f:Nat} {v:V},get (attL lay s) f=some v→nun v=some v→attrV (H2.set (lay .ht) (.froz (.dct s.ht) o)) (.ref a) f=some v:=fun {H2} E2 {f v} h3 h4=>
   attr_of (d:=lay .att) (es:=attL lay s) (by rw [←ha,zu (hne .ins (by simp) trivial)];exact E2 _ _ (So.at_ .ins trivial)) (by rw [zu (hne .att (by simp) trivial)];exact E2 _ _ (So.at_ .att trivial)) h3 h4
  have hkn:(H1.set (lay .ht) (.froz (.dct s.ht) o)) (lay .kn)=some (.dct s.kn):=by
   rw [zu (hne .kn (by simp) trivial)];exact E _ _ (So.at_ .kn trivial)
  refine ⟨zx,zj (s_ite (b:=!decide (k∈ky s.kn)) (pvb rfl (pvb (hat E rfl rfl) (pcm (nm hkn)))) (fun hd=>?_) fun hd=>?_)⟩
  ·have hnk:k∉ky s.kn:=of_decide_eq_false (by rwa [Bool.not_eq_true'] at hd)
   have hset:∀{z:V} {H2:AH},Ext H H2→K [.ref a,.int k,z] (H2.set (lay .ht) (.froz (.dct s.ht) o)):=fun {z H2} E2=>hK _ _ ⟨k,z,H2,rfl,E2,rfl,.inr ⟨hk1.1,hk1.2,hnk⟩⟩
   by_cases hb0:b=0
   ·subst hb0
    refine zj (s_iteE (e_or (zw _ (.bool true) _ (pvb rfl (pvb rfl (pcm (eq_ii (j:=0))))) ?_)))
    exact hset E
   ·have hb':=hb.resolve_left fun h=>hb0 h.1
    obtain ⟨hy,hhy⟩:=ht.get hb'.1 hb'.2.1
    refine zj (s_iteE (e_or (zw _ (.bool false) _ (pvb rfl (pvb rfl (pcm ((eq_ii (j:=0)).trans (by rw [decide_eq_false hb0]))))) ?_)))
    refine e_or (e_cmp (e_tup (zv (zw _ (.int hx) _ (pvb (hat E rfl rfl) (pvb rfl (sb_f zx hhx))) (zv (zw (.neg (.loc 2)) (.int (-k)) _ rfl (zp fun x hx0=>?_)))))))
    have hxh:x≠lay .ht:=by rintro rfl;rw [zx] at hx0;cases hx0
    have hx1:H1 x=none:=by rw [zu hxh] at hx0;exact hx0
    have E2:Ext H (H1.set x (.tup [.int hx,.int (-k)])):=E.new (E.none hx1)
    rw [hset_comm fun e=>hxh e.symm]
    refine e_tup (zv (zw _ (.int hy) _ (pvb (hat E2 rfl rfl) (pvb rfl (sb_f zx hhy))) (zv (zw (.neg (.loc 1)) (.int (-b)) _ rfl (zp fun y hy0=>?_)))))
    have hyh:y≠lay .ht:=by rintro rfl;rw [zx] at hy0;cases hy0
    have hy1:(H1.set x (.tup [.int hx,.int (-k)])) y=none:=by rw [zu hyh] at hy0;exact hy0
    have hxy:x≠y:=by rintro rfl;rw [zx] at hy1;cases hy1
    have E3:Ext H ((H1.set x (.tup [.int hx,.int (-k)])).set y (.tup [.int hy,.int (-b)])):=E2.new (E2.none hy1)
    rw [hset_comm fun e=>hyh e.symm]
    have hg:gtV ((((H1.set x (.tup [.int hx,.int (-k)])).set y (.tup [.int hy,.int (-b)]))).set (lay .ht) (.froz (.dct s.ht) o)) (.ref x) (.ref y)=some (decide (hy<hx∨(hx=hy∧-b< -k))):=by
     show (AH.see _ x).bind _=_
     rw [see_tup (l:=[.int hx,.int (-k)]) (by rw [zu hxh,zu hxy];exact zx)]
     show (AH.see _ y).bind _=_
     rw [see_tup (l:=[.int hy,.int (-b)]) (by rw [zu hyh];exact zx)]
     rfl
    refine cmpW_i hg ?_
    cases decide (hy<hx∨(hx=hy∧-b< -k))
    ·exact hK _ _ ⟨b,_,_,rfl,E3,rfl,.inr hb'⟩
    ·exact hset E3
  ·have hkk:k∈ky s.kn:=of_decide_eq_true (by rwa [Bool.not_eq_false'] at hd)
   refine zy (zy (hK _ _ ⟨b,_,H1,rfl,E,rfl,hb.imp (fun h=>⟨h.1,fun x hx=>?_⟩) id⟩))
   rcases (wy hk).mp hx with hx|rfl
   ·exact h.2 x hx
   ·exact hkk
 ·obtain ⟨b,z,H1,rfl,E,rfl,hb⟩:=hI
  refine ⟨zx,?_⟩
  have e:(H1.set (lay .ht) (.froz (.dct s.ht) o)).set (lay .ht) (.dct s.ht)=H1:=by
   rw [set_set];exact set_same (E _ _ (So.at_ .ht trivial))
  refine zj (s_ret (zw (.loc 1) (.int b) _ rfl ?_))
  refine (?_:Q (.int b) ((H1.set (lay .ht) (.froz (.dct s.ht) o)).set (lay .ht) (.dct s.ht)))
  rw [e]
  refine q _ _ (E.sf So) (hb.imp (fun h=>⟨h.1,fun k h1 h2=>h.2 k ?_⟩) id)
  rw [keys_len,ht.len,List.take_of_length_le (by rw [oneTo_len];exact Nat.le_refl _)]
  exact mem_oneTo.mpr ⟨h1,h2⟩
theorem Core.dec(C:Core N M s)(h:s.seen=s.ro.length):Core N M (s.wBe (s.be++[s.ro.length])):=by
 have hlv:∀{i:Nat} {l:Int},s.ro[i]?=some l→lvl (s.be++[s.ro.length]) i=lvl s.be i:=fun {i l} hl=>by
  have:=(List.getElem?_eq_some_iff.mp hl).1
  rw [lvl_app,lvl_none (be:=[s.ro.length]) fun b hb=>by rw [List.mem_singleton.mp hb];exact this];rfl
 refine ⟨⟨C.td.nz,C.td.nd,C.td.kn,C.td.kK,C.td.hK,C.td.cK,C.td.lK,C.td.lB⟩,fun i l hl=>?_,fun i l hl=>?_,?_,fun b hb=>?_,C.sl,C.rk,C.rM,fun i l hl h0=>?_,C.ht,C.wn,C.wr,C.lim⟩
 ·show _=some (V.int (lvl (s.be++[s.ro.length]) i:Nat))
  rw [hlv hl];exact C.he i l hl
 ·rcases C.ca i l hl with ⟨h1,h2⟩|h1
  ·exact .inl ⟨h1,h2.imp (fun h2=>by show lvl (s.be++[s.ro.length]) i=0;rw [hlv hl];exact h2) fun h2=>List.mem_append_left _ h2⟩
  ·exact .inr h1
 ·show (s.be++[s.ro.length]).Pairwise _
  rw [List.pairwise_append]
  exact ⟨C.srt,List.pairwise_singleton ..,fun a ha b hb=>by rw [List.mem_singleton.mp hb];exact C.kb a ha⟩
 ·show b≤s.seen
  rcases List.mem_append.mp hb with hb|hb
  ·exact C.bs b hb
  ·rw [List.mem_singleton.mp hb,h];exact Nat.le_refl _
 ·have h0:lvl (s.be++[s.ro.length]) i=0:=h0
  rw [hlv hl] at h0
  exact C.zM i l hl h0
theorem Good4.dec(G:Good4 N M s)(h:s.seen=s.ro.length):Good4 N M (s.wBe (s.be++[s.ro.length])):=by
 have hlv:∀{i:Nat} {l:Int},s.ro[i]?=some l→lvl (s.be++[s.ro.length]) i=lvl s.be i:=fun {i l} hl=>by
  have:=(List.getElem?_eq_some_iff.mp hl).1
  rw [lvl_app,lvl_none (be:=[s.ro.length]) fun b hb=>by rw [List.mem_singleton.mp hb];exact this];rfl
 refine ⟨G.c.dec h,fun α h1 h2=>G.cv α h1 fun i l hl h0=>h2 i l hl (by show lvl (s.be++[s.ro.length]) i=0;rw [hlv hl];exact h0),⟨G.w.iff,G.w.nd⟩,fun k c w w' hc hw i hi hx=>?_⟩
 obtain ⟨j,h1,h2⟩:=G.p k c w w' hc hw i hi hx
 exact ⟨j,h1,by show lvl (s.be++[s.ro.length]) j≤lvl (s.be++[s.ro.length]) i;rw [hlv hx,hlv h1];exact h2⟩
end
section
variable{n:Nat}{H:AH}{lay:Ro→Addr}{s:St}{a:Addr}{Q:V→AH→Prop}{N:Nat}{M:(Nat→Bool)→Prop}
theorem lt_nn{H:AH}{i j:Nat}:cmpV H .lt (.int i) (.int j)=some (decide (i<j)):=by
 show some (decide ((i:Int)<(j:Int)))=_
 congr 1
 exact decide_eq_decide.mpr (by exact Int.ofNat_lt)
inductive Dcd(asked:List Int)(s:St):St→Prop
 |true_ (l:Int):asked[s.be.length]?=some l→l∈s.ro→Dcd asked s (s.wBe (s.be++[s.ro.length]))
 |new (l:Int):(∀x∈s.ro,x.natAbs≠l.natAbs)→(s.be.length<asked.length→asked[s.be.length]?=some l)→Dcd asked s (letS (s.wBe (s.be++[s.ro.length])) l .none)
set_option maxHeartbeats 1000000 in
theorem c_decide(So:Sol H lay s)(ha:lay .ins=a)(G:Good4 N M s)(hN:N<60)(hs:s.seen=s.ro.length){ask:Addr}{asked:List Int}(hask:H ask=some (.lst (zs asked)))(nask:¬fp lay s ask)(hnz:∀l∈asked,l≠0∧l.natAbs≤N)(hlz:s.lg.length<sz)(hbz:s.be.length<sz)
  (q1:∀H' lay' s' ds l,asked[s.be.length]?=some l→-l∈s.ro→SF H lay s H' lay' s'→Blm N M s l ds→(s'=s.wBl (l::ds)∧(∃x∈l::ds,-x∈l::ds))∨(∃c,s'=(s.wBl (l::ds)).addLog c∧Ord ((l::ds).map fun x=> -x) c)→Q (.bool false) H')
  (q2:∀H',SF H lay s H' lay s→asked.length≤s.be.length→(∀k:Int,1≤k→k≤N→k∈ky s.kn)→Q (.bool true) H')
  (q3:∀H' s',SF H lay s H' lay s'→Dcd asked s s'→Good4 N M s'→Q .none H'):spN tabL (n+3) 17 [.ref a,.ref ask] H Q:=by
 have C:=G.c
 suffices hF:∀H1 l z3,SF H lay s H1 lay s→l≠0→l.natAbs≤N→(l∈s.ro∨∀x∈s.ro,x.natAbs≠l.natAbs)→(s.be.length<asked.length→asked[s.be.length]?=some l)→(asked.length≤s.be.length→∀x∈s.ro,x.natAbs≠l.natAbs)→
   (S.seq (.ex (.bm .append (.attr (.loc 0) 4) [(.bi .len [(.attr (.loc 0) 3)])])) (.seq (.ite (.cmp .is (.callM 2 (.loc 0) [(.loc 2)]) (.c .none)) (.seq (.ex (.callM 3 (.loc 0) [(.loc 2),(.c .none)])) .skip) .skip) (.seq (.ret (.c .none)) .skip))).wp (spN tabL (n+2)) [.ref a,.ref ask,.int l,z3] H1 (fun _ H=>Q .none H) (rt Q) by
  refine sp_go rfl rfl (zj (s_ite (b:=decide (s.be.length<asked.length)) (pvb (len_pv (So.a_ ha rfl rfl) (ln_nz (So.at_ .be trivial))) (pvb (len_pv rfl (ln_zs hask)) (pcm lt_nn))) (fun hd=>?_) fun hd=>?_))
  ·have hd:=of_decide_eq_true hd
   have hl:asked[s.be.length]?=some asked[s.be.length]:=List.getElem?_eq_getElem hd
   generalize asked[s.be.length]=l at hl
   have hl0:=hnz l (List.mem_of_getElem? hl)
   refine zj (vj (zw _ (.int l) _ (pvb rfl (pvb (len_pv (So.a_ ha rfl rfl) (ln_nz (So.at_ .be trivial))) (sb_l hask (idx_nat (zs_get hl))))) ?_))
   rcases C.td.say hl0.1 with ⟨hin,hsay⟩|⟨hin,hsay⟩|⟨hin,hsay⟩
   ·exact zj (s_says (l:=l) (b:=false) So ha C.td.knOK rfl rfl (by rw [hsay];rfl) (fun h=>by cases h) fun _=>zy (zy (hF H l _ (.refl So) hl0.1 hl0.2 (.inl hin) (fun _=>hl) fun h=>absurd hd (by lia))))
   ·refine zj (s_says (l:=l) (b:=true) So ha C.td.knOK rfl rfl (by rw [hsay];rfl) (fun _=>?_) fun h=>by cases h)
    refine zj (s_ex (cm_ok (xs:=[.loc 2]) (P:=fun _ H=>_) So ha rfl (zv (zw (.loc 2) (.int l) _ rfl (zp (c_blame So ha C hN hin hlz fun H' lay' s' ds h hB hor=>?_))))))
    exact zj (s_ret (zw (.c (.bool false)) (.bool false) _ rfl (q1 H' lay' s' ds l hl hin h hB hor)))
   ·exact zj (s_says (l:=l) (b:=false) So ha C.td.knOK rfl rfl (by rw [hsay];rfl) (fun h=>by cases h) fun _=>zy (zy (hF H l _ (.refl So) hl0.1 hl0.2 (.inr hin) (fun _=>hl) fun h=>absurd hd (by lia))))
  ·have hd:=of_decide_eq_false hd
   refine zj (vj (cm_ok (xs:=[]) (P:=fun v H=>_) So ha rfl (zp (c_hottest So ha C.ht fun H1 v h1 hv=>?_))))
   rcases hv with ⟨rfl,hall⟩|⟨hv1,hv2,hv3⟩
   ·refine zj (s_ite (b:=true) (pvb rfl (pvb rfl (pcm (eq_ii (j:=0))))) (fun _=>?_) fun h=>by cases h)
    exact zj (s_ret (zw (.c (.bool true)) (.bool true) _ rfl (q2 _ h1 (by exact Nat.not_lt.mp ‹_›) hall)))
   ·refine zj (s_ite (b:=false) (pvb rfl (pvb rfl (pcm ((eq_ii (j:=0)).trans (by rw [decide_eq_false (by lia)]))))) (fun h=>by cases h) fun _=>zy ?_)
    obtain ⟨b,hb⟩:∃b,(get s.li v).getD (.bool false)= .bool b:=by
     generalize hg:get s.li v=zq;induction zq with
     |none=>exact ⟨false,rfl⟩
     |some w=>exact C.td.lB _ _ hg
    have hfree:∀l:Int,(l.natAbs:Int)=v→∀x∈s.ro,x.natAbs≠l.natAbs:=fun l e x hx e2=>by
     have:=(C.td.kn v (.bool (decide (0<x)))).mpr ⟨x,hx,by lia,rfl⟩
     exact hv3 (get_ky this)
    refine zj (vj (e_ite (b:=b) (pvb (h1.1.a_ ha rfl rfl) (pvb rfl ((dg (h1.1.at_ .li trivial)).trans (by rw [hb])))) (fun _=>zw (.loc 3) (.int v) _ rfl ?_) fun _=>zw (.neg (.loc 3)) (.int (-v)) _ rfl ?_))
    ·exact zy (hF H1 v _ h1 (by lia) (na_v (by assumption) (by assumption)) (.inr (hfree v (na_c (by assumption)))) (fun h=>absurd h hd) fun _=>hfree v (na_c (by assumption)))
    ·exact zy (hF H1 (-v) _ h1 (by lia) (by rw [Int.natAbs_neg];exact na_v (by assumption) (by assumption)) (.inr (hfree (-v) (by rw [Int.natAbs_neg];exact na_c (by assumption)))) (fun h=>absurd h hd) fun _=>hfree (-v) (by rw [Int.natAbs_neg];exact na_c (by assumption)))
 intro H1 l z3 h1 hl0 hlN hor hlt hge
 have G1:=G.dec hs
 have u1:=u_be h1.1 (s.be++[s.ro.length])
 refine zj (s_ex (bm_l (h1.1.a_ ha rfl rfl) (h1.1.at_ .be trivial) rfl (zv (zw _ (.int s.ro.length) _ (len_pv (h1.1.a_ ha rfl rfl) (ln_zs (h1.1.at_ .ro trivial))) (zp (app_ok (h1.1.at_ .be trivial) (by rw [nz_len];exact hbz) ?_))))))
 rw [show nz s.be++[V.int (s.ro.length:Nat)]=nz (s.be++[s.ro.length]) from (nz_app (r:=[s.ro.length])).symm]
 generalize H1.set (lay .be) (.lst (nz (s.be++[s.ro.length])))=H2 at u1
 have hret:∀{H' m} {P:List V→AH→Prop},Q .none H'→(S.seq (.ret (.c .none)) .skip).wp (spN tabL (n+2)) m H' P (rt Q):=fun h=>zj (s_ret (zw (.c .none) .none _ rfl h))
 by_cases hin:l∈s.ro
 ·have hsay:sayV (s.wBe (s.be++[s.ro.length])) l= .bool true:=(C.td.say_t hl0).mpr hin
  refine zj (s_says (l:=l) (b:=false) u1.1 ha G1.c.td.knOK rfl rfl (by rw [hsay];rfl) (fun h=>by cases h) fun _=>zy (hret (q3 _ _ (h1.trans u1) (.true_ l ?_ hin) G1)))
  refine hlt ?_
  rcases Nat.lt_or_ge s.be.length asked.length with h|h
  ·exact h
  ·exact absurd rfl (hge h l hin)
 ·have hfree:=hor.resolve_left hin
  have hsay:sayV (s.wBe (s.be++[s.ro.length])) l= .none:=(C.td.say_n hl0).mpr hfree
  refine zj (s_says (l:=l) (b:=true) u1.1 ha G1.c.td.knOK rfl rfl (by rw [hsay];rfl) (fun _=>?_) fun h=>by cases h)
  refine zj (s_ex (cm_ok (xs:=[.loc 2,.c .none]) (P:=fun _ H=>_) u1.1 ha rfl (zv (zw (.loc 2) (.int l) _ rfl (zv (zw (.c .none) .none _ rfl (zp (c_let u1.1 ha (G1.c.sz (Nat.lt_trans hN (by decide))) rfl fun H3 h3=>?_))))))))
  have hbe:s.ro.length∈(s.wBe (s.be++[s.ro.length])).be:=List.mem_append_right _ (List.mem_singleton.mpr rfl)
  refine zy (hret (q3 _ _ (h1.trans (u1.trans h3)) (.new l hfree hlt) ⟨G1.c.let_ hl0 hlN hfree (.inl ⟨rfl,.inr hbe⟩) fun hz=>?_,G1.cv.let_,⟨G1.w.iff,G1.w.nd⟩,G1.p.let_ G1.c.sl⟩))
  have:(s.be++[s.ro.length]).length=0:=hz
  rw [List.length_append,List.length_singleton] at this
  lia
end
noncomputable def sc(d:Nat→Nat):Nat→Nat
 |0=>0
 |n+1=>3*sc d n+d n
theorem sc_bd{d:Nat→Nat}(h:∀i,d i≤2):∀n,sc d n+1≤3^n
 |0=>Nat.le_refl _
 |n+1=>by
  have:=sc_bd h n
  have:=h n
  rw [Nat.pow_succ]
  show 3*sc d n+d n+1≤_
  lia
theorem sc_mono{d d':Nat→Nat}:∀n,(∀i<n,d i≤d' i)→sc d n≤sc d' n
 |0,_=>Nat.le_refl _
 |n+1,h=>by
  have h1:=sc_mono n fun i hi=>h i (Nat.lt_succ_of_lt hi)
  have h2:=h n (Nat.lt_succ_self n)
  show 3*sc d n+d n≤3*sc d' n+d' n
  lia
theorem sc_lt{d d':Nat→Nat}(h2:∀i,d i≤2){p:Nat}(he:∀i<p,d i=d' i)(hp:d p<d' p):∀n,p<n→sc d n<sc d' n
 |0,h=>absurd h (Nat.not_lt_zero _)
 |n+1,h=>by
  show 3*sc d n+d n<3*sc d' n+d' n
  rcases Nat.lt_succ_iff_lt_or_eq.mp h with h|rfl
  ·have h3:=sc_lt h2 he hp n h
   have h4:=h2 n
   lia
  ·have h3:sc d p≤sc d' p:=sc_mono p fun i hi=>Nat.le_of_eq (he i hi)
   lia
noncomputable def dig(s:St)(i:Nat):Nat:=if i<s.ro.length then (if i∈s.be then 1 else 2) else 0
noncomputable def score(N:Nat)(s:St):Nat:=sc (dig s) N
theorem dig_le{s:St}(i:Nat):dig s i≤2:=by
 unfold dig
 split
 ·split<;>decide
 ·decide
theorem score_bd{N:Nat}{s:St}(hN:N≤5):score N s≤242:=by
 have h1:=sc_bd (dig_le (s:=s)) N
 have h2:3^N≤3^5:=Nat.pow_le_pow_right (by decide) hN
 unfold score
 lia
section
variable{N:Nat}{M:(Nat→Bool)→Prop}{s s':St}{asked:List Int}
theorem Kp.score(K:Kp s s'):score N s≤score N s':=sc_mono N fun i _=>by
 obtain ⟨t,ht⟩:=K.ro
 unfold dig
 rw [K.be]
 by_cases h:i<s.ro.length
 ·rw [if_pos h,if_pos (show i<s'.ro.length by rw [ht,List.length_append];lia)]
  exact Nat.le_refl _
 ·rw [if_neg h];exact Nat.zero_le _
theorem Lrn.score{h q:Nat}{l:Int}{lc:List Int}(L:Lrn s s' h q l lc)(C:Core N M s)(C':Core N M s'):score N s<score N s':=by
 have hql:=C.kb q (List.mem_of_getElem? L.hq)
 have hlen:s'.ro.length=q+1:=by
  rw [L.ro,List.length_append,List.length_take,List.length_singleton];lia
 refine sc_lt dig_le (p:=q) (fun i hi=>?_) ?_ N (by have:=C'.td.len;lia)
 ·unfold dig
  rw [if_pos (show i<s.ro.length by exact Nat.lt_of_lt_of_le ‹_› ‹_›),if_pos (show i<s'.ro.length by lia),L.be]
  have:i∈s.be↔i∈s.be.take h:=by
   constructor
   ·intro hm
    rw [←List.take_append_drop h s.be] at hm
    rcases List.mem_append.mp hm with hm|hm
    ·exact hm
    ·have:=srt_drop C.srt L.hq i hm
     lia
   ·exact fun hm=>List.mem_of_mem_take hm
  by_cases hm:i∈s.be
  ·rw [if_pos hm,if_pos (this.mp hm)]
  ·rw [if_neg hm,if_neg fun h=>hm (this.mpr h)]
 ·have h1:dig s' q=2:=by
   unfold dig
   rw [if_pos (show q<s'.ro.length by lia),L.be,if_neg L.nq]
  have h2:dig s q≤1:=by
   unfold dig
   rw [if_pos (List.mem_of_getElem? L.hq)]
   split<;>decide
  lia
theorem Dcd.score(D:Dcd asked s s')(C:Core N M s)(C':Core N M s'):(score N s≤score N s'∧s'.be.length=s.be.length+1∧s.be.length<asked.length)∨score N s<score N s':=by
 induction D with
 |true_ l hl hin=>
  refine .inl ⟨sc_mono N fun i _=>?_,by show (s.be++[_]).length=_;rw [List.length_append];rfl,(List.getElem?_eq_some_iff.mp hl).1⟩
  unfold dig
  show _≤(if i<s.ro.length then (if i∈s.be++[s.ro.length] then 1 else 2) else 0)
  by_cases h:i<s.ro.length
  ·rw [if_pos h,if_pos h]
   by_cases hm:i∈s.be
   ·rw [if_pos hm,if_pos (List.mem_append_left _ hm)];exact Nat.le_refl _
   ·rw [if_neg hm,if_neg fun hh=>by
     rcases List.mem_append.mp hh with hh|hh
     ·exact hm hh
     ·rw [List.mem_singleton.mp hh] at h;lia]
    exact Nat.le_refl _
  ·rw [if_neg h];exact Nat.zero_le _
 |new l hfree hl=>
  have hlen:(letS (s.wBe (s.be++[s.ro.length])) l .none).ro.length=s.ro.length+1:=by
   show (s.ro++[l]).length=_
   rw [List.length_append];rfl
  refine .inr (sc_lt dig_le (p:=s.ro.length) (fun i hi=>?_) ?_ N (by have:=C'.td.len;lia))
  ·unfold dig
   rw [if_pos hi,if_pos (show i<(letS (s.wBe (s.be++[s.ro.length])) l .none).ro.length by lia)]
   show _=if i∈s.be++[s.ro.length] then 1 else 2
   by_cases hm:i∈s.be
   ·rw [if_pos hm,if_pos (List.mem_append_left _ hm)]
   ·rw [if_neg hm,if_neg fun hh=>by
     rcases List.mem_append.mp hh with hh|hh
     ·exact hm hh
     ·rw [List.mem_singleton.mp hh] at hi;lia]
  ·have h1:dig s s.ro.length=0:=by unfold dig;rw [if_neg (Nat.lt_irrefl _)]
   have h2:0<dig (letS (s.wBe (s.be++[s.ro.length])) l .none) s.ro.length:=by
    unfold dig
    rw [if_pos (show s.ro.length<(letS (s.wBe (s.be++[s.ro.length])) l .none).ro.length by lia)]
    split<;>decide
   lia
structure AI(asked:List Int)(s:St):Prop where
 as:∀i<s.be.length,∀a,asked[i]?=some a→∃j,s.ro[j]?=some a∧lvl s.be j≤i+1
 ad:∀(i:Nat) (l:Int),s.ro[i]?=some l→i∈s.be→lvl s.be i≤asked.length→asked[lvl s.be i-1]?=some l
theorem AI.nil(h:s.be=[]):AI asked s:=⟨fun i hi=>(by rw [h] at hi;cases hi),fun i l _ hi=>(by rw [h] at hi;cases hi)⟩
theorem AI.kp(A:AI asked s)(K:Kp s s'):AI asked s':=by
 obtain ⟨t,ht⟩:=K.ro
 have hat:∀{i:Nat} {l:Int},i<s.ro.length→(s'.ro[i]?=some l↔s.ro[i]?=some l):=fun {i l} hi=>by
  rw [ht,List.getElem?_append_left hi]
 refine ⟨fun i hi a ha=>?_,fun i l hl hi hlv=>?_⟩
 ·rw [K.be] at hi⊢
  obtain ⟨j,h1,h2⟩:=A.as i hi a ha
  exact ⟨j,(hat (List.getElem?_eq_some_iff.mp h1).1).mpr h1,h2⟩
 ·rw [K.be] at hi hlv⊢
  have:=K.nb i hi (List.getElem?_eq_some_iff.mp hl).1
  exact A.ad i l ((hat this).mp hl) hi hlv
theorem AI.lrn(A:AI asked s)(C:Core N M s){h q:Nat}{l:Int}{lc:List Int}(L:Lrn s s' h q l lc):AI asked s':=by
 have hlt:=(List.getElem?_eq_some_iff.mp L.hq).1
 have hql:=C.kb q (List.mem_of_getElem? L.hq)
 have hqt:(s.ro.take q).length=q:=by rw [List.length_take];lia
 refine ⟨fun i hi a ha=>?_,fun i x hx hi hlv=>?_⟩
 ·rw [L.be,List.length_take] at hi
  obtain ⟨j,h1,h2⟩:=A.as i (by exact (Nat.lt_min.mp ‹_›).2) a ha
  have hj:j<q:=(lvl_lt C.srt L.hq).mp (by lia)
  refine ⟨j,?_,by rw [L.be,lvl_take C.srt L.hq hj];exact h2⟩
  rw [L.ro,List.getElem?_append_left (by lia)]
  exact at_take h1 hj
 ·rw [L.be] at hi hlv⊢
  have hiq:=srt_take C.srt L.hq i hi
  have hne:i≠q:=fun e=>L.nq (e▸hi)
  have hlq:i<q:=by lia
  rw [L.ro,List.getElem?_append_left (by lia)] at hx
  obtain ⟨_,hx⟩:=take_at hx
  rw [lvl_take C.srt L.hq hlq] at hlv⊢
  exact A.ad i x hx (List.mem_of_mem_take hi) hlv
theorem AI.dcd(A:AI asked s)(C:Core N M s)(D:Dcd asked s s'):AI asked s':=by
 have hlv:∀{i:Nat},i<s.ro.length→lvl (s.be++[s.ro.length]) i=lvl s.be i:=fun {i} hi=>by
  rw [lvl_app,lvl_none (be:=[s.ro.length]) fun b hb=>by rw [List.mem_singleton.mp hb];exact hi];rfl
 have hlen:(s.be++[s.ro.length]).length=s.be.length+1:=by rw [List.length_append];rfl
 induction D with
 |true_ l hl hin=>
  refine ⟨fun i hi a ha=>?_,fun i x hx hi hv=>?_⟩
  ·have hi:i<(s.be++[s.ro.length]).length:=hi
   show ∃j,s.ro[j]?=some a∧lvl (s.be++[s.ro.length]) j≤i+1
   by_cases h:i<s.be.length
   ·obtain ⟨j,h1,h2⟩:=A.as i h a ha
    exact ⟨j,h1,by rw [hlv (List.getElem?_eq_some_iff.mp h1).1];exact h2⟩
   ·obtain rfl:i=s.be.length:=by lia
    rw [hl] at ha;cases ha
    obtain ⟨j,hj⟩:=List.mem_iff_getElem?.mp hin
    refine ⟨j,hj,?_⟩
    rw [hlv (List.getElem?_eq_some_iff.mp hj).1]
    exact Nat.le_succ_of_le lvl_le
  ·have hx:s.ro[i]?=some x:=hx
   have hil:=(List.getElem?_eq_some_iff.mp hx).1
   have hi:i∈s.be++[s.ro.length]:=hi
   have hi:i∈s.be:=by
    rcases List.mem_append.mp hi with hi|hi
    ·exact hi
    ·rw [List.mem_singleton.mp hi] at hil;lia
   have hv:lvl (s.be++[s.ro.length]) i≤asked.length:=hv
   show asked[lvl (s.be++[s.ro.length]) i-1]?=some x
   rw [hlv hil] at hv⊢
   exact A.ad i x hx hi hv
 |new l hfree hl=>
  have hlast:lvl (s.be++[s.ro.length]) s.ro.length=s.be.length+1:=by
   rw [lvl_all (be:=s.be++[s.ro.length]) fun b hb=>?_,hlen]
   rcases List.mem_append.mp hb with hb|hb
   ·exact C.kb b hb
   ·rw [List.mem_singleton.mp hb];exact Nat.le_refl _
  refine ⟨fun i hi a ha=>?_,fun i x hx hi hv=>?_⟩
  ·have hi:i<(s.be++[s.ro.length]).length:=hi
   show ∃j,(s.ro++[l])[j]?=some a∧lvl (s.be++[s.ro.length]) j≤i+1
   by_cases h:i<s.be.length
   ·obtain ⟨j,h1,h2⟩:=A.as i h a ha
    exact ⟨j,app_at h1,by rw [hlv (List.getElem?_eq_some_iff.mp h1).1];exact h2⟩
   ·obtain rfl:i=s.be.length:=by lia
    have:=hl (List.getElem?_eq_some_iff.mp ha).1
    rw [this] at ha;cases ha
    exact ⟨s.ro.length,List.getElem?_concat_length,by rw [hlast];exact Nat.le_refl _⟩
  ·have hi:i∈s.be++[s.ro.length]:=hi
   have hv:lvl (s.be++[s.ro.length]) i≤asked.length:=hv
   show asked[lvl (s.be++[s.ro.length]) i-1]?=some x
   rcases at_app hx with hx|⟨rfl,rfl⟩
   ·have hx:s.ro[i]?=some x:=hx
    have hil:=(List.getElem?_eq_some_iff.mp hx).1
    have hi:i∈s.be:=by
     rcases List.mem_append.mp hi with hi|hi
     ·exact hi
     ·rw [List.mem_singleton.mp hi] at hil;lia
    rw [hlv hil] at hv⊢
    exact A.ad i x hx hi hv
   ·show asked[lvl (s.be++[s.ro.length]) s.ro.length-1]?=_
    have hv:lvl (s.be++[s.ro.length]) s.ro.length≤asked.length:=hv
    rw [hlast] at hv⊢
    exact hl (by assumption)
end
section
variable{sp:Sp}{m:List V}{H:AH}{Q:V→AH→Prop}
theorem setd_ok{o:Addr}{es:List (Int×V)}{k:Int}{v d:V}(h:H o=some (.dct es))(e:get es k=some v)(q:Q v H):biW .setdef [.ref o,.int k,d] H Q:=by
 show ifS (H o) _
 exact ifD_mk h (by rw [e];exact q)
theorem pv_not{x:X}{b:Bool}(h:x.pv m H=some (.bool b)):(X.not x).pv m H=some (.bool (!b)):=pvb h rfl
theorem e_cmp2t{o1 o2:Cm}{x y z:X}{u v w:V}{b:Bool}(hx:x.pv m H=some u)(hy:y.pv m H=some v)(h:cmpV H o1 u v=some true)(hz:z.pv m H=some w)(h2:cmpV H o2 v w=some b)(q:Q (.bool b) H):(X.cmp2 o1 o2 x y z).ev sp m H Q:=by
 exact zw x _ _ hx (zw y _ _ hy (zg h (zw z _ _ hz (zg h2 q))))
theorem e_cmp2f{o1 o2:Cm}{x y z:X}{u v:V}(hx:x.pv m H=some u)(hy:y.pv m H=some v)(h:cmpV H o1 u v=some false)(q:Q (.bool false) H):(X.cmp2 o1 o2 x y z).ev sp m H Q:=by
 exact zw x _ _ hx (zw y _ _ hy (zg h q))
end
section
variable{n:Nat}{H:AH}{lay:Ro→Addr}{s:St}{a:Addr}{Q:V→AH→Prop}{N:Nat}{M:(Nat→Bool)→Prop}
structure Zer(M:(Nat→Bool)→Prop)(s s':St):Prop where
 be:s'.be=[]
 ref:s'.ref=s.ref
 lg:s'.lg=s.lg
 cl:s'.cl=s.cl
 bl:s'.bl=s.bl
 lim:s'.lim=s.lim
 rows:s'.rows=s.rows
 g:Cv M s∧WI s∧PR s s.seen→Cv M s'∧WI s'∧PR s' s'.seen
theorem c_zero(So:Sol H lay s)(ha:lay .ins=a)(C:Core N M s)(hN:N<1000)(q:∀H' lay' s',SF H lay s H' lay' s'→Zer M s s'→Core N M s'→Q .none H'):spN tabL (n+1) 4 [.ref a,.int 0] H Q:=by
 by_cases h:s.be=[]
 ·exact c_back0 (h:=0) So ha (by rw [h];exact Nat.le_refl _) (q H lay s (.refl So) ⟨h,rfl,rfl,rfl,rfl,rfl,rfl,id⟩ C)
 ·obtain ⟨p,hp⟩:∃p,s.be[0]?=some p:=⟨_,List.getElem?_eq_getElem (List.length_pos_iff.mpr h)⟩
  have hpm:=List.mem_of_getElem? hp
  exact c_back (h:=0) So ha C.td hN hp (C.kb p hpm) fun H' lay' kn li h T=>q _ _ _ h ⟨rfl,rfl,rfl,rfl,rfl,rfl,rfl,fun g=>⟨g.1.back C hp,⟨g.2.1.iff,g.2.1.nd⟩,g.2.2.back C hp (C.bs p hpm)⟩⟩ (C.back hp T)
structure Stb(N:Nat)(M:(Nat→Bool)→Prop)(s:St):Prop where
 c:Core N M s
 g:s.ref=false→Cv M s∧WI s∧PR s s.seen
 r:s.ref=true→(∀α,¬M α)∧s.lg.getLast?=some []
structure Fal(M:(Nat→Bool)→Prop)(asked:List Int)(s:St):Prop where
 sub:∀x∈s.bl,x∈asked
 nd:s.bl.Nodup
 sem:∀α,M α→¬∀x∈s.bl,ltr α x
 lg:(∃x∈s.bl,-x∈s.bl)∨∃c,s.lg.getLast?=some c∧Ord (s.bl.map fun x=> -x) c
structure Win(N:Nat)(asked:List Int)(s:St):Prop where
 ref:s.ref=false
 kn:∀k:Int,1≤k→k≤N→k∈ky s.kn
 all:∀l∈asked,l∈s.ro
 seen:s.seen=s.ro.length
structure Gr(N:Nat)(M:(Nat→Bool)→Prop)(n:Nat)(s s':St):Prop where
 lim:s'.lim=s.lim
 rows:s'.rows.length+n≤s.rows.length+300000
 lg:∃t,An3 (s'.lg=s.lg++t) (t.length+n≤300000) (∀c∈t,LgOK N M c)
theorem Gr.mono{N:Nat}{M:(Nat→Bool)→Prop}{k k':Nat}{s s':St}(g:Gr N M k s s')(h:k'≤k):Gr N M k' s s':=by
 obtain ⟨g1,g2,t,h1,h2,h4⟩:=g
 exact ⟨g1,by lia,t,h1,by lia,h4⟩
theorem Gr.same{N:Nat}{M:(Nat→Bool)→Prop}{k:Nat}{s s' s2:St}(g:Gr N M k s s')(e1:s2.lim=s'.lim)(e2:s2.rows.length=s'.rows.length)(e3:s2.lg=s'.lg):Gr N M k s s2:=by
 obtain ⟨g1,g2,t,h1,h2,h4⟩:=g
 exact ⟨e1.trans g1,by rw [e2];exact g2,t,e3.trans h1,h2,h4⟩
theorem Gr.snoc{N:Nat}{M:(Nat→Bool)→Prop}{k k':Nat}{s s' s2:St}{c:List Int}(g:Gr N M k s s')(e1:s2.lim=s'.lim)(e2:s2.rows.length≤s'.rows.length+1)(e3:s2.lg=s'.lg++[c])(hc:LgOK N M c)(h:k'<k):Gr N M k' s s2:=by
 obtain ⟨g1,g2,t,h1,h2,h4⟩:=g
 exact ⟨e1.trans g1,by lia,t++[c],by rw [e3,h1,List.append_assoc],by rw [List.length_append,List.length_singleton];lia,fun d hd=>(List.mem_append.mp hd).elim (h4 d) fun hd=>by rw [List.mem_singleton.mp hd];exact hc⟩
theorem Gr.lgl{N:Nat}{M:(Nat→Bool)→Prop}{k:Nat}{s s':St}(g:Gr N M k s s')(h:s.lg.length+400000<sz):s'.lg.length+100000<sz:=by
 obtain ⟨g1,g2,t,h1,h2,h4⟩:=g
 rw [h1,List.length_append];lia
noncomputable def mu(N:Nat)(asked:List Int)(s:St)(span:Nat):Nat:=(300-span)*1000+(243-score N s)*4+(asked.length-s.be.length)
theorem ord_nil:Ord [] []:=⟨List.nodup_nil,fun _=>Iff.rfl,List.Pairwise.nil⟩
theorem Stb.of(G:Good4 N M s)(h:s.ref=false):Stb N M s:=⟨G.c,fun _=>⟨G.cv,G.w,G.p⟩,fun h'=>by rw [h] at h';cases h'⟩
theorem blame_fal{s':St}{asked:List Int}{l:Int}{ds:List Int}(G:Good4 N M s)(hr:s.ref=false)(A:AI asked s)(hl:asked[s.be.length]?=some l)(hin: -l∈s.ro)(hB:Blm N M s l ds)(hor:(s'=s.wBl (l::ds)∧(∃x∈l::ds,-x∈l::ds))∨(∃c,s'=(s.wBl (l::ds)).addLog c∧Ord ((l::ds).map fun x=> -x) c)):Stb N M s'∧Fal M asked s':=by
 have hlt:=(List.getElem?_eq_some_iff.mp hl).1
 have hsub:∀x∈l::ds,x∈asked:=fun x hx=>by
  rcases List.mem_cons.mp hx with rfl|hx
  ·exact List.mem_of_getElem? hl
  ·obtain ⟨i,h1,h2,h3⟩:=hB.d1 x hx
   exact List.mem_of_getElem? (A.ad i x h1 h3 (Nat.le_trans lvl_le (Nat.le_of_lt hlt)))
 have hnd:(l::ds).Nodup:=by
  refine List.nodup_cons.mpr ⟨fun hm=>?_,List.Pairwise.imp (fun h e=>h (congrArg Int.natAbs e)) (List.pairwise_map.mp hB.d2)⟩
  refine nn fun hC=>?_
  obtain ⟨i,h1,_⟩:=hB.d1 l hm
  refine hC ?_
  exact G.c.td.no2 (List.mem_of_getElem? h1) hin
 rcases hor with ⟨rfl,hx⟩|⟨c,rfl,hO⟩
 ·exact ⟨⟨G.c.bl_,fun _=>⟨G.cv,⟨G.w.iff,G.w.nd⟩,G.p⟩,fun h'=>by rw [show s.ref=true from h'] at hr;cases hr⟩,hsub,hnd,hB.sem,.inl hx⟩
 ·refine ⟨⟨G.c.bl_.lg_,fun _=>⟨G.cv,⟨G.w.iff,G.w.nd⟩,G.p⟩,fun h'=>by rw [show s.ref=true from h'] at hr;cases hr⟩,hsub,hnd,hB.sem,.inr ⟨c,?_,hO⟩⟩
  show (s.lg++[c]).getLast?=_
  exact List.getLast?_concat
theorem mu_lt{A a b c d k:Nat}(h:A+(243-a)*4+c≤k)(ha:a≤242)(hb:b≤242)(hab:a<b)(hd:d≤3):A+(243-b)*4+d≤k-1:=by
 refine nn fun hC=>?_
 obtain ⟨x,hx⟩:=Nat.exists_eq_add_of_le (Nat.le_succ_of_le ha)
 obtain ⟨y,hy⟩:=Nat.exists_eq_add_of_le (Nat.le_succ_of_le hb)
 refine hC ?_
 rw [show 243=_ from hx,Nat.add_sub_cancel_left] at h
 rw [show 243=_ from hy,Nat.add_sub_cancel_left]
 have hyx:y<x:=Nat.lt_of_add_lt_add_left (Nat.lt_of_lt_of_eq (Nat.add_lt_add_right hab y) (hy.symm.trans hx))
 have h1:A+y*4+d<A+y*4+4:=Nat.add_lt_add_left (Nat.lt_succ_of_le hd) _
 have h2:A+y*4+4≤A+x*4:=by
  rw [Nat.add_assoc,←Nat.succ_mul]
  exact Nat.add_le_add_left (Nat.mul_le_mul_right 4 hyx) A
 exact Nat.le_sub_one_of_lt (Nat.lt_of_lt_of_le h1 (Nat.le_trans h2 (Nat.le_trans (Nat.le_add_right _ c) h)))
theorem mu_eq{A a b c d k:Nat}(h:A+(243-a)*4+c≤k)(hab:a≤b)(hd:d<c):A+(243-b)*4+d≤k-1:=by
 have:243-b≤243-a:=Nat.sub_le_sub_left hab _
 generalize 243-b=y at this⊢
 generalize 243-a=x at this h
 exact Nat.le_sub_one_of_lt (Nat.lt_of_lt_of_le (Nat.add_lt_add_of_le_of_lt (Nat.add_le_add_left (Nat.mul_le_mul_right 4 this) A) hd) h)
theorem mu_aux{span A B C D k:Nat}(h1:16≤span)(h2:span≤242)(h:(300-span)*1000+A*4+B≤k)(hC:C≤243)(hD:D≤3):(300-(span+span/2))*1000+C*4+D≤k-1:=by
 have h9:8≤span/2:=Nat.div_le_div_right (c:=2) h1
 have h4:300-(span+span/2)+1≤300-span:=by
  clear h
  generalize span/2=d at h9
  rw [Nat.sub_add_eq]
  exact Nat.sub_lt (Nat.sub_pos_of_lt (Nat.lt_of_le_of_lt h2 (by decide))) (Nat.lt_of_lt_of_le (by decide) h9)
 have h5:(300-(span+span/2))*1000+1*1000≤(300-span)*1000:=by
  rw [←Nat.add_mul];exact Nat.mul_le_mul_right _ h4
 have h6:C*4+D+1≤1*1000:=by lia
 have h7:(300-(span+span/2))*1000+(C*4+D+1)≤k:=Nat.le_trans (Nat.add_le_add_left h6 _) (Nat.le_trans h5 (Nat.le_trans (Nat.le_trans (Nat.le_add_right _ _) (Nat.le_add_right _ _)) h))
 have h8:(300-(span+span/2))*1000+C*4+D+1≤k:=by
  rw [Nat.add_assoc,Nat.add_assoc,←Nat.add_assoc (C*4)];exact h7
 exact Nat.le_sub_one_of_lt h8
theorem mu_le{N k:Nat}{asked:List Int}{s s':St}{span:Nat}(hs:score N s≤score N s')(hb:s'.be=s.be)(h:mu N asked s span≤k):mu N asked s' span≤k:=by
 unfold mu at h⊢
 rw [hb]
 exact Nat.le_trans (Nat.add_le_add_right (Nat.add_le_add_left (Nat.mul_le_mul_right _ (Nat.sub_le_sub_left hs _)) _) _) h
theorem mu_4{N k:Nat}{asked:List Int}{s:St}{span:Nat}(hs:score N s≤242)(h:mu N asked s span≤k):4≤k:=by
 unfold mu at h
 have h1:1≤243-score N s:=Nat.le_sub_of_add_le (Nat.add_comm 1 _▸Nat.succ_le_succ hs)
 exact Nat.le_trans (Nat.le_trans (Nat.mul_le_mul_right 4 h1) (Nat.le_add_left ..)) (Nat.le_trans (Nat.le_add_right ..) h)
theorem mu_top{N:Nat}{asked:List Int}{s:St}(h:asked.length-s.be.length≤3):mu N asked s 16≤300000:=by
 unfold mu
 exact Nat.le_trans (Nat.add_le_add (Nat.add_le_add_left (Nat.mul_le_mul_right 4 (Nat.sub_le 243 (score N s))) _) h) (by decide)
noncomputable def SolI(N:Nat)(M:(Nat→Bool)→Prop)(asked:List Int)(n:Nat)(s:St)(rested span:Nat)(met:V):Prop:=
 (met= .none∧s.ref=false∧Good4 N M s∧AI asked s∧s.bl=[]∧16≤span∧s.cl≤rested+score N s∧rested≤s.cl∧mu N asked s span≤n∧s.be.length+n≤300000)
 ∨(met= .none∧s.ref=true∧Stb N M s∧Fal M asked s)
 ∨(met= .bool true∧Stb N M s∧Win N asked s)
 ∨(met= .bool false∧Stb N M s∧Fal M asked s)
set_option maxHeartbeats 2000000 in
theorem c_solve(So:Sol H lay s)(ha:lay .ins=a)(Sb:Stb N M s)(hN:N≤5){ask:Addr}{asked:List Int}(hask:H ask=some (.lst (zs asked)))(nask:¬fp lay s ask)(hal:asked.length≤3)(hnz:∀l∈asked,l≠0∧l.natAbs≤N)(hrz:s.rows.length+400000<sz)(hlz:s.lg.length+400000<sz)
  (q1:∀H' lay' s',SF H lay s H' lay' s'→Stb N M s'→Win N asked s'→Gr N M 0 s s'→Q (.bool true) H')
  (q2:∀H' lay' s',SF H lay s H' lay' s'→Stb N M s'→Fal M asked s'→Gr N M 0 s s'→Q (.bool false) H')
  (q3:∀H' lay' s',SF H lay s H' lay' s'→Stb N M s'→Gr N M 0 s s'→s.lim=1→s.cl<s'.cl→Q .un H'):spX tabL (n+3) 18 [.ref a,.ref ask] H Q:=by
 have hN60:N<60:=by lia
 have hN1000:N<1000:=by lia
 refine ⟨rfl,zj (s_ex (cm_ok (xs:=[.c (.int 0)]) (P:=fun _ H=>_) So ha rfl (zv (zw (.c (.int 0)) (.int 0) _ rfl (zp (c_zero So ha Sb.c hN1000 fun H1 lay1 s1 h1 Z C1=>?_))))))⟩
 have ha1:=h1.ins ha
 have hask1:=So.out h1.2 hask nask
 refine zj (s_setE (e_tup (zp fun x hx=>attS_ok (h1.1.junk (o:= .tup []) hx) ha1 ?_)))
 have h2:SF H1 lay1 s1 ((H1.set x (.tup [])).set (lay1 .att) (.att (put (attL lay1 s1) 13 (.ref x)))) (up lay1 .bl x) (s1.wBl []):=n_bl h1.1 x hx []
 have hask2:=h1.1.out h2.2 hask1.1 hask1.2
 have h02:=h1.trans h2
 have ha2:=h02.ins ha
 generalize ((H1.set x (.tup [])).set (lay1 .att) (.att (put (attL lay1 s1) 13 (.ref x))))=H2 at h2 hask2 h02
 generalize up lay1 .bl x=lay2 at h2 hask2 h02 ha2
 refine zj (s_for (zw (.loc 1) (.ref ask) _ rfl (it_l hask2.1 ?_)))
 refine floop_ind (fun j m H'=>H'=H2∧∃z,m=[.ref a,.ref ask,z,.un,.un,.un,.un,.un]) _ (fun j v m H' K hv hI hK=>?_) (fun m H' hI=>?_) ⟨rfl,.un,rfl⟩
 ·obtain ⟨rfl,z,rfl⟩:=hI
  obtain ⟨l,hl,rfl⟩:=zs_at hv
  have hl0:=hnz l (List.mem_of_getElem? hl)
  refine nn fun hC=>?_
  obtain ⟨i,hi⟩:=C1.ht.get (v:=l.natAbs) (by exact na_1 (And.left ‹_›)) (by exact Int.ofNat_le.mpr (And.right ‹_›))
  refine hC ?_
  refine ⟨wq hask2.1,zj (s_ex (bm_d (h2.1.a_ ha2 rfl rfl) (h2.1.at_ .ht trivial) rfl (zv (zw _ (.int l.natAbs) _ (abs_pv rfl) (zv (zw (.c (.int 0)) (.int 0) _ rfl (zp (setd_ok (h2.1.at_ .ht trivial) hi (zy (hK _ _ ⟨rfl,_,rfl⟩))))))))))⟩
 obtain ⟨rfl,z,rfl⟩:=hI
 refine ⟨wq hask2.1,?_⟩
 refine zj (s_asgN (zv (zw _ (.int s1.cl) _ (h2.1.a_ ha2 rfl rfl) (zv (zw _ (.int s1.cl) _ (h2.1.a_ ha2 rfl rfl) (zv (zw (.c (.int 16)) (.int 16) _ rfl (zv (zw (.c .none) .none _ rfl (zp ⟨rfl,?_⟩))))))))))
 have hal3:∀k,asked.length-k≤3:=fun k=>by exact Nat.le_trans (Nat.sub_le ..) ‹_›
 have hstart:SolI N M asked 300000 (s1.wBl []) s1.cl 16 .none:=by
  generalize hr:s.ref=zq;induction zq with
  |false=>
   obtain ⟨g1,g2,g3⟩:=Z.g (Sb.g hr)
   refine .inl ⟨rfl,Z.ref.trans hr,⟨C1.bl_,g1,⟨g2.iff,g2.nd⟩,g3⟩,.nil Z.be,rfl,Nat.le_refl _,Nat.le_add_right _ _,Nat.le_refl _,?_,?_⟩
   ·exact mu_top (hal3 (s1.wBl []).be.length)
   ·show s1.be.length+300000≤_
    rw [Z.be];exact Nat.le_refl _
  |true=>
   obtain ⟨r1,r2⟩:=Sb.r hr
   refine .inr (.inl ⟨rfl,Z.ref.trans hr,⟨C1.bl_,fun h=>?_,fun _=>⟨r1,by show s1.lg.getLast?=_;rw [Z.lg];exact r2⟩⟩,fun x hx=>(by cases hx),List.nodup_nil,fun α hα=>absurd hα (r1 α),.inr ⟨[],by show s1.lg.getLast?=_;rw [Z.lg];exact r2,ord_nil⟩⟩)
   rw [show (s1.wBl []).ref=true from Z.ref.trans hr] at h;cases h
 have hgr:Gr N M 300000 s (s1.wBl []):=⟨Z.lim,by show s1.rows.length+_≤_;rw [Z.rows];exact Nat.le_refl _,[],by show s1.lg=_;rw [Z.lg,List.append_nil],Nat.le_refl _,fun c hc=>by cases hc⟩
 refine zj (s_whK (fun n m H'=>Ex6 fun lay' s' rested span met z7=>An4 (m=[.ref a,.ref ask,z,.int s1.cl,.int (rested:Nat),.int (span:Nat),met,z7]) (SF H lay s H' lay' s') (Gr N M n s s') (SolI N M asked n s' rested span met)) 300000 ⟨lay2,_,s1.cl,16,.none,.un,rfl,h02,hgr,hstart⟩ fun k m H3 KW hI hKW=>?_)
 clear hstart hgr hask2 h2 h02 ha2 hask1 ha1 h1
 obtain ⟨lay3,s3,rested,span,met,z7,rfl,h3,g3,hI⟩:=hI
 have ha3:=h3.ins ha
 have hask3:=So.out h3.2 hask nask
 have hGr0:Gr N M 0 s s3:=g3.mono (Nat.zero_le _)
 have hcond:∀{b:Bool},isV met .none=some b→(X.and (.cmp .is (.loc 6) (.c .none)) (.and (.not (.attr (.loc 0) 12)) (.c (.bool true)))).pv [.ref a,.ref ask,z,.int s1.cl,.int (rested:Nat),.int (span:Nat),met,z7] H3=some (.bool (b&&(!s3.ref&&true))):=fun {b} h=>by
  refine pv_and (pvb (x:=met) ?_ (pvb rfl (pcm h))) fun _=>pv_and (pv_not (h3.1.a_ ha3 rfl rfl)) fun _=>rfl
  induction met<;>first|rfl|cases h
 rcases hI with ⟨rfl,hr,G,A,hbl,hsp,hc1,hc2,hmu,hbn⟩|⟨rfl,hr,S3,F⟩|⟨rfl,S3,W⟩|⟨rfl,S3,F⟩
 rotate_left
 ·exact ⟨false,by rw [hcond rfl,hr];rfl,(fun h=>by cases h),fun _=>zj (s_ret (zw _ (.bool false) _ (pvb rfl (pvb rfl (pcm rfl))) (q2 _ _ _ h3 S3 F hGr0)))⟩
 ·exact ⟨false,hcond rfl,(fun h=>by cases h),fun _=>zj (s_ret (zw _ (.bool true) _ (pvb rfl (pvb rfl (pcm rfl))) (q1 _ _ _ h3 S3 W hGr0)))⟩
 ·exact ⟨false,hcond rfl,(fun h=>by cases h),fun _=>zj (s_ret (zw _ (.bool false) _ (pvb rfl (pvb rfl (pcm rfl))) (q2 _ _ _ h3 S3 F hGr0)))⟩
 refine ⟨true,by rw [hcond rfl,hr];rfl,fun _=>?_,fun h=>by cases h⟩
 have hsc:=score_bd (s:=s3) hN
 have hb3:=hal3 s3.be.length
 have hr3:s3.rows.length+100000<sz:=by have:=g3.rows;lia
 have hl3:=g3.lgl hlz
 have hk4:=mu_4 hsc hmu
 have hk0:0<k:=Nat.lt_of_lt_of_le (by decide) hk4
 have hkl:k-1<k:=Nat.sub_lt hk0 Nat.one_pos
 have hke:1+(k-1)=k:=by rw [Nat.add_comm];exact Nat.sub_add_cancel hk0
 have hb3z:s3.be.length+100000<sz:=by
  have:(600000:Nat)<sz:=by decide
  lia
 refine zj (vj (cm_ok (xs:=[]) (P:=fun v H=>_) h3.1 ha3 rfl (zp (c_spread h3.1 ha3 G.c hN1000 G.cv G.w G.p (by lia) (fun H4 lay4 s4 h4 K4 C4 cv4 W4 P4 hs4=>?_) fun H4 lay4 s4 kk p c h4 K4 C4 cv4 W4 P4 hp hkk hall hx4=>?_))))
 ·--no clash
  have h04:=h3.trans h4
  have ha4:=h04.ins ha
  have hask4:=So.out h04.2 hask nask
  have A4:=A.kp K4
  have hs34:=K4.score (N:=N)
  have hsc4:=score_bd (s:=s4) hN
  have hr4:=K4.ref.trans hr
  have hG4:Good4 N M s4:=⟨C4,cv4,W4,P4⟩
  have g4:Gr N M k s s4:=g3.same K4.lim K4.rl K4.lg
  have hmu4:=mu_le hs34 K4.be hmu
  refine zj (s_ite (b:=false) (pvb rfl (pvb rfl (pcm rfl))) (fun h=>by cases h) fun _=>?_)
  suffices hrest:(S.seq (.ite (.cmp .ge (.bin .sub (.attr (.loc 0) 14) (.loc 4)) (.loc 5)) (.seq (.asgN [4,5] [(.attr (.loc 0) 14),(.bin .add (.loc 5) (.bin .fdiv (.loc 5) (.c (.int 2))))]) (.seq (.ex (.callM 4 (.loc 0) [(.c (.int 0))])) .skip)) (.seq (.asg 6 (.callM 17 (.loc 0) [(.loc 1)])) .skip)) .skip).wp (spN tabL (n+3)) [.ref a,.ref ask,z,.int s1.cl,.int (rested:Nat),.int (span:Nat),.none,.int (-1)] H4 (fun m H=>S.skip.wp (spN tabL (n+3)) m H (fun m H=>S.skip.wp (spN tabL (n+3)) m H KW Q) Q) Q by
   have hlv:(X.attr (.loc 0) 15).pv [.ref a,.ref ask,z,.int s1.cl,.int (rested:Nat),.int (span:Nat),.none,.int (-1)] H4=some (.int s4.lim):=h04.1.a_ ha4 rfl rfl
   rcases C4.lim with hlim|hlim
   ·exact zj (s_iteE (e_cmp2f (u:= .int 0) (v:= .int s4.lim) rfl hlv (by rw [hlim];rfl) hrest))
   ·rw [hlim] at hlv
    refine zj (s_iteE (e_cmp2t (u:= .int 0) (v:= .int 1) (b:=!decide ((s4.cl:Int)-(s1.cl:Int)<1)) rfl hlv rfl (pvb (h04.1.a_ ha4 rfl rfl) (pvb rfl rfl)) rfl ?_))
    generalize hd:decide ((s4.cl:Int)-(s1.cl:Int)<1)=zq;induction zq with
    |true=>exact hrest
    |false=>
     have hd:=of_decide_eq_false hd
     exact zj (zw _ (.int 1) _ hlv (zg rfl ⟨by decide,q3 _ _ _ h04 (Stb.of hG4 hr4) (g4.mono (Nat.zero_le _)) (g4.lim.symm.trans hlim) (by have:=Z.cl;lia)⟩))
  refine zj (s_ite (b:=!decide (((s4.cl:Int)-(rested:Int))<(span:Int))) (pvb (pvb (h04.1.a_ ha4 rfl rfl) (pvb rfl rfl)) (pvb rfl (pcm rfl))) (fun hd=>?_) fun hd=>?_)
  ·--begun anew
   have hd:¬((s4.cl:Int)-(rested:Int))<(span:Int):=of_decide_eq_false (by rwa [Bool.not_eq_true'] at hd)
   refine zj (s_asgN (zv (zw _ (.int s4.cl) _ (h04.1.a_ ha4 rfl rfl) (zv (zw _ (.int (span+span/2:Nat)) _ (pvb rfl (pvb (pvb rfl (pvb rfl rfl)) rfl)) (zp ⟨rfl,?_⟩))))))
   refine zj (s_ex (cm_ok (xs:=[.c (.int 0)]) (P:=fun _ H=>_) h04.1 ha4 rfl (zv (zw (.c (.int 0)) (.int 0) _ rfl (zp (c_zero h04.1 ha4 C4 hN1000 fun H5 lay5 s5 h5 Z5 C5=>?_))))))
   refine nn fun hC=>?_
   obtain ⟨g5a,g5b,g5c⟩:=Z5.g ⟨cv4,W4,P4⟩
   refine hC ?_
   have hsc5:=score_bd (s:=s5) hN
   have hcl:s4.cl=s3.cl:=K4.cl
   have hspan:span≤242:=by lia
   have hb5:=hal3 s5.be.length
   have hk1:(k-1)+1=k:=by exact Nat.sub_add_cancel (Nat.le_trans (by decide) ‹4≤_›)
   refine zy (zy (zy (zy (hKW (k-1) _ _ hkl ⟨lay5,s5,s4.cl,span+span/2,.none,_,rfl,h04.trans h5,(g4.same Z5.lim (congrArg _ Z5.rows) Z5.lg).mono (Nat.sub_le ..),.inl ⟨rfl,Z5.ref.trans hr4,⟨C5,g5a,g5b,g5c⟩,.nil Z5.be,Z5.bl.trans (K4.bl.trans hbl),by lia,by rw [Z5.cl];exact Nat.le_add_right _ _,by rw [Z5.cl];exact Nat.le_refl _,?_,by rw [Z5.be];show 0+_≤_;lia⟩⟩))))
   exact mu_aux hsp hspan hmu4 (Nat.sub_le ..) hb5
  ·--on
   refine zj (vj (cm_ok (xs:=[.loc 1]) (P:=fun v H=>_) h04.1 ha4 rfl (zv (zw (.loc 1) (.ref ask) _ rfl (zp (c_decide h04.1 ha4 hG4 hN60 hs4 hask4.1 hask4.2 hnz (by rw [K4.lg];lia) (by rw [K4.be];lia) (fun H5 lay5 s5 ds l hl hin h5 hB hor=>?_) (fun H5 h5 hge hkn=>?_) fun H5 s5 h5 D G5=>?_))))))
   ·refine nn fun hC=>?_
    obtain ⟨S5,F5⟩:=blame_fal hG4 hr4 A4 hl hin hB hor
    refine hC ?_
    have hg5:Gr N M 0 s s5:=by
     rcases hor with ⟨rfl,_⟩|⟨c,rfl,hO⟩
     ·exact (g4.same (s2:=s4.wBl (l::ds)) rfl rfl rfl).mono (Nat.zero_le _)
     ·refine g4.snoc rfl (Nat.le_succ _) rfl ?_ hk0
      ·skip
       have hr:∀x∈l::ds,x≠0∧x.natAbs≤N:=fun x hx=>by
        rcases List.mem_cons.mp hx with rfl|hx
        ·exact hnz _ (List.mem_of_getElem? hl)
        ·obtain ⟨i,h7,_⟩:=hB.d1 x hx
         exact C4.td.nz _ (List.mem_of_getElem? h7)
       have hcz:∀y∈c,y≠0∧y.natAbs≤N:=fun y hy=>by
        obtain ⟨x,hx,rfl⟩:=List.mem_map.mp ((hO.mem _).mp hy)
        exact nz_p (hr x hx)
       refine ⟨⟨hcz,lits_len hO.nd hcz⟩,fun α hα=>?_⟩
       apply Classical.byContradiction
       intro hns
       refine hB.sem α hα fun x hx=>Classical.byContradiction fun hx2=>hns ⟨-x,(hO.mem _).mpr (List.mem_map_of_mem hx),(ltr_neg (hr x hx).1).mpr hx2⟩
    exact zy (zy (zy (zy (hKW 0 _ _ hk0 ⟨lay5,s5,rested,span,.bool false,_,rfl,h04.trans h5,hg5,.inr (.inr (.inr ⟨rfl,S5,F5⟩))⟩))))
   ·have hW:Win N asked s4:=⟨hr4,hkn,fun l hl=>?_,hs4⟩
    ·exact zy (zy (zy (zy (hKW 0 _ _ hk0 ⟨lay4,s4,rested,span,.bool true,_,rfl,h04.trans h5,(g4.mono (Nat.zero_le _)),.inr (.inr (.inl ⟨rfl,Stb.of hG4 hr4,hW⟩))⟩))))
    ·obtain ⟨i,hi⟩:=List.mem_iff_getElem?.mp hl
     have:=(List.getElem?_eq_some_iff.mp hi).1
     obtain ⟨j,hj,_⟩:=A4.as i (by exact Nat.lt_of_lt_of_le ‹_› ‹_›) l hi
     exact List.mem_of_getElem? hj
   ·have hds:=D.score C4 G5.c
    have hsc5:=score_bd (s:=s5) hN
    have hb5:=hal3 s5.be.length
    have e5:s5.ref=s4.ref∧s5.bl=s4.bl∧s5.cl=s4.cl∧s5.rows=s4.rows∧s5.lg=s4.lg∧s5.be.length=s4.be.length+1∧s5.lim=s4.lim:=by
     induction D
     ·exact ⟨rfl,rfl,rfl,rfl,rfl,by show (s4.be++[_]).length=_;rw [List.length_append];rfl,rfl⟩
     ·exact ⟨rfl,rfl,rfl,rfl,rfl,by show (s4.be++[_]).length=_;rw [List.length_append];rfl,rfl⟩
    refine nn fun hC=>?_
    obtain ⟨e1,e2,e3,e4,e6,e7,e8⟩:=e5
    refine hC ?_
    have hcl:s4.cl=s3.cl:=K4.cl
    have hbe:s4.be=s3.be:=K4.be
    refine zy (zy (zy (zy (hKW (k-1) _ _ hkl ⟨lay4,s5,rested,span,.none,_,rfl,h04.trans h5,(g4.same e8 (congrArg _ e4) e6).mono (Nat.sub_le ..),.inl ⟨rfl,e1.trans hr4,G5,A4.dcd C4 D,e2.trans (K4.bl.trans hbl),hsp,?_,by rw [e3];lia,?_,by rw [e7,hbe,Nat.add_assoc,hke];exact hbn⟩⟩))))
    ·rw [e3,hcl]
     rcases hds with ⟨h6,_⟩|h6<;>lia
    ·unfold mu at hmu4⊢
     rw [e7]
     rcases hds with ⟨h6,h7,h8⟩|h6
     ·exact mu_eq hmu4 h6 (sub_s h8)
     ·exact mu_lt hmu4 hsc4 hsc5 h6 (by exact Nat.le_trans (Nat.sub_le ..) ‹_›)
 ·--a clash
  have h04:=h3.trans h4
  have ha4:=h04.ins ha
  have A4:=A.kp K4
  have hs34:=K4.score (N:=N)
  have hsc4:=score_bd (s:=s4) hN
  have hr4:=K4.ref.trans hr
  have g4:Gr N M k s s4:=g3.same K4.lim K4.rl K4.lg
  have hmu4:=mu_le hs34 K4.be hmu
  have hcl:s4.cl=s3.cl:=K4.cl
  have hbe:s4.be=s3.be:=K4.be
  have hge:(X.cmp .ge (.loc 7) (.c (.int 0))).pv [.ref a,.ref ask,z,.int s1.cl,.int (rested:Nat),.int (span:Nat),.none,.int kk] H4=some (.bool true):=by
   refine pvb rfl (pvb rfl (pcm ?_))
   show some (!decide ((kk:Int)<0))=_
   rw [decide_eq_false (by lia)];rfl
  refine zj (s_ite hge (fun _=>?_) fun h=>by cases h)
  refine zj (s_ex (cm_ok (xs:=[.loc 7]) (P:=fun _ H=>_) h04.1 ha4 rfl (zv (zw (.loc 7) (.int kk) _ rfl (zp (c_learn h04.1 ha4 C4 hN60 cv4 W4 P4 hp hkk hall hx4 (by rw [K4.rl];lia) (by rw [K4.lg];lia) (fun H5 lay5 h5 hb0 hno=>?_) fun H5 lay5 s5 h q u lc h5 L G5 hlc=>?_))))))
  ·have hlast:(((s4.wCl (s4.cl+1)).wRef true).addLog []).lg.getLast?=some []:=by
    show (s4.lg++[[]]).getLast?=_
    exact List.getLast?_concat
   have hbl4:(((s4.wCl (s4.cl+1)).wRef true).addLog []).bl=[]:=K4.bl.trans hbl
   refine zy (zy (hKW 0 _ _ hk0 ⟨lay5,_,rested,span,.none,_,rfl,h04.trans h5,g4.snoc rfl (Nat.le_succ _) rfl (lgE hno) hk0,.inr (.inl ⟨rfl,rfl,⟨C4.cl_.ref_.lg_,fun h=>(by cases h),fun _=>⟨hno,hlast⟩⟩,?_,?_,fun α hα=>absurd hα (hno α),.inr ⟨[],hlast,?_⟩⟩)⟩))
   ·intro x hx;rw [hbl4] at hx;cases hx
   ·rw [hbl4];exact List.nodup_nil
   ·rw [hbl4];exact ord_nil
  ·have hsl:=L.score C4 G5.c
   have hsc5:=score_bd (s:=s5) hN
   have hb5:=hal3 s5.be.length
   have hbl5:s5.be.length≤s4.be.length:=by rw [L.be,List.length_take];exact Nat.min_le_right ..
   refine zy (zy (hKW (k-1) _ _ hkl ⟨lay5,s5,rested,span,.none,_,rfl,h04.trans h5,g4.snoc L.lim (by have:=L.rl;assumption) L.lg hlc hkl,.inl ⟨rfl,L.ref.trans hr4,G5,A4.lrn C4 L,L.bl.trans (K4.bl.trans hbl),hsp,by rw [L.cl,hcl];lia,by rw [L.cl,hcl];exact Nat.le_succ_of_le ‹_›,?_,by rw [hbe] at hbl5;exact Nat.le_trans (Nat.add_le_add hbl5 (Nat.sub_le ..)) hbn⟩⟩))
   unfold mu at hmu4⊢
   exact mu_lt hmu4 hsc4 hsc5 hsl (by assumption)
end
section
variable{N:Nat}{M M':(Nat→Bool)→Prop}{s:St}
theorem Core.mono(C:Core N M s)(h:∀α,M' α→M α):Core N M' s:=⟨C.td,C.he,C.ca,C.srt,C.bs,C.sl,C.rk,fun c hc α hα=>C.rM c hc α (h α hα),fun i l hl h0 α hα=>C.zM i l hl h0 α (h α hα),C.ht,C.wn,C.wr,C.lim⟩
theorem mem_says{H:AH}{c:List Int}:memL H (c.map (sayV s)) (.bool true)=some (decide (∃x∈c,sayV s x= .bool true)):=by
 have hrd:∀x,∃d,rd H 2 (sayV s x)=some d∧(PyData.eqv d (.bool true)=decide (sayV s x= .bool true)):=fun x=>by
  rcases say_kinds s x with e|e|e<;>rw [e]
  ·exact ⟨.bool true,rfl,rfl⟩
  ·exact ⟨.bool false,rfl,rfl⟩
  ·exact ⟨.none,rfl,rfl⟩
 have h1:∃ds,wv ((c.map (sayV s)).map (rd H 2))=some ds∧(ds.any fun y=>PyData.eqv y (.bool true))=decide (∃x∈c,sayV s x= .bool true):=by
  induction c with
  |nil=>exact ⟨[],rfl,by simp⟩
  |cons x c ih=>
   refine nn fun hC=>?_
   obtain ⟨ds,h2,h3⟩:=ih
   obtain ⟨d,h4,h5⟩:=hrd x
   refine hC ?_
   refine ⟨d::ds,?_,?_⟩
   ·rw [List.map_cons,List.map_cons,h4]
    show (wv ((c.map (sayV s)).map (rd H 2))).map (d::·)=_
    rw [h2];rfl
   ·rw [List.any_cons,h3,h5,←Bool.decide_or]
    apply decide_eq_decide.mpr
    simp
 obtain ⟨ds,h2,h3⟩:=h1
 unfold memL
 rw [h2]
 show some (ds.any fun y=>PyData.eqv y (.bool true))=_
 rw [h3]
end
section
variable{n:Nat}{H:AH}{lay:Ro→Addr}{s:St}{a:Addr}{Q:V→AH→Prop}{N:Nat}{M:(Nat→Bool)→Prop}
structure Gr1(N:Nat)(M:(Nat→Bool)→Prop)(s s':St):Prop where
 lim:s'.lim=s.lim
 rows:s'.rows.length≤s.rows.length+1
 lg:∃t,An3 (s'.lg=s.lg++t) (t.length≤1) (∀c∈t,LgOK N M c)
set_option maxHeartbeats 2000000 in
theorem c_addc(So:Sol H lay s)(ha:lay .ins=a)(Sb:Stb N M s)(hN:N≤5){b:Addr}{o:O}{l:List Int}(hb:H b=some o)(ho:o= .lst (zs l)∨o= .tup (zs l))(nb:¬fp lay s b)(hnz:∀x∈l,x≠0∧x.natAbs≤N)(hlen:l.length<64)(hrz:s.rows.length+2<sz)(hlz:s.lg.length+2<sz)
  (q:∀H' lay' s',SF H lay s H' lay' s'→Stb N (fun α=>M α∧Sat α l) s'→Gr1 N (fun α=>M α∧Sat α l) s s'→Q (.bool (!s'.ref)) H'):spN tabL (n+2) 6 [.ref a,.ref b] H Q:=by
 have hN1000:N<1000:=by lia
 refine sp_go rfl rfl (zj (s_ex (cm_ok (xs:=[.c (.int 0)]) (P:=fun _ H=>_) So ha rfl (zv (zw (.c (.int 0)) (.int 0) _ rfl (zp (c_zero So ha Sb.c hN1000 fun H1 lay1 s1 h1 Z C1=>?_)))))))
 have ha1:=h1.ins ha
 have hb1:=So.out h1.2 hb nb
 have hz0:∀{i:Nat},lvl s1.be i=0:=fun {i}=>by rw [Z.be];rfl
 have hmem:∀{x:Int},x∈s1.ro→∀α,M α→ltr α x:=fun {x} hx α hα=>by
  obtain ⟨i,hi⟩:=List.mem_iff_getElem?.mp hx
  exact C1.zM i x hi hz0 α hα
 have C1':Core N (fun α=>M α∧Sat α l) s1:=C1.mono fun α h=>h.1
 have hnone:∀H2 r,Ext H1 H2→(s.ref=true∨(∀α,(∀x∈s1.ro,ltr α x)→Sat α l))→r=!s1.ref→Q (.bool r) H2:=fun H2 r E hor hr=>by
  subst hr
  refine q _ _ _ (h1.trans (E.sf h1.1)) ⟨C1',fun h=>?_,fun h=>?_⟩ ⟨Z.lim,by rw [Z.rows];exact Nat.le_succ _,[],by rw [Z.lg,List.append_nil],Nat.zero_le _,fun c hc=>by cases hc⟩
  ·obtain ⟨g1,g2,g3⟩:=Z.g (Sb.g (Z.ref▸h))
   refine ⟨fun α h1 h2=>⟨g1 α h1 h2,?_⟩,g2,g3⟩
   rcases hor with h'|h'
   ·rw [←Z.ref,h] at h';cases h'
   ·exact h' α fun x hx=>by
     obtain ⟨i,hi⟩:=List.mem_iff_getElem?.mp hx
     exact h2 i x hi hz0
  ·obtain ⟨r1,r2⟩:=Sb.r (Z.ref▸h)
   exact ⟨fun α h=>r1 α h.1,by rw [Z.lg];exact r2⟩
 have hheats:∀{H2:AH} {v2 v3:V} {P:List V→AH→Prop} {R:V→AH→Prop},Ext H1 H2→(∀z,P [.ref a,.ref b,v2,z,.un] H2)→(S.for_ 3 (.src (.loc 1)) (.seq (.ex (.bm .setdef (.attr (.loc 0) 9) [(.bi .abs [(.loc 3)]),(.c (.int 0))])) .skip)).wp (spN tabL (n+1)) [.ref a,.ref b,v2,.un,.un] H2 P R:=fun {H2 v2 v3 P R} E hP=>by
  have hb2:H2 b=some o:=E _ _ hb1.1
  have So2:=(E.sf h1.1).1
  refine s_for (zw (.loc 1) (.ref b) _ rfl (it_lt hb2 ho ?_))
  refine floop_ind (fun j m H'=>H'=H2∧∃z,m=[.ref a,.ref b,v2,z,.un]) _ (fun j v m H' K hv hI hK=>?_) (fun m H' hI=>?_) ⟨rfl,.un,rfl⟩
  ·obtain ⟨rfl,z,rfl⟩:=hI
   obtain ⟨x,hx,rfl⟩:=zs_at hv
   have hx0:=hnz x (List.mem_of_getElem? hx)
   refine nn fun hC=>?_
   obtain ⟨i,hi⟩:=C1.ht.get (v:=x.natAbs) (by exact na_1 (And.left ‹_›)) (by exact Int.ofNat_le.mpr (And.right ‹_›))
   refine hC ?_
   exact ⟨see_lt hb2 ho,zj (s_ex (bm_d (So2.a_ ha1 rfl rfl) (So2.at_ .ht trivial) rfl (zv (zw _ (.int x.natAbs) _ (abs_pv rfl) (zv (zw (.c (.int 0)) (.int 0) _ rfl (zp (setd_ok (So2.at_ .ht trivial) hi (zy (hK _ _ ⟨rfl,_,rfl⟩))))))))))⟩
  ·obtain ⟨rfl,z,rfl⟩:=hI
   exact ⟨see_lt hb2 ho,hP z⟩
 refine zj (vj (e_callG (zv (zw (.loc 1) (.ref b) _ rfl (zp (c_ordered hb1.1 ho (fun x hx=>(hnz x hx).1) hlen (fun H2 E2 hbad=>?_) fun H2 y c E2 hy hy' hO=>?_))))))
 ·refine zj (hheats (v3:= .un) E2 fun z=>?_)
  have So2:=(E2.sf h1.1).1
  refine zj (s_ite (b:=true) ?_ (fun _=>?_) fun h=>by cases h)
  ·exact pvb (pvb (pvb rfl (pvb rfl (pcm rfl))) rfl) rfl
  ·refine zj (s_ret (zw _ (.bool (!s1.ref)) _ (pv_not (So2.a_ ha1 rfl rfl)) (hnone H2 _ E2 (.inr fun α _=>?_) rfl)))
   obtain ⟨x,h7,h8⟩:=hbad
   by_cases ht:ltr α x
   ·exact ⟨x,h7,ht⟩
   ·exact ⟨-x,h8,(ltr_neg (hnz x h7).1).mpr ht⟩
 ·refine zj (hheats (v3:= .un) E2 fun z=>?_)
  have h2:=E2.sf h1.1
  have So2:=h2.1
  refine zj (s_iteE (e_or (zw _ (.bool false) _ (pvb rfl (pvb rfl (pcm rfl))) (e_or (zw _ (.bool s1.ref) _ (So2.a_ ha1 rfl rfl) ?_)))))
  have hcz:∀x∈c,x≠0∧x.natAbs≤N:=fun x hx=>hnz x ((hO.mem x).mp hx)
  have hcl:c.length≤N:=lits_len hO.nd hcz
  have hsz:(1000:Nat)<sz:=by decide
  generalize hr:s1.ref=zq;induction zq with
  |true=>
   refine (?_:(S.seq (.ret (.not (.attr (.loc 0) 12))) .skip).wp (spN tabL (n+1)) [.ref a,.ref b,.ref y,z,.un] H2 (fun _ _=>True) (rt Q))
   exact zj (s_ret (zw _ (.bool (!s1.ref)) _ (pv_not (So2.a_ ha1 rfl rfl)) (hnone H2 _ E2 (.inl (Z.ref▸hr)) rfl)))
  |false=>
   have hr0:s.ref=false:=Z.ref▸hr
   obtain ⟨cv,W,P⟩:=Z.g (Sb.g hr0)
   refine e_or (e_cmp (zw (.c (.bool true)) (.bool true) _ rfl (e_lc (zw (.loc 2) (.ref y) _ rfl (it_lt (l:=zs c) hy' (.inr rfl) ?_)))))
   refine cloop_ind (fun i acc H'=>H'=H2∧acc=(c.take i).map (sayV s1)) _ (fun i w acc H' K' hw hI hK'=>?_) (fun acc H' hI=>?_) ⟨rfl,rfl⟩
   ·obtain ⟨rfl,rfl⟩:=hI
    obtain ⟨x,hx,rfl⟩:=zs_at hw
    have hic:=(List.getElem?_eq_some_iff.mp hx).1
    refine ⟨see_tup hy',pvT (cm_ok (xs:=[.loc 5]) (P:=fun v H=>_∧_) So2 ha1 rfl (zv (zw (.loc 5) (.int x) _ rfl (zp (c_says So2 ha1 C1.td.knOK ⟨?_,hK' _ _ ⟨rfl,?_⟩⟩)))))⟩
    ·rw [List.length_map,List.length_take];lia
    ·rw [List.take_add_one,hx,List.map_append];rfl
   ·obtain ⟨rfl,rfl⟩:=hI
    rw [wd,List.take_length]
    refine ⟨see_tup hy',fun w hw=>?_⟩
    refine cmpW_i (b:=decide (∃x∈c,sayV s1 x= .bool true)) ?_ ?_
    ·show (AH.see _ w).bind _=_
     rw [wq (l:=c.map (sayV s1)) zx]
     exact mem_says
    have h3:=E2.new (o:= .lst (c.map (sayV s1))) (E2.none hw)
    have hy3:(H'.set w (.lst (c.map (sayV s1)))) y=some (.tup (zs c)):=by rw [zu fun e=>by rw [e] at hy';rw [show H' w=none from hw] at hy';cases hy'];exact hy'
    have So3:=(h3.sf h1.1).1
    by_cases hin:∃x∈c,sayV s1 x= .bool true
    ·rw [decide_eq_true hin]
     refine (?_:(S.seq (.ret (.not (.attr (.loc 0) 12))) .skip).wp (spN tabL (n+1)) [.ref a,.ref b,.ref y,z,.un] _ (fun _ _=>True) (rt Q))
     refine zj (s_ret (zw _ (.bool (!s1.ref)) _ (pv_not (So3.a_ ha1 rfl rfl)) (hnone _ _ h3 (.inr fun α hα=>?_) rfl)))
     obtain ⟨x,h7,h8⟩:=hin
     exact ⟨x,(hO.mem x).mp h7,hα x ((C1.td.say_t (hcz x h7).1).mp h8)⟩
    rw [decide_eq_false hin]
    refine (?_:(S.seq (.asg 4 (.lcomp [true,false,false,false,false] (.src (.loc 2)) (.cmp .is (.callM 2 (.loc 0) [(.loc 5)]) (.c .none)) (.emit (.loc 5)))) _).wp (spN tabL (n+1)) [.ref a,.ref b,.ref y,z,.un] _ _ (rt Q))
    refine zj (vj (e_lc (zw (.loc 2) (.ref y) _ rfl (it_lt (l:=zs c) hy3 (.inr rfl) ?_))))
    refine cloop_ind (fun i acc H'=>H'=_∧acc=zs ((c.take i).filter fun x=>decide (sayV s1 x= .none))) _ (fun i v acc H4 K' hw hI hK'=>?_) (fun acc H4 hI=>?_) ⟨rfl,rfl⟩
    ·obtain ⟨rfl,rfl⟩:=hI
     obtain ⟨x,hx,rfl⟩:=zs_at hw
     have hic:=(List.getElem?_eq_some_iff.mp hx).1
     have hle:(zs ((c.take i).filter fun x=>decide (sayV s1 x= .none))).length<sz:=by
      rw [wd]
      have h7:=List.length_filter_le (fun x=>decide (sayV s1 x= .none)) (c.take i)
      rw [List.length_take] at h7
      lia
     refine ⟨see_tup hy3,e_cmp (cm_ok (xs:=[.loc 5]) So3 ha1 rfl (zv (zw (.loc 5) (.int x) _ rfl (zp (c_says So3 ha1 C1.td.knOK ?_)))))⟩
     refine zw (.c .none) .none _ rfl (cmpW_i (b:=decide (sayV s1 x= .none)) ?_ ?_)
     ·show isV (sayV s1 x) .none=_
      rcases say_kinds s1 x with e|e|e<;>rw [e]<;>rfl
     ·by_cases hn:sayV s1 x= .none
      ·rw [decide_eq_true hn]
       refine (?_:_∧_)
       refine ⟨hle,hK' _ _ ⟨rfl,?_⟩⟩
       rw [List.take_add_one,hx,List.filter_append,zs_app]
       show _=_++zs ([x].filter _)
       rw [List.filter_cons,if_pos (decide_eq_true hn)];rfl
      ·rw [decide_eq_false hn]
       refine hK' _ _ ⟨rfl,?_⟩
       rw [List.take_add_one,hx,List.filter_append,zs_app]
       show _=_++zs ([x].filter _)
       rw [List.filter_cons,if_neg (by rw [decide_eq_false hn];decide)];simp [zs]
    ·obtain ⟨rfl,rfl⟩:=hI
     rw [wd,List.take_length]
     refine ⟨see_tup hy3,fun u hu=>?_⟩
     have h4:=(h3.sf h1.1).trans (SF.junk So3 (o:= .lst (zs (c.filter fun x=>decide (sayV s1 x= .none)))) hu)
     have nu:=So3.nfp hu
     have hu1:(((H'.set w (.lst (c.map (sayV s1)))).set u (.lst (zs (c.filter fun x=>decide (sayV s1 x= .none)))))) u=some (.lst (zs (c.filter fun x=>decide (sayV s1 x= .none)))):=zx
     have hall:∀α,M α∧Sat α l→Sat α (c.filter fun x=>decide (sayV s1 x= .none)):=fun α hα=>by
      obtain ⟨x,hx,ht⟩:=hα.2
      have hxc:=(hO.mem x).mpr hx
      refine ⟨x,List.mem_filter.mpr ⟨hxc,decide_eq_true ?_⟩,ht⟩
      rcases C1.td.say (hcz x hxc).1 with ⟨_,e⟩|⟨h7,_⟩|⟨_,e⟩
      ·exact absurd ⟨x,hxc,e⟩ hin
      ·exact absurd ht ((ltr_neg (hcz x hxc).1).mp (hmem h7 α hα.1))
      ·exact e
     have hfr:∀x∈(c.filter fun x=>decide (sayV s1 x= .none)),(∀y∈s1.ro,y.natAbs≠x.natAbs)∧x∈l∧x≠0∧x.natAbs≤N:=fun x hx=>by
      refine nn fun hC=>?_
      obtain ⟨h7,h8⟩:=List.mem_filter.mp hx
      refine hC ?_
      have h9:=hcz x h7
      exact ⟨(C1.td.say_n h9.1).mp (of_decide_eq_true h8),(hO.mem x).mp h7,h9⟩
     have hfn:((c.filter fun x=>decide (sayV s1 x= .none)).map Int.natAbs).Nodup:=List.Pairwise.sublist (List.Sublist.map _ (List.filter_sublist ..)) hO.nd
     generalize (c.filter fun x=>decide (sayV s1 x= .none))=us at h4 hu1 hall hfr hfn hu nu
     generalize (((H'.set w (.lst (c.map (sayV s1)))).set u (.lst (zs us))))=H5 at h4 hu1
     have hend:∀{H6 lay6 s6} {m:List V} {P:List V→AH→Prop},SF H lay s H6 lay6 s6→Stb N (fun α=>M α∧Sat α l) s6→Gr1 N (fun α=>M α∧Sat α l) s s6→(S.seq (.ret (.not (.attr (.loc 0) 12))) .skip).wp (spN tabL (n+1)) (.ref a::m) H6 P (rt Q):=fun {H6 lay6 s6 m P} h6 S6 g6=>zj (s_ret (zw _ (.bool (!s6.ref)) _ (pv_not (h6.1.a_ (h6.ins ha) rfl rfl)) (q _ _ _ h6 S6 g6)))
     have h15:=h1.trans h4
     have ha5:=h15.ins ha
     have hln:∀{z2:V} {k:Nat},(X.cmp .eq (.bi .len [(.loc 4)]) (.c (.int k))).pv [.ref a,.ref b,.ref y,z2,.ref u] H5=some (.bool (decide (us.length=k))):=fun {z2 k}=>pvb (len_pv rfl (ln_zs hu1)) (pvb rfl (pcm eq_nn))
     have hgr:s1.rows.length≤s.rows.length+1:=by rw [Z.rows];exact Nat.le_succ _
     have hlg0:∃t,An3 (s1.lg=s.lg++t) (t.length≤1) (∀c∈t,LgOK N (fun α=>M α∧Sat α l) c):=⟨[],by rw [Z.lg,List.append_nil],Nat.zero_le _,fun c hc=>by cases hc⟩
     have hnr:¬s1.ref=true:=by rw [hr];decide
     rcases us with _|⟨x,_|⟨w1,r⟩⟩
     ·skip
      refine zj (s_ite (hln (k:=0)) (fun _=>?_) fun h=>by cases h)
      refine zj (s_ex (cm_ok (xs:=[]) (P:=fun _ H=>_) h15.1 ha5 rfl (zp (c_refute h15.1 ha5 (by rw [Z.lg];lia) fun H6 lay6 h6=>?_))))
      have hno:∀α,¬(M α∧Sat α l):=fun α hα=>by
       obtain ⟨x,hx,_⟩:=hall α hα
       cases hx
      refine zy (hend (h15.trans h6) ⟨C1'.ref_.lg_,fun h=>(by cases h),fun _=>⟨hno,List.getLast?_concat⟩⟩ ⟨Z.lim,hgr,[[]],by show s1.lg++[[]]=_;rw [Z.lg],Nat.le_refl _,fun d hd=>by rw [List.mem_singleton.mp hd];exact lgE hno⟩)
     ·skip
      refine nn fun hC=>?_
      obtain ⟨hx1,hx2,hx3,hx4⟩:=hfr x (List.mem_cons_self ..)
      refine hC ?_
      refine zj (s_ite (hln (k:=0)) (fun h=>by cases h) fun _=>zj (s_ite (hln (k:=1)) (fun _=>?_) fun h=>by cases h))
      refine zj (s_ex (cm_ok (xs:=[.sub (.loc 4) (.c (.int 0)),.c .none]) (P:=fun _ H=>_) h15.1 ha5 rfl (zv (zw _ (.int x) _ (pvb rfl (pvb rfl (sb_l (n:=0) hu1 rfl))) (zv (zw (.c .none) .none _ rfl (zp (c_let h15.1 ha5 (C1.sz hN1000) rfl fun H6 h6=>?_))))))))
      refine zy (zy (hend (h15.trans h6) ⟨C1'.let_ hx3 hx4 hx1 (.inl ⟨rfl,.inl (by rw [Z.be];rfl)⟩) fun _ α hα=>?_,fun _=>⟨fun α h7 h8=>⟨cv.let_ α h7 h8,x,hx2,h8 s1.ro.length x List.getElem?_concat_length (by show lvl s1.be _=0;exact hz0)⟩,⟨W.iff,W.nd⟩,P.let_ C1.sl⟩,fun h=>absurd h hnr⟩ ⟨Z.lim,hgr,hlg0⟩))
      obtain ⟨x',hx',ht⟩:=hall α hα
      rw [List.mem_singleton.mp hx'] at ht;exact ht
     ·obtain ⟨w0,rfl⟩:∃w0,w0=x:=⟨x,rfl⟩
      have hrow:RowOK N (w0::w1::r):=⟨by simp,hfn,fun x hx=>(hfr x hx).2.2⟩
      have hw01:w0≠w1:=fun e=>(List.nodup_cons.mp hfn).1 (by rw [e];exact List.mem_cons_self ..)
      refine zj (s_ite (hln (k:=0)) (fun h=>by cases h) fun _=>zj (s_ite (hln (k:=1)) (fun h=>by cases h) fun _=>?_))
      refine zj (s_ex (cm_ok (xs:=[.loc 4]) (P:=fun _ H=>_) h15.1 ha5 rfl (zv (zw (.loc 4) (.ref u) _ rfl (zp (c_keep h15.1 ha5 hu1 (fun h=>nu (by
       obtain ⟨rr,hrr,e⟩:=h
       exact ⟨rr,hrr,e⟩)) (by rw [Z.rows];lia) (by have:=C1.wlen;lia) (fun k=>by have:=W.len (l:=k);rw [Z.rows] at this;lia) fun H6 lay6 h6=>?_))))))
      refine zy (zy (hend (h15.trans h6) ⟨C1'.keep hrow hall,fun _=>⟨fun α h7 h8=>⟨cv.keep α h7 h8,?_⟩,W.keep hw01,P.keep fun x y hxy i hi hxi=>?_⟩,fun h=>absurd h hnr⟩ ⟨Z.lim,?_,hlg0⟩))
      ·obtain ⟨x,hx,ht⟩:=h7 (w0::w1::r) (List.mem_append_right _ (List.mem_singleton.mpr rfl))
       exact ⟨x,(hfr x hx).2.1,ht⟩
      ·exfalso
       have hx:x∈w0::w1::r:=by
        rcases hxy with ⟨rfl,_⟩|⟨rfl,_⟩
        ·exact List.mem_cons_self ..
        ·exact List.mem_cons_of_mem _ (List.mem_cons_self ..)
       exact (hfr x hx).1 (-x) (List.mem_of_getElem? hxi) (Int.natAbs_neg _)
      ·show (s1.rows++[_]).length≤_
       rw [List.length_append,Z.rows];exact Nat.le_refl _
end
structure Hs(H0 H:AH)(d:Addr)(es:List (Nat×V))(L:List (Addr×O)):Prop where
 od:∃o,H0 d=some o
 ext:∀y o,H0 y=some o→y≠d→H y=some o
 att:H d=some (.att es)
 nd:(L.map (·.1)).Nodup
 at_:∀p∈L,H p.1=some p.2
 new:∀p∈L,H0 p.1=none
theorem Hs.ne{H0 H:AH}{d:Addr}{es:List (Nat×V)}{L:List (Addr×O)}(h:Hs H0 H d es L){p:Addr×O}(hp:p∈L):p.1≠d:=fun e=>by
 obtain ⟨o,ho⟩:=h.od
 have:=h.new p hp
 rw [e,ho] at this;cases this
theorem Hs.alloc{H0 H:AH}{d:Addr}{es:List (Nat×V)}{L:List (Addr×O)}(h:Hs H0 H d es L){x:Addr}{o:O}(hx:H x=none):Hs H0 (H.set x o) d es ((x,o)::L):=by
 have hxd:d≠x:=fun e=>by rw [←e,h.att] at hx;cases hx
 have hxL:∀p∈L,p.1≠x:=fun p hp e=>by have:=h.at_ p hp;rw [e,hx] at this;cases this
 refine ⟨h.od,fun y p hy hyd=>?_,by rw [zu hxd];exact h.att,?_,fun p hp=>?_,fun p hp=>?_⟩
 ·have:=h.ext y p hy hyd
  rw [zu fun e=>by rw [e,hx] at this;cases this];exact this
 ·rw [List.map_cons,List.nodup_cons]
  refine ⟨fun hm=>?_,h.nd⟩
  obtain ⟨p,hp,e⟩:=List.mem_map.mp hm
  exact hxL p hp e
 ·rcases List.mem_cons.mp hp with rfl|hp
  ·exact zx
  ·rw [zu (hxL p hp)];exact h.at_ p hp
 ·rcases List.mem_cons.mp hp with rfl|hp
  ·generalize hh:H0 x=zq;induction zq with
   |none=>rfl
   |some o'=>rw [h.ext x o' hh fun e=>hxd e.symm] at hx;cases hx
  ·exact h.new p hp
theorem Hs.put{H0 H:AH}{d:Addr}{es es':List (Nat×V)}{L:List (Addr×O)}(h:Hs H0 H d es L):Hs H0 (H.set d (.att es')) d es' L:=
 ⟨h.od,fun y o hy hyd=>by rw [zu hyd];exact h.ext y o hy hyd,zx,h.nd,fun p hp=>by rw [zu (h.ne hp)];exact h.at_ p hp,h.new⟩
section
variable{sp:Sp}{m:List V}{H H0:AH}{Q:V→AH→Prop}
theorem attS_raw{a d:Addr}{es:List (Nat×V)}{k:Nat}{v:V}{P:AH→Prop}(h1:H a=some (.inst d))(h2:H d=some (.att es))(hl:es.length<900)(q:P (H.set d (.att (put es k v)))):attS a k v H P:=zg (insV_mk h1 h2) ⟨hl,q⟩
variable{a d:Addr}{es:List (Nat×V)}{L:List (Addr×O)}{r:List V}{P:List V→AH→Prop}{R:V→AH→Prop}
theorem i_new{k:Nat}{x:X}{o:O}(h:Hs H0 H d es L)(hA:H0 a=some (.inst d))(had:a≠d)(hl:es.length<900)(hx:∀{Q:V→AH→Prop},(∀y,H y=none→Q (.ref y) (H.set y o))→x.ev sp (.ref a::r) H Q)(q:∀y H',Hs H0 H' d (put es k (.ref y)) ((y,o)::L)→P (.ref a::r) H'):(S.setA (.loc 0) k x).wp sp (.ref a::r) H P R:=by
 refine s_setE (hx fun y hy=>?_)
 have h1:=h.alloc (o:=o) hy
 exact attS_raw (h1.ext a _ hA had) h1.att hl (q y _ h1.put)
theorem i_val{k:Nat}{x:X}{v:V}(h:Hs H0 H d es L)(hA:H0 a=some (.inst d))(had:a≠d)(hl:es.length<900)(hx:x.pv (.ref a::r) H=some v)(q:∀H',Hs H0 H' d (put es k v) L→P (.ref a::r) H'):(S.setA (.loc 0) k x).wp sp (.ref a::r) H P R:=
 s_setE (zw x _ _ hx (attS_raw (h.ext a _ hA had) h.att hl (q _ h.put)))
theorem e_sup{f:Nat}{es:List (Nat×V)}(h1:H a=some (.inst d))(h2:H d=some (.att es))(q:sp f [.ref a] H Q):(X.sup f).ev sp (.ref a::r) H Q:=by
 exact zg (x:= .ref a) rfl (zg (insV_mk h1 h2) q)
theorem e_emptyL{Q:V→AH→Prop}(h:∀y,H y=none→Q (.ref y) (H.set y (.lst []))):(X.list []).ev sp m H Q:=h
theorem e_emptyT{Q:V→AH→Prop}(h:∀y,H y=none→Q (.ref y) (H.set y (.tup []))):(X.tup []).ev sp m H Q:=h
theorem e_dcr{mask:List Bool}{x y k v:X}{lo hi:Int}(hx:x.pv m H=some (.int lo))(hy:y.pv m H=some (.int hi))(b1: -big≤lo∧lo<big)(b2: -big≤hi∧hi<big)
  (h:cloop (fun _=>True) (fun x H acc K=>k.ev sp (mskd m mask++[x]) H fun kv H=>v.ev sp (mskd m mask++[x]) H fun vv H=>ifS kv.i? fun i=>acc.length<sz∧K (put acc i vv) H) (rngL lo hi) H [] fun acc H=>∀a,H a=none→Q (.ref a) (H.set a (.dct acc))):(X.dcomp mask (.rng x y) k v).ev sp m H Q:=by
 exact zw x _ (fun v H=>y.ev sp m H fun w H=>ifS v.i? fun i=>ifS w.i? fun j=>_) hx (zw y _ _ hy (zg (x:=lo) rfl (zg (x:=hi) rfl ⟨b1.1,b1.2,b2.1,b2.2,h⟩)))
end
noncomputable def ht0(N:Nat):List (Int×V):=(oneTo N).map fun k=>(k,.int 0)
theorem ht0_ok{N:Nat}:HtOK N (ht0 N):=by
 refine ⟨?_,fun e he=>?_⟩
 ·unfold ky ht0
  rw [List.map_map]
  exact List.map_id _
 ·obtain ⟨k,_,rfl⟩:=List.mem_map.mp he
  exact ⟨0,rfl⟩
noncomputable def s0(N:Nat):St:=⟨[],[],[],[],[],0,[],[],[],fun _=>[],ht0 N,1,[],false,[],0,0⟩
theorem stb0{N:Nat}:Stb N (fun _=>True) (s0 N):=by
 refine ⟨⟨⟨fun l h=>(by cases h),List.nodup_nil,fun k v=>⟨fun h=>(by cases h),fun ⟨l,h,_⟩=>(by cases h)⟩,.nil,.nil,.nil,.nil,fun k v h=>(by cases h)⟩,fun i l h=>(by cases h),fun i l h=>(by cases h),List.Pairwise.nil,fun b h=>(by cases h),Nat.le_refl _,fun c h=>(by cases h),fun c h=>(by cases h),fun i l h=>(by cases h),ht0_ok,List.nodup_nil,fun l h=>(by cases h),.inl rfl⟩,fun _=>⟨fun α _ _=>trivial,⟨fun k l=>⟨fun h=>(by cases h),fun ⟨c,h,_⟩=>(by cases h)⟩,fun l=>List.nodup_nil⟩,fun k c w w' h=>(by cases h)⟩,fun h=>(by cases h)⟩
section
variable{n:Nat}{H:AH}{a d:Addr}{Q:V→AH→Prop}{N:Nat}
theorem c_values{H0:AH}(h:Hs H0 H d [] [])(hA:H0 a=some (.inst d))(had:a≠d)(q:∀H' x0 x1 x2 x3 x4 x6,Hs H0 H' d [(0,.ref x0),(1,.ref x1),(2,.ref x2),(3,.ref x3),(4,.ref x4),(5,.int 0),(6,.ref x6)] [(x6,.dct []),(x4,.lst []),(x3,.lst []),(x2,.dct []),(x1,.dct []),(x0,.dct [])]→Q .none H'):spN tabL (n+1) 1 [.ref a] H Q:=by
 refine sp_go rfl rfl (zj (i_new h hA had (show 0<900 by decide) (fun h=>e_dict0 h) fun x0 H1 h=>zj (i_new h hA had (show 1<900 by decide) (fun h=>e_dict0 h) fun x1 H2 h=>zj (i_new h hA had (show 2<900 by decide) (fun h=>e_dict0 h) fun x2 H3 h=>zj (i_new h hA had (show 3<900 by decide) (fun h=>e_emptyL h) fun x3 H4 h=>zj (i_new h hA had (show 4<900 by decide) (fun h=>e_emptyL h) fun x4 H5 h=>zj (i_val h hA had (show 5<900 by decide) rfl fun H6 h=>zj (i_new h hA had (show 6<900 by decide) (fun h=>e_dict0 h) fun x6 H7 h=>zy (q _ _ _ _ _ _ _ h)))))))))
end
noncomputable def All(cls:List (List Int))(α:Nat→Bool):Prop:=∀c∈cls,Sat α c
theorem Stb.iff{N:Nat}{M M':(Nat→Bool)→Prop}{s:St}(S:Stb N M s)(h:∀α,M α↔M' α):Stb N M' s:=by
 obtain rfl:M=M':=funext fun α=>propext (h α)
 exact S
noncomputable def lay0(a d x0 x1 x2 x3 x4 x6 x7 x8 x9 x11 x13:Addr):Ro→Addr
 | .ins=>a
 | .att=>d
 | .kn=>x0
 | .he=>x1
 | .ca=>x2
 | .ro=>x3
 | .be=>x4
 | .li=>x6
 | .rs=>x7
 | .wa=>x8
 | .ht=>x9
 | .lg=>x11
 | .bl=>x13
 |_=>a
section
variable{n:Nat}{H:AH}{a d:Addr}{Q:V→AH→Prop}{N:Nat}
structure Cls(H:AH)(cb:Addr)(cls:List (List Int)):Prop where
 at_:∃f:Nat→Addr,H cb=some (.lst (refs cls.length f))∧∀j c,cls[j]?=some c→H (f j)=some (.tup (zs c))
noncomputable def iL(N:Nat)(x0 x1 x2 x3 x4 x6 x7 x8 x9 x11 x13:Addr):List (Addr×O):=[(x13,.tup []),(x11,.lst []),(x9,.dct (ht0 N)),(x8,.dct []),(x7,.lst []),(x6,.dct []),(x4,.lst []),(x3,.lst []),(x2,.dct []),(x1,.dct []),(x0,.dct [])]
noncomputable def roL:List Ro:=[Ro.bl,.lg,.ht,.wa,.rs,.li,.be,.ro,.ca,.he,.kn,.att,.ins]
noncomputable def roN:Ro→Nat
 | .bl=>0| .lg=>1| .ht=>2| .wa=>3| .rs=>4| .li=>5| .be=>6| .ro=>7| .ca=>8| .he=>9| .kn=>10| .att=>11| .ins=>12
 |_=>13
noncomputable def InL(r:Ro):Prop:=roL[roN r]?=some r
theorem use0{N:Nat}:∀r,use (s0 N) r→r∈roL:=fun r u=>List.mem_of_getElem? (show InL r by
 induction r<;>first|exact rfl|exact absurd u (Nat.not_lt_zero _)|cases u)
theorem init_sol{H0 H':AH}{x0 x1 x2 x3 x4 x6 x7 x8 x9 x11 x13:Addr}(h:Hs H0 H' d (attL (lay0 a d x0 x1 x2 x3 x4 x6 x7 x8 x9 x11 x13) (s0 N)) (iL N x0 x1 x2 x3 x4 x6 x7 x8 x9 x11 x13))(hA:H0 a=some (.inst d))(had:a≠d):Sol H' (lay0 a d x0 x1 x2 x3 x4 x6 x7 x8 x9 x11 x13) (s0 N)∧∀y o,H0 y=some o→y≠d→y≠a→¬fp (lay0 a d x0 x1 x2 x3 x4 x6 x7 x8 x9 x11 x13) (s0 N) y:=by
 have hins:H' a=some (.inst d):=h.ext a _ hA had
 have hmap:roL.map (lay0 a d x0 x1 x2 x3 x4 x6 x7 x8 x9 x11 x13)=(iL N x0 x1 x2 x3 x4 x6 x7 x8 x9 x11 x13).map (·.1)++[d,a]:=rfl
 have hL:∀x∈(iL N x0 x1 x2 x3 x4 x6 x7 x8 x9 x11 x13).map (·.1),H0 x=none:=fun x hx=>by
  obtain ⟨p,hp,rfl⟩:=List.mem_map.mp hx
  exact h.new p hp
 have hnn:(roL.map (lay0 a d x0 x1 x2 x3 x4 x6 x7 x8 x9 x11 x13)).Nodup:=by
  rw [hmap,List.nodup_append]
  refine ⟨h.nd,List.nodup_cons.mpr ⟨fun h=>had (List.mem_singleton.mp h).symm,by simp⟩,fun x hx y hy e=>?_⟩
  have hxn:=hL x hx
  subst e
  rcases List.mem_cons.mp hy with rfl|hy
  ·obtain ⟨o,ho⟩:=h.od
   rw [ho] at hxn;cases hxn
  ·rw [List.mem_singleton.mp hy,hA] at hxn;cases hxn
 have hat:∀r∈roL,H' (lay0 a d x0 x1 x2 x3 x4 x6 x7 x8 x9 x11 x13 r)=some (cont (lay0 a d x0 x1 x2 x3 x4 x6 x7 x8 x9 x11 x13) (s0 N) r):=by
  have e:∀(i:Nat) (p:Addr×O),(iL N x0 x1 x2 x3 x4 x6 x7 x8 x9 x11 x13)[i]?=some p→H' p.1=some p.2:=fun i p hp=>h.at_ p (List.mem_of_getElem? hp)
  unfold roL
  exact allC (e 0 (x13,_) rfl) (allC (e 1 (x11,_) rfl) (allC (e 2 (x9,_) rfl) (allC (e 3 (x8,_) rfl) (allC (e 4 (x7,_) rfl) (allC (e 5 (x6,_) rfl) (allC (e 6 (x4,_) rfl) (allC (e 7 (x3,_) rfl) (allC (e 8 (x2,_) rfl) (allC (e 9 (x1,_) rfl) (allC (e 10 (x0,_) rfl) (allC h.att (allC hins allN))))))))))))
 refine ⟨⟨fun r u=>hat r (use0 r u),fun r r' u u' e=>?_⟩,fun y o hy hyd hya ⟨r,u,e⟩=>?_⟩
 ·obtain ⟨i,hi,rfl⟩:=List.getElem_of_mem (use0 r u)
  obtain ⟨j,hj,rfl⟩:=List.getElem_of_mem (use0 r' u')
  have h1:i<(roL.map (lay0 a d x0 x1 x2 x3 x4 x6 x7 x8 x9 x11 x13)).length:=by rw [List.length_map];exact hi
  have h2:j<(roL.map (lay0 a d x0 x1 x2 x3 x4 x6 x7 x8 x9 x11 x13)).length:=by rw [List.length_map];exact hj
  have:i=j:=(List.getElem_inj (h₀:=h1) (h₁:=h2) hnn).mp (by rw [List.getElem_map,List.getElem_map];exact e)
  subst this;rfl
 ·have hm:y∈roL.map (lay0 a d x0 x1 x2 x3 x4 x6 x7 x8 x9 x11 x13):=by
   rw [←e];exact List.mem_map_of_mem (use0 r u)
  rw [hmap] at hm
  rcases List.mem_append.mp hm with hm|hm
  ·have:=hL y hm
   rw [hy] at this;cases this
  ·rcases List.mem_cons.mp hm with rfl|hm
   ·exact hyd rfl
   ·exact hya (List.mem_singleton.mp hm)
set_option maxHeartbeats 1000000 in
theorem c_init{cb:Addr}{cls:List (List Int)}(hcl:Cls H cb cls)(hN:N≤5)(hok:∀c∈cls,(∀x∈c,x≠0∧x.natAbs≤N)∧c.length<64)(hlen:cls.length≤1000)(ha:H a=none)(hd:H d=none)(had:a≠d)
  (q:∀H' lay s,(∀y o,H y=some o→H' y=some o∧¬fp lay s y)→lay .ins=a→Sol H' lay s→Stb N (All cls) s→s.rows.length≤cls.length→s.lg.length≤cls.length→s.lim=0→(∀c∈s.lg,LgOK N (All cls) c)→Q .none H'):spN tabL (n+3) 5 [.ref a,.ref cb,.int N] ((H.set a (.inst d)).set d (.att [])) Q:=by
 have hA:((H.set a (.inst d)).set d (.att [])) a=some (.inst d):=by rw [zu had];exact zx
 have h:Hs ((H.set a (.inst d)).set d (.att [])) ((H.set a (.inst d)).set d (.att [])) d [] []:=⟨⟨_,zx⟩,fun y o h _=>h,zx,List.nodup_nil,fun p h=>(by cases h),fun p h=>(by cases h)⟩
 have hold:∀y o,H y=some o→((H.set a (.inst d)).set d (.att [])) y=some o:=fun y o hy=>by
  rw [zu fun e:y=d=>(by rw [e,hd] at hy;cases hy),zu fun e:y=a=>(by rw [e,ha] at hy;cases hy)];exact hy
 generalize ((H.set a (.inst d)).set d (.att []))=H0 at hA h hold
 refine sp_go rfl rfl (zj (s_ex (e_sup hA h.att (c_values h hA had fun H1 x0 x1 x2 x3 x4 x6 h=>?_))))
 refine zj (i_new h hA had (show 7<900 by decide) (fun h=>e_emptyL h) fun x7 H2 h=>zj (i_new h hA had (show 8<900 by decide) (fun h=>e_dict0 h) fun x8 H3 h=>?_))
 have hb: -big≤(N:Int)+1∧(N:Int)+1<big:=⟨by unfold big;lia,by unfold big;lia⟩
 refine zj (i_new (o:= .dct (ht0 N)) h hA had (show 9<900 by decide) (fun {Q} hq=>?_) fun x9 H4 h=>?_)
 ·refine e_dcr (lo:=1) (hi:=(N:Int)+1) rfl rfl (by decide) hb ?_
  refine cloop_ind (fun i acc H'=>H'=H3∧acc=((oneTo N).take i).map fun k=>(k,V.int 0)) _ (fun i w acc H' K hw hI hK=>?_) (fun acc H' hI=>?_) ⟨rfl,rfl⟩
  ·obtain ⟨rfl,rfl⟩:=hI
   obtain ⟨rfl,hi⟩:=rng_at hw
   have hiN:i<N:=by rwa [t_1] at hi
   have hat:(oneTo N)[i]?=some (1+(i:Int)):=by
    unfold oneTo
    rw [List.getElem?_map,List.getElem?_range hiN]
    show some (((i+1:Nat):Int))=_
    congr 1;lia
   refine ⟨trivial,zw (.loc 4) (.int (1+(i:Int))) _ rfl (zw (.c (.int 0)) (.int 0) _ rfl ⟨?_,hK _ _ ⟨rfl,?_⟩⟩)⟩
   ·rw [List.length_map,List.length_take]
    have:(1000:Nat)<sz:=by decide
    lia
   ·rw [put_new]
    ·rw [List.take_add_one,hat,List.map_append];rfl
    ·unfold ky
     rw [List.map_map]
     intro hm
     obtain ⟨k,hk,e⟩:=List.mem_map.mp hm
     have e:k=1+(i:Int):=e
     obtain ⟨j,hj,hjk⟩:=mem_take_at hk
     have h3:=List.getElem?_eq_some_iff.mp hat
     have h4:=List.getElem?_eq_some_iff.mp hjk
     have:=(List.getElem_inj (h₀:=h4.1) (h₁:=h3.1) oneTo_nd).mp (by rw [h4.2,h3.2,e])
     omega
  ·obtain ⟨rfl,rfl⟩:=hI
   refine ⟨trivial,fun y hy=>?_⟩
   rw [rng_len,show ((N:Int)+1-1).toNat=N from t_1,List.take_of_length_le (by rw [oneTo_len];exact Nat.le_refl _)]
   exact hq y hy
 have h:Hs H0 H4 d [(0,.ref x0),(1,.ref x1),(2,.ref x2),(3,.ref x3),(4,.ref x4),(5,.int 0),(6,.ref x6),(7,.ref x7),(8,.ref x8),(9,.ref x9)] [(x9,.dct (ht0 N)),(x8,.dct []),(x7,.lst []),(x6,.dct []),(x4,.lst []),(x3,.lst []),(x2,.dct []),(x1,.dct []),(x0,.dct [])]:=h
 refine zj (i_val h hA had (show 10<900 by decide) rfl fun H5 h=>?_)
 have h:Hs H0 H5 d [(0,.ref x0),(1,.ref x1),(2,.ref x2),(3,.ref x3),(4,.ref x4),(5,.int 0),(6,.ref x6),(7,.ref x7),(8,.ref x8),(9,.ref x9),(10,.int 1)] [(x9,.dct (ht0 N)),(x8,.dct []),(x7,.lst []),(x6,.dct []),(x4,.lst []),(x3,.lst []),(x2,.dct []),(x1,.dct []),(x0,.dct [])]:=h
 refine zj (i_new h hA had (show 11<900 by decide) (fun h=>e_emptyL h) fun x11 H6 h=>?_)
 have h:Hs H0 H6 d [(0,.ref x0),(1,.ref x1),(2,.ref x2),(3,.ref x3),(4,.ref x4),(5,.int 0),(6,.ref x6),(7,.ref x7),(8,.ref x8),(9,.ref x9),(10,.int 1),(11,.ref x11)] [(x11,.lst []),(x9,.dct (ht0 N)),(x8,.dct []),(x7,.lst []),(x6,.dct []),(x4,.lst []),(x3,.lst []),(x2,.dct []),(x1,.dct []),(x0,.dct [])]:=h
 refine zj (i_val h hA had (show 12<900 by decide) rfl fun H7 h=>?_)
 have h:Hs H0 H7 d [(0,.ref x0),(1,.ref x1),(2,.ref x2),(3,.ref x3),(4,.ref x4),(5,.int 0),(6,.ref x6),(7,.ref x7),(8,.ref x8),(9,.ref x9),(10,.int 1),(11,.ref x11),(12,.bool false)] [(x11,.lst []),(x9,.dct (ht0 N)),(x8,.dct []),(x7,.lst []),(x6,.dct []),(x4,.lst []),(x3,.lst []),(x2,.dct []),(x1,.dct []),(x0,.dct [])]:=h
 refine zj (i_new h hA had (show 13<900 by decide) (fun h=>e_emptyT h) fun x13 H8 h=>?_)
 have h:Hs H0 H8 d [(0,.ref x0),(1,.ref x1),(2,.ref x2),(3,.ref x3),(4,.ref x4),(5,.int 0),(6,.ref x6),(7,.ref x7),(8,.ref x8),(9,.ref x9),(10,.int 1),(11,.ref x11),(12,.bool false),(13,.ref x13)] [(x13,.tup []),(x11,.lst []),(x9,.dct (ht0 N)),(x8,.dct []),(x7,.lst []),(x6,.dct []),(x4,.lst []),(x3,.lst []),(x2,.dct []),(x1,.dct []),(x0,.dct [])]:=h
 refine zj (i_val h hA had (show 14<900 by decide) rfl fun H9 h=>?_)
 have h:Hs H0 H9 d [(0,.ref x0),(1,.ref x1),(2,.ref x2),(3,.ref x3),(4,.ref x4),(5,.int 0),(6,.ref x6),(7,.ref x7),(8,.ref x8),(9,.ref x9),(10,.int 1),(11,.ref x11),(12,.bool false),(13,.ref x13),(14,.int 0)] [(x13,.tup []),(x11,.lst []),(x9,.dct (ht0 N)),(x8,.dct []),(x7,.lst []),(x6,.dct []),(x4,.lst []),(x3,.lst []),(x2,.dct []),(x1,.dct []),(x0,.dct [])]:=h
 refine zj (i_val h hA had (show 15<900 by decide) rfl fun H10 h=>?_)
 have h:Hs H0 H10 d [(0,.ref x0),(1,.ref x1),(2,.ref x2),(3,.ref x3),(4,.ref x4),(5,.int 0),(6,.ref x6),(7,.ref x7),(8,.ref x8),(9,.ref x9),(10,.int 1),(11,.ref x11),(12,.bool false),(13,.ref x13),(14,.int 0),(15,.int 0)] [(x13,.tup []),(x11,.lst []),(x9,.dct (ht0 N)),(x8,.dct []),(x7,.lst []),(x6,.dct []),(x4,.lst []),(x3,.lst []),(x2,.dct []),(x1,.dct []),(x0,.dct [])]:=h
 have hSol:=init_sol (N:=N) (a:=a) (x0:=x0) (x1:=x1) (x2:=x2) (x3:=x3) (x4:=x4) (x6:=x6) (x7:=x7) (x8:=x8) (x9:=x9) (x11:=x11) (x13:=x13) h hA had
 have hout:∀y o,H y=some o→H10 y=some o∧¬fp (lay0 a d x0 x1 x2 x3 x4 x6 x7 x8 x9 x11 x13) (s0 N) y:=fun y o hy=>by
  have hyd:y≠d:=fun e=>by rw [e,hd] at hy;cases hy
  have hya:y≠a:=fun e=>by rw [e,ha] at hy;cases hy
  exact ⟨h.ext y o (hold y o hy) hyd,hSol.2 y o (hold y o hy) hyd hya⟩
 have So:=hSol.1
 have hlay:lay0 a d x0 x1 x2 x3 x4 x6 x7 x8 x9 x11 x13 .ins=a:=rfl
 clear hSol h
 generalize lay0 a d x0 x1 x2 x3 x4 x6 x7 x8 x9 x11 x13=lay at So hout hlay
 refine nn fun hC=>?_
 obtain ⟨f,hcb,hf⟩:=hcl.at_
 refine hC ?_
 have hrange:∀{j:Nat} {v:V},(refs cls.length f)[j]?=some v→j<cls.length∧v= .ref (f j):=fun {j v} hv=>by
  have hj:=(List.getElem?_eq_some_iff.mp hv).1
  rw [refs_len] at hj
  rw [refs_get hj] at hv
  exact ⟨hj,(Option.some.inj hv).symm⟩
 refine zj (s_for (zw (.loc 1) (.ref cb) _ rfl (it_l (hout _ _ hcb).1 ?_)))
 refine floop_ind (fun j m H'=>Ex3 fun (lay':Ro→Addr) (s':St) (z:V)=>An5 (m=[.ref a,.ref cb,.int N,z]) (SF H10 lay (s0 N) H' lay' s') (Stb N (All (cls.take j)) s') (s'.rows.length≤j) (s'.lg.length≤j∧s'.lim=0∧∀c∈s'.lg,LgOK N (All (cls.take j)) c)) _ (fun j v m H' K hv hI hK=>?_) (fun m H' hI=>?_) ⟨lay,s0 N,.un,rfl,.refl So,stb0.iff fun α=>⟨fun _ c hc=>(by cases hc),fun _=>trivial⟩,Nat.le_refl _,Nat.le_refl _,rfl,fun c hc=>by cases hc⟩
 ·refine nn fun hC=>?_
  obtain ⟨lay',s',z,rfl,h,S,hr,hl,hlm,hsat⟩:=hI
  obtain ⟨hj,rfl⟩:=hrange hv
  refine hC ?_
  have hc:cls[j]?=some cls[j]:=List.getElem?_eq_getElem hj
  generalize cls[j]=c at hc
  have hcm:=hok c (List.mem_of_getElem? hc)
  have hfj:=hout _ _ (hf j c hc)
  have hfj':=So.out h.2 hfj.1 hfj.2
  have ha':=h.ins hlay
  have hsz:(2000:Nat)<sz:=by decide
  refine ⟨wq (So.out h.2 (hout _ _ hcb).1 (hout _ _ hcb).2).1,zj (s_ex (cm_ok (xs:=[.loc 3]) (P:=fun _ H=>_) h.1 ha' rfl (zv (zw (.loc 3) (.ref (f j)) _ rfl (zp (c_addc h.1 ha' S hN hfj'.1 (.inr rfl) hfj'.2 hcm.1 hcm.2 (by lia) (by lia) fun H2 lay2 s2 h2 S2 g2=>?_))))))⟩
  refine zy (hK _ _ ⟨lay2,s2,_,rfl,h.trans h2,S2.iff fun α=>?_,by have:=g2.rows;lia,?_,g2.lim.trans hlm,fun d hd=>?_⟩)
  ·constructor
   ·rintro ⟨h7,h8⟩ c' hc'
    rcases (wy hc).mp hc' with hc'|rfl
    ·exact h7 c' hc'
    ·exact h8
   ·exact fun h7=>⟨fun c' hc'=>h7 c' ((wy hc).mpr (.inl hc')),h7 c ((wy hc).mpr (.inr rfl))⟩
  ·obtain ⟨t,h7,h8,_⟩:=g2.lg
   rw [h7,List.length_append];lia
  ·have hM:∀α,All (cls.take (j+1)) α→All (cls.take j) α∧Sat α c:=fun α hα=>⟨fun c' hc'=>hα c' ((wy hc).mpr (.inl hc')),hα c ((wy hc).mpr (.inr rfl))⟩
   obtain ⟨t,h7,_,h9⟩:=g2.lg
   rw [h7] at hd
   rcases List.mem_append.mp hd with hd|hd
   ·exact ⟨(hsat d hd).1,fun α hα=>(hsat d hd).2 α (hM α hα).1⟩
   ·exact ⟨(h9 d hd).1,fun α hα=>(h9 d hd).2 α (hM α hα)⟩
 ·refine nn fun hC=>?_
  obtain ⟨lay',s',z,rfl,h,S,hr,hl,hlm,hsat⟩:=hI
  refine hC ?_
  rw [refs_len] at S hr hl hsat
  rw [List.take_length] at S hsat
  refine ⟨wq (So.out h.2 (hout _ _ hcb).1 (hout _ _ hcb).2).1,zy (q _ lay' s' (fun y o hy=>?_) (h.ins hlay) h.1 S hr hl hlm hsat)⟩
  exact So.out h.2 (hout y o hy).1 (hout y o hy).2
end
noncomputable def fdO(cl:Addr)(spot:Nat):O:= .att [(16,.ref cl),(17,.int spot)]
structure Fd(H0 H:AH)(fd cl:Addr)(cells:List Int)(spot:Nat):Prop where
 ext:∀y o,H0 y=some o→y≠fd→H y=some o
 fd:H fd=some (fdO cl spot)
 cl:H cl=some (.lst (zs cells))
 b:spot<100000
 n:0<cells.length∧cells.length≤60
section
variable{n:Nat}{H0 H:AH}{fd cl:Addr}{cells:List Int}{spot:Nat}{Q:V→AH→Prop}
theorem Fd.ne(h:Fd H0 H fd cl cells spot):fd≠cl:=fun e=>by
 have h1:=h.fd
 rw [e,h.cl] at h1;cases h1
theorem Fd.new(h:Fd H0 H fd cl cells spot){x:Addr}{o:O}(hx:H x=none):Fd H0 (H.set x o) fd cl cells spot:=
 ⟨fun y p hy hne=>by
  have:=h.ext y p hy hne
  rw [zu fun e:y=x=>(by rw [e,hx] at this;cases this)];exact this,by rw [zu fun e:fd=x=>(by have:=h.fd;rw [e,hx] at this;cases this)];exact h.fd,by rw [zu fun e:cl=x=>(by have:=h.cl;rw [e,hx] at this;cases this)];exact h.cl,h.b,h.n⟩
theorem Fd.step(h:Fd H0 H fd cl cells spot)(hs:spot+1<100000):Fd H0 (H.set fd (fdO cl (spot+1))) fd cl cells (spot+1):=
 ⟨fun y o hy hne=>by rw [zu hne];exact h.ext y o hy hne,zx,by rw [zu fun e=>h.ne e.symm];exact h.cl,hs,h.n⟩
theorem sb_s{b:Addr}{es:List (Nat×V)}{k:Nat}{v:V}(h:H b=some (.att es))(e:get es k=some v):subV H (.ref b) (.str k)=some v:=bindM (x:=b) rfl (bindM (see_att h) e)
theorem mod_ok{x y:X}{sp:Sp}{m:List V}{a b:Int}(hx:x.pv m H=some (.int a))(hy:y.pv m H=some (.int b))(hb:0<b):(X.bin .mod x y).pv m H=some (.int (a % b)):=by
 refine pvb hx (pvb hy ?_)
 show (gdP (0<b) (a % b)).map V.int=_
 rw [gdP_mk hb];rfl
theorem mul_ok{x y:X}{m:List V}{a b:Int}(hx:x.pv m H=some (.int a))(hy:y.pv m H=some (.int b))(h: -big≤a∧a≤big∧-big≤b∧b≤big):(X.bin .mul x y).pv m H=some (.int (a*b)):=by
 refine pvb hx (pvb hy ?_)
 show (gdP (-big≤a∧a≤big∧-big≤b∧b≤big) (a*b)).map V.int=_
 rw [gdP_mk h];rfl
theorem add_ok{x y:X}{m:List V}{a b:Int}(hx:x.pv m H=some (.int a))(hy:y.pv m H=some (.int b)):(X.bin .add x y).pv m H=some (.int (a+b)):=pvb hx (pvb hy rfl)
theorem fdiv_ok{x y:X}{m:List V}{a b:Int}(hx:x.pv m H=some (.int a))(hy:y.pv m H=some (.int b))(h:0<b∧b≤1000000000):(X.bin .fdiv x y).pv m H=some (.int (a/b)):=by
 refine pvb hx (pvb hy ?_)
 show (gdP (0<b∧b≤1000000000) (a/b)).map V.int=_
 rw [gdP_mk h];rfl
theorem c_draw(h:Fd H0 H fd cl cells spot){b:Int}(hb:0<b)(q:∀r,0≤r→r<b→Q (.int r) (H.set fd (fdO cl (spot+1)))):spN tabL (n+1) 21 [.ref fd,.int b] H Q:=by
 refine sp_go rfl rfl (zj (s_asgN (zv (zw _ (.ref cl) _ (pvb rfl (pvb rfl (sb_s h.fd rfl))) (zv (zw _ (.int spot) _ (pvb rfl (pvb rfl (sb_s h.fd rfl))) (zp ⟨rfl,?_⟩)))))))
 have hset:∀{P:AH→Prop},P (H.set fd (fdO cl (spot+1)))→setIW H (.ref fd) (.str 17) (.int (spot+1:Nat)) P:=fun {P} hP=>by
  show ifS (H fd) _
  exact zg h.fd ⟨by show 2<900;decide,hP⟩
 refine zj (s_setI (w:= .int (spot+1:Nat)) rfl rfl rfl (hset ?_))
 have hcl:(H.set fd (fdO cl (spot+1))) cl=some (.lst (zs cells)):=by rw [zu fun e=>h.ne e.symm];exact h.cl
 have hbg:∀x:Int,0≤x→x≤10000000000000→-big≤x∧x≤big:=fun x h1 h2=>by unfold big;lia
 have hsp:=h.b
 refine nn fun hC=>?_
 obtain ⟨hn,hn'⟩:=h.n
 obtain ⟨x,hx⟩:∃x,cells[spot % cells.length]?=some x:=⟨_,List.getElem?_eq_getElem (Nat.mod_lt _ hn)⟩
 refine hC ?_
 have h2:=hbg 2 (by decide) (by decide)
 have hs1:=hbg spot (by exact Int.natCast_nonneg _) (by lia)
 have hd0:0≤(spot:Int)/(cells.length:Int):=Int.ediv_nonneg (by exact Int.natCast_nonneg _) (by exact Int.natCast_nonneg _)
 have hd1:(spot:Int)/(cells.length:Int)≤spot:=Int.ediv_le_self _ (by exact Int.natCast_nonneg _)
 have hd:=hbg _ hd0 (by lia)
 have h21:=hbg (2*spot+1) (by exact Int.natCast_nonneg _) (by lia)
 exact zj (s_ret (zw _ _ _ (mod_ok (sp:=spN tabL n) (b:=b) (add_ok (pvb rfl (pvb (mod_ok (sp:=spN tabL n) (a:=spot) (b:=cells.length) rfl (len_pv rfl (ln_zs hcl)) (by exact Int.ofNat_le.mpr ‹_›)) (sb_l hcl (idx_nat (n:=spot % cells.length) (zs_get hx)))))
  (mul_ok (fdiv_ok (a:=spot) (b:=cells.length) rfl (len_pv rfl (ln_zs hcl)) ⟨by exact Int.ofNat_le.mpr ‹_›,by lia⟩) (add_ok (mul_ok (a:=2) (b:=spot) rfl rfl ⟨h2.1,h2.2,hs1.1,hs1.2⟩) rfl) ⟨hd.1,hd.2,h21.1,h21.2⟩)) rfl hb) (q _ (Int.emod_nonneg _ (by lia)) (Int.emod_lt_of_pos _ hb))))
theorem e_lcr{sp:Sp}{m:List V}{mask:List Bool}{x y cond b:X}{lo hi:Int}(hx:x.pv m H=some (.int lo))(hy:y.pv m H=some (.int hi))(b1: -big≤lo∧lo<big)(b2: -big≤hi∧hi<big)
  (h:cloop (fun _=>True) (fun x H acc K=>cond.ev sp (mskd m mask++[x]) H fun v H=>ifB v (X.cw sp b (mskd m mask++[x]) H acc K) (K acc H)) (rngL lo hi) H [] fun acc H=>∀a,H a=none→Q (.ref a) (H.set a (.lst acc))):(X.lcomp mask (.rng x y) cond b).ev sp m H Q:=by
 exact zw x _ (fun v H=>y.ev sp m H fun w H=>ifS v.i? fun i=>ifS w.i? fun j=>_) hx (zw y _ _ hy (zg (x:=lo) rfl (zg (x:=hi) rfl ⟨b1.1,b1.2,b2.1,b2.2,h⟩)))
theorem binW_i{a b:Int}(q:Q (.int (a+b)) H):binW H .add (.int a) (.int b) Q:=q
theorem e_iteE{sp:Sp}{m:List V}{c x y:X}(h:c.ev sp m H (brW (fun H=>x.ev sp m H Q) fun H=>y.ev sp m H Q)):(X.ite c x y).ev sp m H Q:=h
theorem brW_t{T F:AH→Prop}{H:AH}(h:T H):brW T F (.bool true) H:=h
theorem brW_f{T F:AH→Prop}{H:AH}(h:F H):brW T F (.bool false) H:=h
theorem orW_f{T:AH→Prop}{Q:V→AH→Prop}{H:AH}(h:T H):orW T Q (.bool false) H:=h
theorem boolW_{Q:V→AH→Prop}{H:AH}{b:Bool}(h:Q (.bool b) H):boolW Q (.bool b) H:=h
noncomputable def Lits(N:Nat)(c:List Int):Prop:=(∀x∈c,x≠0∧x.natAbs≤N)∧c.length≤3
theorem Fd.none(h:Fd H0 H fd cl cells spot){x:Addr}(hx:H x=none):H0 x=none:=by
 generalize hh:H0 x=zq;induction zq with
 |none=>rfl
 |some o=>
  by_cases e:x=fd
  ·rw [e,h.fd] at hx;cases hx
  ·rw [h.ext x o hh e] at hx;cases hx
theorem Fd.put(h:Fd H0 H fd cl cells spot){x:Addr}{o:O}(hx:H0 x= .none)(h1:x≠fd)(h2:x≠cl):Fd H0 (H.set x o) fd cl cells spot:=
 ⟨fun y p hy hne=>by
  rw [zu fun e:y=x=>(by rw [e,hx] at hy;cases hy)];exact h.ext y p hy hne,by rw [zu fun e=>h1 e.symm];exact h.fd,by rw [zu fun e=>h2 e.symm];exact h.cl,h.b,h.n⟩
theorem c_literals{N k:Nat}(h:Fd H0 H fd cl cells spot)(hs:spot+6<100000)(hN0:1≤N)(hk:k≤3)(q:∀H' y c,Fd H0 H' fd cl cells (spot+2*k)→H0 y=none→H' y=some (.lst (zs c))→Lits N c→Q (.ref y) H'):spN tabL (n+2) 22 [.ref fd,.int N,.int k] H Q:=by
 have hsz:(2000:Nat)<sz:=by decide
 refine sp_go rfl rfl (zj (vj (e_emptyL fun y hy=>?_)))
 refine zj (s_rng (lo:=0) (hi:=(k:Int)) rfl rfl (by decide) ⟨by unfold big;exact Int.natCast_nonneg _,by unfold big;lia⟩ ?_)
 refine floop_ind (fun i m H'=>Ex3 fun (c:List Int) (z1 z2:V)=>An6 (m=[.ref fd,.int N,.int k,.ref y,z1,z2]) (Fd H0 H' fd cl cells (spot+2*i)) (H' y=some (.lst (zs c))) (y≠cl) (c.length≤i) (∀x∈c,x≠0∧x.natAbs≤N)) _ (fun i v m H' K hv hI hK=>⟨trivial,?_⟩) (fun m H' hI=>⟨trivial,?_⟩) ⟨[],.un,.un,rfl,h.new hy,zx,(fun e=>by rw [e,h.cl] at hy;cases hy),Nat.le_refl _,fun x hx=>absurd hx List.not_mem_nil⟩
 ·refine nn fun hC=>?_
  obtain ⟨c,z1,z2,rfl,hF,hyl,hyc,hcl,hc⟩:=hI
  obtain ⟨rfl,hi⟩:=rng_at hv
  refine hC ?_
  have hi:i<k:=by assumption
  refine zj (vj (e_bin (zw (.c (.int 1)) (.int 1) _ rfl (e_callG (zv (zw (.loc 0) (.ref fd) _ rfl (zv (zw (.loc 1) (.int N) _ rfl (zp (c_draw hF (by exact Int.ofNat_le.mpr ‹_›) fun r hr0 hr1=>binW_i ?_))))))))))
  have h1:=hF.step (by lia)
  have hyf:y≠fd:=fun e=>by rw [e,hF.fd] at hyl;cases hyl
  have hyl1:(H'.set fd (fdO cl (spot+2*i+1))) y=some (.lst (zs c)):=by rw [zu hyf];exact hyl
  refine zj (s_ex (bm_l (l:=zs c) (b:=y) rfl hyl1 rfl (zv (e_iteE (e_cmp (e_callG (zv (zw (.loc 0) (.ref fd) _ rfl (zv (zw (.c (.int 2)) (.int 2) _ rfl (zp (c_draw h1 (by decide) fun t ht0 ht1=>?_))))))))))))
  have h2:=h1.step (by lia)
  have hyl2:((H'.set fd (fdO cl (spot+2*i+1))).set fd (fdO cl (spot+2*i+1+1))) y=some (.lst (zs c)):=by rw [zu hyf];exact hyl1
  generalize ((H'.set fd (fdO cl (spot+2*i+1))).set fd (fdO cl (spot+2*i+1+1)))=H2 at h2 hyl2
  have hend:∀x:Int,x≠0→x.natAbs≤N→biW .append [.ref y,.int x] H2 fun _ H=>S.skip.wp (spN tabL (n+1)) [.ref fd,.int N,.int k,.ref y,.int (0+(i:Int)),.int (1+r)] H K (rt fun v H=>True∧rt Q v H):=fun x hx0 hxN=>app_ok hyl2 (by rw [wd];lia) (zy (hK _ _ ⟨c++[x],_,_,rfl,(h2.put (h.none hy) hyf hyc),by rw [zx];exact congrArg (fun l=>some (O.lst l)) (zs_app (r:=[x])).symm,hyc,by rw [List.length_append,List.length_singleton];exact Nat.lt_succ_of_le ‹_›,fun x' hx'=>by
   rcases List.mem_append.mp hx' with hx'|hx'
   ·exact hc x' hx'
   ·rw [List.mem_singleton.mp hx'];exact ⟨hx0,hxN⟩⟩))
  refine zw (.c (.int 0)) (.int 0) _ rfl (cmpW_i eq_ii ?_)
  cases decide (t=0)
  ·exact brW_f (zw _ (.int (0-(1+r))) _ rfl (zp (hend _ (by lia) (by rw [Int.zero_sub,Int.natAbs_neg];exact na_r hr0 hr1))))
  ·exact brW_t (zw _ (.int (1+r)) _ rfl (zp (hend _ (by lia) (na_r hr0 hr1))))
 ·refine nn fun hC=>?_
  obtain ⟨c,z1,z2,rfl,hF,hyl,hyc,hcl,hc⟩:=hI
  refine hC ?_
  rw [rng_len,show ((k:Int)-0).toNat=k by lia] at hF hcl
  exact zj (s_ret (zw (.loc 3) (.ref y) _ rfl (q _ y c hF (h.none hy) hyl ⟨hc,by exact Nat.le_trans ‹_› ‹_›⟩)))
end
noncomputable def bz(l:List Bool):List V:=l.map .bool
noncomputable def okL(r:List Bool)(l:Int):Bool:=decide (r[l.natAbs-1]?=some (decide (0<l)))
noncomputable def satR(r:List Bool)(c:List Int):Bool:=c.any (okL r)
structure Rw(H:AH)(v:Addr)(P:List (Addr×List Bool)):Prop where
 at_:H v=some (.lst (P.map fun p=> .ref p.1))
 each:∀p∈P,H p.1=some (.tup (bz p.2))
theorem Rw.ext{H H':AH}{v:Addr}{P:List (Addr×List Bool)}(h:Rw H v P)(E:Ext H H'):Rw H' v P:=⟨E _ _ h.at_,fun p hp=>E _ _ (h.each p hp)⟩
theorem allSome_mapS{α β:Type}{f:α→Option β}{g:α→β}:∀{l:List α},(∀v∈l,f v=some (g v))→wv (l.map f)=some (l.map g)
 |[],_=>rfl
 |v::l,h=>by
  rw [List.map_cons,h v (List.mem_cons_self ..)]
  show (wv (l.map f)).map (g v::·)=_
  rw [allSome_mapS fun w hw=>h w (List.mem_cons_of_mem _ hw)];rfl
theorem rd_i{H:AH}{n:Nat}{i:Int}:rd H n (.int i)=some (.int i):=by induction n<;>rfl
theorem rd_b{H:AH}{n:Nat}{b:Bool}:rd H n (.bool b)=some (.bool b):=by induction n<;>rfl
theorem as_zs{H:AH}{n:Nat}{l:List Int}:wv ((zs l).map (rd H n))=some (l.map .int):=by
 unfold zs
 rw [List.map_map]
 exact allSome_mapS fun x _=>rd_i
theorem as_bz{H:AH}{n:Nat}{l:List Bool}:wv ((bz l).map (rd H n))=some (l.map .bool):=by
 unfold bz
 rw [List.map_map]
 exact allSome_mapS fun x _=>rd_b
theorem eqvAll_map{α:Type}{f:α→PyData}(h:∀x y,PyData.eqv (f x) (f y)=true↔x=y):∀{l l':List α},PyData.eqvAll (l.map f) (l'.map f)=true↔l=l'
 |[],[]=>by simp [PyData.eqvAll]
 |[],_::_=>by simp [PyData.eqvAll]
 |_::_,[]=>by simp [PyData.eqvAll]
 |x::l,y::l'=>by
  rw [List.map_cons,List.map_cons,PyData.eqvAll,Bool.and_eq_true,h,eqvAll_map h,List.cons.injEq]
theorem eqv_int(x y:Int):PyData.eqv (.int x) (.int y)=true↔x=y:=by
 rw [PyData.eqv];exact beq_iff_eq
theorem eqv_bool(x y:Bool):PyData.eqv (.bool x) (.bool y)=true↔x=y:=by
 rw [PyData.eqv];exact beq_iff_eq
section
variable{H:AH}{a b:Addr}
theorem rd_l{n:Nat}{l:List V}{ds:List PyData}(h:H a=some (.lst l))(e:wv (l.map (rd H n))=some ds):rd H (n+1) (.ref a)=some (.list ds):=by
 show (H.see a).bind _=_
 rw [wq h]
 show (wv (l.map (rd H n))).map PyData.list=_
 rw [e];rfl
theorem rd_t{n:Nat}{l:List V}{ds:List PyData}(h:H a=some (.tup l))(e:wv (l.map (rd H n))=some ds):rd H (n+1) (.ref a)=some (.tuple ds):=by
 show (H.see a).bind _=_
 rw [see_tup h]
 show (wv (l.map (rd H n))).map PyData.tuple=_
 rw [e];rfl
theorem eq_of{v w:V}{d e:PyData}(h:rd H 3 v=some d)(h':rd H 3 w=some e):cmpV H .eq v w=some (PyData.eqv d e):=by
 show (rd H 3 v).bind _=_
 rw [h,h'];rfl
theorem ne_of{v w:V}{d e:PyData}(h:rd H 3 v=some d)(h':rd H 3 w=some e):cmpV H .ne v w=some (!PyData.eqv d e):=by
 show ((rd H 3 v).bind _).map (!·)=_
 rw [h,h'];rfl
theorem ne_nil{l:List V}{ds:List PyData}(h:H a=some (.lst l))(e:wv (l.map (rd H 2))=some ds)(h':H b=some (.lst [])):cmpV H .ne (.ref a) (.ref b)=some (!ds.isEmpty):=by
 rw [ne_of (rd_l h e) (rd_l (ds:=[]) h' rfl)]
 induction ds<;>rfl
theorem mem_zs{l:List Int}{x:Int}:memL H (zs l) (.int x)=some (decide (x∈l)):=by
 unfold memL
 rw [as_zs,rd_i]
 show some ((l.map PyData.int).any fun y=>PyData.eqv y (.int x))=_
 rw [List.any_map]
 congr 1
 induction l with
 |nil=>rfl
 |cons y l ih=>
  rw [List.any_cons,ih]
  show (PyData.eqv (.int y) (.int x)||_)=_
  rw [show PyData.eqv (.int y) (.int x)=decide (y=x) by
   by_cases e:y=x
   ·rw [(eqv_int y x).mpr e,decide_eq_true e]
   ·rw [decide_eq_false e]
    cases hh:PyData.eqv (.int y) (.int x)
    ·rfl
    ·exact absurd ((eqv_int y x).mp hh) e]
  rw [←Bool.decide_or]
  exact decide_eq_decide.mpr (by rw [List.mem_cons,eq_comm])
theorem mem_ll{l:List Int}{x:Int}(h:H a=some (.lst (zs l))):memV H (.int x) (.ref a)=some (decide (x∈l)):=by
 show (H.see a).bind _=_
 rw [wq h];exact mem_zs
theorem as_rw{v:Addr}{P:List (Addr×List Bool)}(h:Rw H v P):wv ((P.map fun p=>V.ref p.1).map (rd H 2))=some (P.map fun p=> .tuple (p.2.map .bool)):=by
 rw [List.map_map]
 exact allSome_mapS fun p hp=>rd_t (h.each p hp) as_bz
theorem rw_mem{v:Addr}{P:List (Addr×List Bool)}{r:List Bool}(h:Rw H v P)(hb:H b=some (.tup (bz r)))(hr:∃p∈P,p.2=r):memV H (.ref b) (.ref v)=some true:=by
 show (H.see v).bind _=_
 rw [wq h.at_]
 show memL H _ _=_
 unfold memL
 rw [as_rw h,rd_t hb as_bz]
 show some ((P.map fun p=>PyData.tuple (p.2.map .bool)).any fun y=>PyData.eqv y (.tuple (r.map .bool)))=_
 congr 1
 obtain ⟨p,hp,rfl⟩:=hr
 rw [List.any_eq_true]
 refine ⟨_,List.mem_map_of_mem hp,?_⟩
 show PyData.eqv (.tuple (p.2.map .bool)) (.tuple (p.2.map .bool))=true
 rw [PyData.eqv]
 exact (eqvAll_map eqv_bool).mpr rfl
end
noncomputable def al(r:List Bool)(v:Nat):Bool:=r.getD (v-1) false
theorem okL_iff{r:List Bool}{l:Int}(h0:l≠0)(hl:l.natAbs≤r.length):okL r l=true↔ltr (al r) l:=by
 have hlt:=sub_1 (Int.natAbs_pos.mpr h0) hl
 unfold okL ltr al
 rw [List.getD_eq_getElem?_getD,List.getElem?_eq_getElem hlt]
 simp
structure RM(N:Nat)(P:List (Addr×List Bool))(M:(Nat→Bool)→Prop):Prop where
 len:∀p∈P,p.2.length=N
 mod:∀p∈P,M (al p.2)
 all:∀r:List Bool,r.length=N→M (al r)→∃p∈P,p.2=r
theorem RM.none{N:Nat}{P:List (Addr×List Bool)}{M:(Nat→Bool)→Prop}(R:RM N P M){l:List Int}(hz:∀x∈l,x≠0∧x.natAbs≤N)(h:∀α,M α→¬∀x∈l,ltr α x):(P.filter fun p=>l.all (okL p.2))=[]:=by
 rw [List.filter_eq_nil_iff]
 intro p hp hh
 rw [List.all_eq_true] at hh
 exact h _ (R.mod p hp) fun x hx=>(okL_iff (hz x hx).1 (by rw [R.len p hp];exact (hz x hx).2)).mp (hh x hx)
noncomputable def Oth(H0 H:AH)(lay:Ro→Addr)(s:St):Prop:=∀y o,H0 y=some o→H y=some o∧¬fp lay s y
theorem Oth.sf{H0 H H':AH}{lay lay':Ro→Addr}{s s':St}(h:Oth H0 H lay s)(So:Sol H lay s)(h':SF H lay s H' lay' s'):Oth H0 H' lay' s':=fun y o hy=>So.out h'.2 (h y o hy).1 (h y o hy).2
theorem Oth.ext{H0 H H':AH}{lay:Ro→Addr}{s:St}(h:Oth H0 H lay s)(E:Ext H H'):Oth H0 H' lay s:=fun y o hy=>⟨E _ _ (h y o hy).1,(h y o hy).2⟩
theorem Oth.rw{H0 H:AH}{lay:Ro→Addr}{s:St}(h:Oth H0 H lay s){v:Addr}{P:List (Addr×List Bool)}(r:Rw H0 v P):Rw H v P:=⟨(h _ _ r.at_).1,fun p hp=>(h _ _ (r.each p hp)).1⟩
noncomputable def kb(s:St)(v:Int):Bool:=match get s.kn v with
 |some (.bool b)=>b
 |_=>false
noncomputable def row0(s:St)(N:Nat):List Bool:=(List.range N).map fun (i:Nat)=>kb s (1+(i:Int))
section
variable{N:Nat}{M:(Nat→Bool)→Prop}{s:St}{asked:List Int}
theorem row0_len:(row0 s N).length=N:=by unfold row0;rw [List.length_map,List.length_range]
theorem row0_al{v:Nat}(h1:1≤v)(h2:v≤N):al (row0 s N) v=kb s v:=by
 unfold al row0
 rw [List.getD_eq_getElem?_getD,List.getElem?_map,List.getElem?_range (sub_1 h1 h2)]
 show kb s (1+((v-1:Nat):Int))=_
 rw [i_one h1]
theorem Win.model(W:Win N asked s)(S:Stb N M s):M (al (row0 s N))∧∀l∈asked,ltr (al (row0 s N)) l:=by
 refine nn fun hC=>?_
 obtain ⟨cv,wi,pr⟩:=S.g W.ref
 refine hC ?_
 have C:=S.c
 have hin:∀l∈s.ro,ltr (al (row0 s N)) l:=fun l hl=>by
  have hz:=C.td.nz l hl
  unfold ltr
  rw [row0_al (by exact Int.natAbs_pos.mpr (And.left ‹_›)) hz.2]
  unfold kb
  rw [(C.td.kn l.natAbs (.bool (decide (0<l)))).mpr ⟨l,hl,rfl,rfl⟩]
 have hor:∀l:Int,l≠0→l.natAbs≤N→l∈s.ro∨-l∈s.ro:=fun l h0 hl=>by
  rcases C.td.say h0 with ⟨h,_⟩|⟨h,_⟩|⟨h,_⟩
  ·exact .inl h
  ·exact .inr h
  ·refine nn fun hC=>?_
   obtain ⟨v,hv⟩:=get_mem (W.kn l.natAbs (by lia) (by exact Int.ofNat_le.mpr ‹_›))
   obtain ⟨x,hx,e,_⟩:=(C.td.kn _ _).mp hv
   refine hC ?_
   exact absurd (by exact na_i ‹_›) (h x hx)
 refine ⟨cv _ (fun c hc=>?_) fun i l hl _=>hin l (List.mem_of_getElem? hl),fun l hl=>hin l (W.all l hl)⟩
 obtain ⟨k,hk⟩:=List.mem_iff_getElem?.mp hc
 obtain ⟨h1,h2,h3⟩:=C.rk c hc
 match c,hk,h1,h3 with
 |w::w'::r,hk,_,h3=>
  have hw:=h3 w (List.mem_cons_self ..)
  rcases hor w hw.1 hw.2 with h|h
  ·exact ⟨w,List.mem_cons_self ..,hin w h⟩
  ·refine nn fun hC=>?_
   obtain ⟨i,hi⟩:=List.mem_iff_getElem?.mp h
   obtain ⟨j,hj,_⟩:=pr k _ w w' hk (.inl ⟨rfl,rfl⟩) i (by rw [W.seen];exact (List.getElem?_eq_some_iff.mp hi).1) hi
   refine hC ?_
   exact ⟨w',List.mem_cons_of_mem _ (List.mem_cons_self ..),hin w' (List.mem_of_getElem? hj)⟩
end
section
variable{sp:Sp}{m:List V}{H:AH}{Q:V→AH→Prop}
theorem idx_last{l:List V}{v:V}(h:l.getLast?=some v):idx l (-1)=some v:=by
 have hne:l≠[]:=fun e=>by rw [e] at h;cases h
 have hpos:=List.length_pos_iff.mpr hne
 unfold idx
 rw [if_neg (by decide),if_pos (idx_p hpos),idx_t hpos,←List.getLast?_eq_getElem?]
 exact h
end
section
variable{n:Nat}{H:AH}{sp:Sp}{m:List V}{Q:V→AH→Prop}{N:Nat}
theorem any_fil{α β:Type}{p:α→Bool}{f:α→β}:∀{l:List α},(!((l.filter p).map f).isEmpty)=l.any p
 |[]=>rfl
 |x::l=>by
  rw [List.any_cons,List.filter_cons,←any_fil (l:=l) (f:=f)]
  induction p x<;>rfl
theorem e_lst{xs:List X}(h:X.evs sp xs m H fun vs H=>∀a,H a=none→Q (.ref a) (H.set a (.lst vs))):(X.list xs).ev sp m H Q:=h
theorem e_filt{α:Type}{mask:List Bool}{x cond:X}{k:Nat}{f:α→V}{p:α→Bool}{l:List α}{b:Addr}{o:O}(hx:x.pv m H=some (.ref b))(hb:H b=some o)(ho:o= .lst (l.map f)∨o= .tup (l.map f))
  (hk:∀a (H':AH),(X.loc k).pv (mskd m mask++[f a]) H'=some (f a)) (hl:l.length<sz)
  (hc:∀a∈l,∀H' (R:V→AH→Prop),Ext H H'→(∀H'',Ext H' H''→R (.bool (p a)) H'')→cond.ev sp (mskd m mask++[f a]) H' R)
  (q:∀H' y,Ext H H'→H y=none→H' y=some (.lst ((l.filter p).map f))→Q (.ref y) H'):(X.lcomp mask (.src x) cond (.emit (.loc k))).ev sp m H Q:=by
 refine e_lc (zw x _ _ hx (it_lt hb ho ?_))
 refine cloop_ind (fun i acc H'=>Ext H H'∧acc=((l.take i).filter p).map f) _ (fun i v acc H' K hv hI hK=>?_) (fun acc H' hI=>?_) ⟨.refl,rfl⟩
 ·obtain ⟨E,rfl⟩:=hI
  rw [List.getElem?_map] at hv
  obtain ⟨a,ha,rfl⟩:=Option.map_eq_some_iff.mp hv
  refine ⟨see_lt (E _ _ hb) ho,hc a (List.mem_of_getElem? ha) H' _ E fun H2 E2=>?_⟩
  have e:(l.take (i+1)).filter p=(l.take i).filter p++[a].filter p:=by rw [List.take_add_one,ha,List.filter_append];rfl
  have hlt:=(List.getElem?_eq_some_iff.mp ha).1
  generalize hp:p a=zq;induction zq with
  |false=>
   rw [List.filter_cons,if_neg (by rw [hp];decide),List.filter_nil,List.append_nil] at e
   exact zg (o:=(V.bool false).b?) rfl (hK _ _ ⟨E.trans E2,by rw [e]⟩)
  |true=>
   rw [List.filter_cons,if_pos hp,List.filter_nil] at e
   have h7:=List.length_filter_le p (l.take i)
   rw [List.length_take] at h7
   refine zg (o:=(V.bool true).b?) rfl ?_
   show X.cw sp (.emit (.loc k)) _ _ _ _
   refine (?_:(X.loc k).ev sp _ H2 _)
   exact zw (.loc k) _ _ (hk a H2) ⟨by rw [List.length_map];lia,hK _ _ ⟨E.trans E2,by rw [e,List.map_append];rfl⟩⟩
 ·obtain ⟨E,rfl⟩:=hI
  rw [List.length_map,List.take_length]
  exact ⟨see_lt (E _ _ hb) ho,fun y hy=>q _ y (E.new (E.none hy)) (E.none hy) zx⟩
theorem c_keeps{w cb:Addr}{r:List Bool}{c:List Int}{o:O}(hw:H w=some (.tup (bz r)))(hc:H cb=some o)(ho:o= .lst (zs c)∨o= .tup (zs c))(hcz:∀x∈c,x≠0∧x.natAbs≤r.length)(hcl:c.length<sz)
  (q:∀H',Ext H H'→Q (.bool (satR r c)) H'):spN tabL (n+1) 23 [.ref w,.ref cb] H Q:=by
 refine sp_go rfl rfl (zj (s_ret (e_cmp (e_filt (f:=V.int) (p:=okL r) (l:=c) (b:=cb) rfl hc ho (fun _ _=>rfl) hcl (fun x hx H' R E hR=>zw _ (.bool (okL r x)) _ ?_ (hR _ .refl)) fun H1 y E hy h1=>e_emptyL fun z hz=>?_))))
 ·have hx0:=hcz x hx
  have hlt:=sub_1 (Int.natAbs_pos.mpr hx0.1) hx0.2
  obtain ⟨b,hb⟩:∃b,r[x.natAbs-1]?=some b:=⟨_,List.getElem?_eq_getElem hlt⟩
  have hok:okL r x=(b==decide (0<x)):=by
   unfold okL
   rw [hb]
   induction b<;>induction decide (0<x)<;>rfl
  have e1:(X.bin .sub (.bi .abs [(.loc 2)]) (.c (.int 1))).pv [.ref w,.un,.int x] H'=some (.int (x.natAbs-1:Nat)):=by
   refine pvb (abs_pv (i:=x) rfl) (pvb (x:= .int 1) rfl ?_)
   show some (V.int ((x.natAbs:Int)-1))=_
   rw [i_sub1 (Int.natAbs_pos.mpr hx0.1)]
  have e2:(bz r)[x.natAbs-1]?=some (.bool b):=by
   unfold bz
   rw [List.getElem?_map,hb];rfl
  refine pvb (x:= .bool b) (pvb (x:= .ref w) rfl (pvb e1 (sb_t (E _ _ hw) (idx_nat e2)))) (pvb (x:= .bool (decide (0<x))) rfl (pcm ?_))
  rw [hok];rfl
 ·have hyz:y≠z:=fun e=>by rw [e,show H1 z=none from hz] at h1;cases h1
  refine cmpW_i (b:=satR r c) ?_ (q _ (E.new (E.none hz)))
  rw [ne_nil (l:=zs (c.filter (okL r))) (by rw [zu hyz];exact h1) as_zs zx]
  exact congrArg some any_fil
end
noncomputable def rowsOf:Nat→List (List Bool)
 |0=>[[]]
 |i+1=>(rowsOf i).map (·++[false])++(rowsOf i).map (·++[true])
theorem rowsOf_mem:∀{i:Nat} {r:List Bool},r∈rowsOf i↔r.length=i
 |0,r=>by
  show r∈[[]]↔_
  rw [List.mem_singleton,List.length_eq_zero_iff]
 |i+1,r=>by
  show r∈(rowsOf i).map (·++[false])++(rowsOf i).map (·++[true])↔_
  rw [List.mem_append,List.mem_map,List.mem_map]
  constructor
  ·rintro (⟨s,hs,rfl⟩|⟨s,hs,rfl⟩)<;>rw [List.length_append,rowsOf_mem.mp hs]<;>rfl
  ·intro h
   have hne:r≠[]:=fun e=>by rw [e] at h;cases h
   have hd:r.dropLast∈rowsOf i:=rowsOf_mem.mpr (by rw [List.length_dropLast,h];rfl)
   have e:=List.dropLast_concat_getLast hne
   cases hl:r.getLast hne
   ·rw [hl] at e;exact .inl ⟨_,hd,e⟩
   ·rw [hl] at e;exact .inr ⟨_,hd,e⟩
theorem rowsOf_len:∀{i:Nat},(rowsOf i).length=2^i
 |0=>rfl
 |i+1=>by
  show ((rowsOf i).map _++(rowsOf i).map _).length=_
  rw [List.length_append,List.length_map,List.length_map,Nat.pow_succ,rowsOf_len];lia
section
variable{N:Nat}{M M':(Nat→Bool)→Prop}{P:List (Addr×List Bool)}
theorem satR_iff{r:List Bool}{c:List Int}(hz:∀x∈c,x≠0∧x.natAbs≤r.length):satR r c=true↔Sat (al r) c:=by
 unfold satR
 rw [List.any_eq_true]
 constructor
 ·rintro ⟨x,hx,h⟩
  exact ⟨x,hx,(okL_iff (hz x hx).1 (hz x hx).2).mp h⟩
 ·rintro ⟨x,hx,h⟩
  exact ⟨x,hx,(okL_iff (hz x hx).1 (hz x hx).2).mpr h⟩
theorem RM.kept(R:RM N P M){c:List Int}(hz:∀x∈c,x≠0∧x.natAbs≤N):RM N (P.filter fun p=>satR p.2 c) (fun α=>M α∧Sat α c):=by
 refine ⟨fun p hp=>R.len p (List.mem_filter.mp hp).1,fun p hp=>?_,fun r hr hM=>?_⟩
 ·obtain ⟨h1,h2⟩:=List.mem_filter.mp hp
  exact ⟨R.mod p h1,(satR_iff (by rw [R.len p h1];exact hz)).mp h2⟩
 ·obtain ⟨p,hp,rfl⟩:=R.all r hr hM.1
  exact ⟨p,List.mem_filter.mpr ⟨hp,(satR_iff (by rw [hr];exact hz)).mpr hM.2⟩,rfl⟩
theorem RM.iff(R:RM N P M)(h:∀α,M α↔M' α):RM N P M':=by
 obtain rfl:M=M':=funext fun α=>propext (h α)
 exact R
theorem RM.first(h:P.map (·.2)=rowsOf N):RM N P fun _=>True:=by
 refine ⟨fun p hp=>rowsOf_mem.mp (by rw [←h];exact List.mem_map_of_mem hp),fun _ _=>trivial,fun r hr _=>?_⟩
 have:r∈P.map (·.2):=by rw [h];exact rowsOf_mem.mpr hr
 exact List.mem_map.mp this
end
section
variable{n:Nat}{H:AH}{sp:Sp}{m:List V}{Q:V→AH→Prop}{N:Nat}{P:List (Addr×List Bool)}
theorem add_tt{a b:Addr}{l r:List V}(h:H a=some (.tup l))(h':H b=some (.tup r))(hl:l.length+r.length≤sz)(q:∀x,Ext H (H.set x (.tup (l++r)))→Q (.ref x) (H.set x (.tup (l++r)))):binW H .add (.ref a) (.ref b) Q:=by
 show ifS (H a) _
 refine zg h (zg h' ?_)
 refine ⟨hl,fun x hx=>q x ?_⟩
 rcases hx with hx|hx
 ·exact Ext.refl.new hx
 ·rw [set_same hx];exact .refl
theorem RM.le(hP:P.map (·.2)=rowsOf N)(hN:N≤5):P.length≤32:=by
 have:=congrArg List.length hP
 rw [List.length_map,rowsOf_len] at this
 have h2:2^N≤2^5:=Nat.pow_le_pow_right (by decide) hN
 lia
theorem w_half{y cb:Addr}{v z1 z2:V}(b:Bool)(hr:Rw H y P)(hPl:P.length≤32)(hpl:∀p∈P,p.2.length≤5)(q:∀H' y' P',Ext H H'→H y'=none→Rw H' y' P'→P'.map (·.2)=(P.map (·.2)).map (·++[b])→Q (.ref y') H'):
  (X.lcomp [false,false,false,false,false] (.src (.loc 2)) (.c (.bool true)) (.emit (.bin .add (.loc 5) (.tup [(.c (.bool b))])))).ev sp [v,.ref cb,.ref y,z1,z2] H Q:=by
 have hsz:(2000:Nat)<sz:=by decide
 refine e_lc (zw (.loc 2) (.ref y) _ rfl (it_l hr.at_ ?_))
 refine cloop_ind (fun j acc H'=>Ext H H'∧∃(P':List (Addr×List Bool)),An3 (acc=P'.map (fun p=> .ref p.1)) ((∀p∈P',H' p.1=some (.tup (bz p.2)))) (P'.map (·.2)=(P.take j).map fun p=>p.2++[b])) _ (fun j v acc H' K hv hI hK=>?_) (fun acc H' hI=>?_) ⟨.refl,[],rfl,fun p h=>(by cases h),rfl⟩
 ·obtain ⟨E,P',rfl,hP',hm⟩:=hI
  rw [List.getElem?_map] at hv
  obtain ⟨p,hp,rfl⟩:=Option.map_eq_some_iff.mp hv
  have hpm:=List.mem_of_getElem? hp
  have hjl:=(List.getElem?_eq_some_iff.mp hp).1
  have hl':P'.length≤32:=by
   have:=congrArg List.length hm
   rw [List.length_map,List.length_map,List.length_take] at this
   lia
  refine ⟨wq (E _ _ hr.at_),pvT ?_⟩
  refine (?_:(X.bin .add (.loc 5) (.tup [(.c (.bool b))])).ev sp _ H' _)
  refine e_bin (zw (.loc 5) (.ref p.1) _ rfl (e_tup (zv (zw (.c (.bool b)) (.bool b) _ rfl (zp fun w hw=>?_)))))
  have Ew:=E.new (o:= .tup [.bool b]) (E.none hw)
  have hP1:∀p∈P',(H'.set w (.tup [.bool b])) p.1=some (.tup (bz p.2)):=fun p hp=>by rw [zu fun e=>by have:=hP' p hp;rw [e,show H' w=none from hw] at this;cases this];exact hP' p hp
  have hbl:(bz p.2).length≤5:=by unfold bz;rw [List.length_map];exact hpl p hpm
  refine add_tt (l:=bz p.2) (r:=[.bool b]) (Ew _ _ (hr.each p hpm)) zx (by simp only [List.length_cons,List.length_nil];lia) fun x Ex=>⟨by rw [List.length_map];lia,?_⟩
  refine hK _ _ ⟨Ew.trans Ex,P'++[(x,p.2++[b])],by rw [List.map_append];rfl,fun p' hp'=>?_,by rw [List.take_add_one,hp,List.map_append,hm,List.map_append];rfl⟩
  rcases List.mem_append.mp hp' with hp'|hp'
  ·exact Ex _ _ (hP1 p' hp')
  ·rw [List.mem_singleton.mp hp',zx];unfold bz;rw [List.map_append];rfl
 ·refine nn fun hC=>?_
  obtain ⟨E,P',rfl,hP',hm⟩:=hI
  refine hC ?_
  rw [List.length_map,List.take_length] at hm
  refine ⟨wq (E _ _ hr.at_),fun z hz=>q _ z P' (E.new (E.none hz)) (E.none hz) ⟨zx,fun p hp=>?_⟩ ?_⟩
  ·rw [zu fun e=>by have:=hP' p hp;rw [e,show H' z=none from hz] at this;cases this];exact hP' p hp
  ·rw [hm,List.map_map];rfl
theorem c_worlds{cb:Addr}{cls:List (List Int)}(hcl:Cls H cb cls)(hN:N≤5)(hok:∀c∈cls,(∀x∈c,x≠0∧x.natAbs≤N)∧c.length<64)
  (q:∀H' y P,Ext H H'→H y=none→Rw H' y P→RM N P (All cls)→P.length≤32→Q (.ref y) H'):spN tabL (n+2) 24 [.int N,.ref cb] H Q:=by
 have hsz:(2000:Nat)<sz:=by decide
 refine sp_go rfl rfl (zj (vj (e_lst (zv (e_tup (zp fun t ht=>zp fun y0 hy0=>?_))))))
 have E0:Ext H ((H.set t (.tup [])).set y0 (.lst [.ref t])):=(Ext.refl.new ht).new ((Ext.refl.new ht).none hy0)
 have hR0:Rw ((H.set t (.tup [])).set y0 (.lst [.ref t])) y0 [(t,[])]:=⟨zx,fun p hp=>by
  rw [List.mem_singleton.mp hp,zu fun e=>by rw [←e,zx] at hy0;cases hy0];exact zx⟩
 have hy0:H y0=none:=(Ext.refl.new ht).none hy0
 refine zj (s_rng (lo:=0) (hi:=(N:Int)) rfl rfl (by decide) ⟨by unfold big;exact Int.natCast_nonneg _,by unfold big;lia⟩ ?_)
 refine floop_ind (fun i m H'=>Ex4 fun (y:Addr) (P:List (Addr×List Bool)) (z1 z2:V)=>An5 (m=[.int N,.ref cb,.ref y,z1,z2]) (Ext H H') (H y=none) (Rw H' y P) (P.map (·.2)=rowsOf i)) _ (fun i v m H' K hv hI hK=>⟨trivial,?_⟩) (fun m H' hI=>⟨trivial,?_⟩) ⟨y0,_,.un,.un,rfl,E0,hy0,hR0,rfl⟩
 ·refine nn fun hC=>?_
  obtain ⟨y,P,z1,z2,rfl,E,hy,hR,hP⟩:=hI
  obtain ⟨rfl,hi⟩:=rng_at hv
  refine hC ?_
  have hi:i<N:=by assumption
  have hPl:=RM.le hP (by exact Nat.le_of_lt (Nat.lt_of_lt_of_le ‹_› ‹_›))
  have hpl:∀p∈P,p.2.length≤5:=fun p hp=>by
   have:=rowsOf_mem.mp (show p.2∈rowsOf i by rw [←hP];exact List.mem_map_of_mem hp)
   lia
  refine zj (vj (e_bin (w_half false hR hPl hpl fun H1 y1 P1 E1 hy1 hR1 hP1=>w_half true (hR.ext E1) hPl hpl fun H2 y2 P2 E2 hy2 hR2 hP2=>?_)))
  have hR1:=hR1.ext E2
  have hl1:P1.length=P.length:=by have:=congrArg List.length hP1;simpa using this
  have hl2:P2.length=P.length:=by have:=congrArg List.length hP2;simpa using this
  refine add_ll hR1.at_ hR2.at_ (by rw [List.length_map,List.length_map];lia) fun z hz=>zy (hK _ _ ⟨z,P1++P2,_,_,rfl,(E.trans (E1.trans E2)).new ((E.trans (E1.trans E2)).none hz),(E.trans (E1.trans E2)).none hz,⟨by rw [zx,List.map_append],fun p hp=>?_⟩,by rw [List.map_append,hP1,hP2,hP];rfl⟩)
  have hp2:H2 p.1=some (.tup (bz p.2)):=(List.mem_append.mp hp).elim (hR1.each p) (hR2.each p)
  rw [zu fun e=>by rw [e,hz] at hp2;cases hp2];exact hp2
 refine nn fun hC=>?_
 obtain ⟨y,P,z1,z2,rfl,E,hy,hR,hP⟩:=hI
 rw [rng_len,show ((N:Int)-0).toNat=N by exact t_0] at hP
 have hPl:=RM.le hP hN
 obtain ⟨f,hcb,hf⟩:=hcl.at_
 refine hC ?_
 refine zj (s_for (zw (.loc 1) (.ref cb) _ rfl (it_l (E _ _ hcb) ?_)))
 refine floop_ind (fun j m H'=>Ex3 fun (y:Addr) (P:List (Addr×List Bool)) (z2:V)=>An6 (m=[.int N,.ref cb,.ref y,z1,z2]) (Ext H H') (H y=none) (Rw H' y P) (RM N P (All (cls.take j))) (P.length≤32)) _ (fun j v m H' K hv hI hK=>?_) (fun m H' hI=>?_) ⟨y,P,z2,rfl,E,hy,hR,(RM.first hP).iff fun α=>⟨fun _ c hc=>(by cases hc),fun _=>trivial⟩,hPl⟩
 ·clear hR hP hPl hy
  obtain ⟨y,P,z2,rfl,E,hy,hR,hM,hPl⟩:=hI
  have hj:=(List.getElem?_eq_some_iff.mp hv).1
  rw [refs_len] at hj
  rw [refs_get hj] at hv
  cases hv
  have hc:cls[j]?=some cls[j]:=List.getElem?_eq_getElem hj
  generalize cls[j]=c at hc
  have hcm:=hok c (List.mem_of_getElem? hc)
  have hfj:=hf j c hc
  refine ⟨wq (E _ _ hcb),zj (vj (e_filt (f:=fun p:Addr×List Bool=>V.ref p.1) (p:=fun p=>satR p.2 c) (l:=P) (b:=y) rfl hR.at_ (.inl rfl) (fun _ _=>rfl) (by lia) (fun p hp H1 R E1 hR1=>?_) fun H1 y1 E1 hy1 h1=>zy (hK _ _ ⟨y1,P.filter fun p=>satR p.2 c,_,rfl,E.trans E1,E.none hy1,⟨h1,fun p hp=>E1 _ _ (hR.each p (List.mem_filter.mp hp).1)⟩,(hM.kept hcm.1).iff fun α=>?_,Nat.le_trans (List.length_filter_le ..) hPl⟩)))⟩
  ·refine e_callG (zv (zw (.loc 5) (.ref p.1) _ rfl (zv (zw (.loc 4) (.ref (f j)) _ rfl (zp (c_keeps (E1 _ _ (hR.each p hp)) (E1 _ _ (E _ _ hfj)) (.inr rfl) (by rw [hM.len p hp];exact hcm.1) (by lia) hR1))))))
  ·constructor
   ·rintro ⟨h7,h8⟩ c' hc'
    rcases (wy hc).mp hc' with hc'|rfl
    ·exact h7 c' hc'
    ·exact h8
   ·exact fun h7=>⟨fun c' hc'=>h7 c' ((wy hc).mpr (.inl hc')),h7 c ((wy hc).mpr (.inr rfl))⟩
 ·clear hR hP hPl hy
  obtain ⟨y,P,z2,rfl,E,hy,hR,hM,hPl⟩:=hI
  rw [refs_len,List.take_length] at hM
  exact ⟨wq (E _ _ hcb),zj (s_ret (zw (.loc 2) (.ref y) _ rfl (q _ y P E hy hR hM hPl)))⟩
end
theorem notW_{Q:V→AH→Prop}{H:AH}{b:Bool}(h:Q (.bool (!b)) H):notW Q (.bool b) H:=h
theorem b_isB{Q:V→AH→Prop}{H:AH}{b:Bool}(q:Q (.bool true) H):biW (.isBool ()) [.bool b] H Q:=by
 show bi1 (.isBool ()) (.bool b) H Q
 exact zg (o:=V.b? (V.bool b)) (x:=b) (k:=fun _=>Q (.bool true) H) rfl q
section
variable{n:Nat}{H0 H:AH}{lay:Ro→Addr}{s:St}{a:Addr}{Q:V→AH→Prop}{N:Nat}{M:(Nat→Bool)→Prop}{m:List V}
theorem eq_nil{a b:Addr}{l:List V}{ds:List PyData}(h:H a=some (.lst l))(e:wv (l.map (rd H 2))=some ds)(h':H b=some (.lst [])):cmpV H .eq (.ref a) (.ref b)=some ds.isEmpty:=by
 rw [eq_of (rd_l h e) (rd_l (ds:=[]) h' rfl)]
 cases ds<;>rfl
theorem all_fil{α β:Type}{p:α→Bool}{f:α→β}{l:List α}:((l.filter fun x=>!p x).map f).isEmpty=l.all p:=by
 have:=any_fil (p:=fun x=>!p x) (f:=f) (l:=l)
 rw [List.all_eq_not_any_not,←this,Bool.not_not]
theorem e_able{mask:List Bool}{j:Nat}{rv ab:Addr}{P:List (Addr×List Bool)}{asked:List Int}{o:O}(hm:(X.loc 2).pv m H=some (.ref rv))(hr:Rw H rv P)(hb:H ab=some o)(ho:o= .lst (zs asked)∨o= .tup (zs asked))
  (h7:∀(r:Addr) (H':AH),(X.loc 7).pv (mskd m mask++[V.ref r]) H'=some (.ref r)) (hj:∀(r:Addr) (H':AH),(X.loc j).pv (mskd m mask++[V.ref r]) H'=some (.ref ab)) (h8:∀(r:Addr) (x:Int) (H':AH),(X.loc 7).pv (mskd (mskd m mask++[V.ref r]) [false,false,false,false,false,false,false,true]++[V.int x]) H'=some (.ref r)∧(X.loc 8).pv (mskd (mskd m mask++[V.ref r]) [false,false,false,false,false,false,false,true]++[V.int x]) H'=some (.int x))
  (hlen:∀p∈P,p.2.length=N) (hz:∀x∈asked,x≠0∧x.natAbs≤N) (hal:asked.length≤3) (hPl:P.length≤32)
  (q:∀H' y,Ext H H'→H y=none→Rw H' y (P.filter fun p=>asked.all (okL p.2))→Q (.ref y) H'):
  (X.lcomp mask (.src (.loc 2)) (.cmp .eq (.lcomp [false,false,false,false,false,false,false,true] (.src (.loc j)) (.not (.callG 23 [(.loc 7),(.list [(.loc 8)])])) (.emit (.loc 8))) (.list [])) (.emit (.loc 7))).ev (spN tabL (n+1)) m H Q:=by
 have hsz:(2000:Nat)<sz:=by decide
 refine e_filt (f:=fun p:Addr×List Bool=>V.ref p.1) (p:=fun p=>asked.all (okL p.2)) (l:=P) (b:=rv) hm hr.at_ (.inl rfl) (fun p H'=>h7 _ H') (by lia) (fun p hp H' R E hR=>?_) fun H' y E hy h1=>q H' y E hy ⟨h1,fun p hp=>E _ _ (hr.each p (List.mem_filter.mp hp).1)⟩
 refine e_cmp (e_filt (f:=V.int) (p:=fun x=>!okL p.2 x) (l:=asked) (b:=ab) (hj _ _) (E _ _ hb) ho (fun x H1=>(h8 _ _ H1).2) (by lia) (fun x hx H1 R1 E1 hR1=>?_) fun H1 y1 E1 hy1 h1=>e_emptyL fun z hz=>?_)
 ·refine x_not (e_callG (zv (zw (.loc 7) (.ref p.1) _ (h8 _ _ _).1 (zv (e_lst (zv (zw (.loc 8) (.int x) _ (h8 _ _ _).2 (zp fun w hw=>zp ?_))))))))
  have Ew:Ext H1 (H1.set w (.lst [.int x])):=Ext.refl.new hw
  refine c_keeps (c:=[x]) (r:=p.2) (Ew _ _ (E1 _ _ (E _ _ (hr.each p hp)))) zx (.inl rfl) (fun x' hx'=>by rw [List.mem_singleton.mp hx',hlen p hp];exact hz x hx) (by simp only [List.length_cons,List.length_nil];lia) fun H2 E2=>notW_ ?_
  have e:satR p.2 [x]=okL p.2 x:=Bool.or_false _
  rw [e];exact hR1 _ (Ew.trans E2)
 ·have hyz:y1≠z:=fun e=>by rw [e,show H1 z=none from hz] at h1;cases h1
  refine cmpW_i (b:=asked.all (okL p.2)) ?_ (hR _ (E1.new (E1.none hz)))
  rw [eq_nil (l:=zs (asked.filter fun x=>!okL p.2 x)) (by rw [zu hyz];exact h1) as_zs zx,all_fil]
theorem c_solve0(So:Sol H lay s)(ha:lay .ins=a)(Sb:Stb N M s)(hN:N≤5)(hl:s.lim=0){ask:Addr}{asked:List Int}(hask:H ask=some (.lst (zs asked)))(nask:¬fp lay s ask)(hal:asked.length≤3)(hnz:∀l∈asked,l≠0∧l.natAbs≤N)(hrz:s.rows.length+400000<sz)(hlz:s.lg.length+400000<sz)
  (q1:∀H' lay' s',SF H lay s H' lay' s'→Stb N M s'→Win N asked s'→Gr N M 0 s s'→Q (.bool true) H')
  (q2:∀H' lay' s',SF H lay s H' lay' s'→Stb N M s'→Fal M asked s'→Gr N M 0 s s'→Q (.bool false) H'):spN tabL (n+4) 18 [.ref a,.ref ask] H Q:=
 (c_solve (Q:=rt Q) So ha Sb hN hask nask hal hnz hrz hlz (fun H' lay' s' a b c d=>rt_mk (fun h=>nomatch h) (q1 H' lay' s' a b c d)) (fun H' lay' s' a b c d=>rt_mk (fun h=>nomatch h) (q2 H' lay' s' a b c d)) fun _ _ _ _ _ _ h _=>absurd (hl.symm.trans h) (by decide):spX tabL (n+3) 18 [.ref a,.ref ask] H (rt Q))
set_option maxHeartbeats 2000000 in
theorem c_told(So:Sol H lay s)(ha:lay .ins=a)(Sb:Stb N M s)(hN:N≤5)(hl:s.lim=0)(hO:Oth H0 H lay s){rv:Addr}{P:List (Addr×List Bool)}(hr:Rw H0 rv P)(R:RM N P M)(hPl:P.length≤32){ab:Addr}{asked:List Int}(hab:H0 ab=some (.lst (zs asked)))(hal:asked.length≤3)(hnz:∀l∈asked,l≠0∧l.natAbs≤N)(hrz:s.rows.length+400000<sz)(hlz:s.lg.length+400000<sz)
  (q:∀H' lay' s',Oth H0 H' lay' s'→SF H lay s H' lay' s'→Stb N M s'→Gr N M 0 s s'→Q (.bool true) H'):spN tabL (n+5) 25 [.ref a,.int N,.ref rv,.ref ab] H Q:=by
 have hsz:(2000:Nat)<sz:=by decide
 refine sp_go rfl rfl (zj (vj (e_able (n:=n+3) (j:=3) (ab:=ab) rfl (hO.rw hr) (hO _ _ hab).1 (.inl rfl) (fun _ _=>rfl) (fun _ _=>rfl) (fun _ _ _=>⟨rfl,rfl⟩) R.len hnz hal hPl fun H1 y1 E1 hy1 hR1=>?_)))
 have h1:=E1.sf So
 have ha1:=h1.ins ha
 have hO1:=hO.sf So h1
 refine zj (vj (cm_ok (xs:=[.bi .toList [.loc 3]]) (P:=fun v H=>_) h1.1 ha1 rfl (zv (e_bi (zv (zw (.loc 3) (.ref ab) _ rfl (zp (b_list (seq_l (hO1 _ _ hab).1) fun x hx=>zp ?_))))))))
 have h2:=h1.trans (SF.junk h1.1 (o:= .lst (zs asked)) hx)
 have hyx:y1≠x:=fun e=>by have:=hR1.at_;rw [e,show H1 x=none from hx] at this;cases this
 have hR2:=hR1.ext (Ext.refl.new (o:= .lst (zs asked)) hx)
 have hx2:(H1.set x (.lst (zs asked))) x=some (.lst (zs asked)):=zx
 have nx:=h1.1.nfp hx
 have ny:¬fp lay s y1:=So.nfp hy1
 have nP:∀p∈P.filter fun p=>asked.all (okL p.2),¬fp lay s p.1:=fun p hp=>(hO _ _ (hr.each p (List.mem_filter.mp hp).1)).2
 generalize H1.set x (.lst (zs asked))=H2 at h2 hR2 hx2
 have ha2:=h2.ins ha
 have hout:∀{H' lay' s'},SF H2 lay s H' lay' s'→Rw H' y1 (P.filter fun p=>asked.all (okL p.2)):=fun h=>⟨(h2.1.out h.2 hR2.at_ ny).1,fun p hp=>(h2.1.out h.2 (hR2.each p hp) (nP p hp)).1⟩
 refine c_solve0 h2.1 ha2 Sb hN hl (ask:=x) (asked:=asked) hx2 nx hal hnz hrz hlz (fun H3 lay3 s3 h3 S3 W g3=>?_) fun H3 lay3 s3 h3 S3 F g3=>?_
 ·--told True
  have h23:=h2.trans h3
  have ha3:=h23.ins ha
  have hR3:=hout h3
  have ny3:=(h2.1.out h3.2 hR2.at_ ny).2
  obtain ⟨hM,hask⟩:=W.model S3
  have hin:∃p∈P.filter fun p=>asked.all (okL p.2),p.2=row0 s3 N:=by
   obtain ⟨p,hp,e⟩:=R.all _ row0_len hM
   refine ⟨p,List.mem_filter.mpr ⟨hp,?_⟩,e⟩
   rw [e,List.all_eq_true]
   exact fun l hl=>(okL_iff (hnz l hl).1 (by rw [row0_len];exact (hnz l hl).2)).mpr (hask l hl)
  refine zj (s_iteE (e_or (x_not (e_bi (zv (zw (.loc 5) (.bool true) _ rfl (zp (b_isB (notW_ (orW_f ?_))))))))))
  refine e_or (e_cmp (zw (.loc 5) (.bool true) _ rfl (e_cmp (zw (.loc 4) (.ref y1) _ rfl (e_emptyL fun z hz=>cmpW_i (b:=true) ?_ (cmpW_i (b:=false) rfl (orW_f (zw (.c (.bool false)) (.bool false) _ rfl (boolW_ (boolW_ (brW_f (zy ?_))))))))))))
  ·have hyz:y1≠z:=fun e=>by have:=hR3.at_;rw [e,show H3 z=none from hz] at this;cases this
   rw [ne_nil (by rw [zu hyz];exact hR3.at_) (as_rw (hR3.ext (Ext.refl.new (o:= .lst []) hz))) zx]
   obtain ⟨p,hp,_⟩:=hin
   cases hf:(P.filter fun p=>asked.all (okL p.2)) with
   |nil=>rw [hf] at hp;cases hp
   |cons _ _=>rfl
  have h4:=h23.trans (SF.junk h23.1 (o:= .lst []) hz)
  have hR4:=hR3.ext (Ext.refl.new (o:= .lst []) hz)
  generalize H3.set z (.lst [])=H4 at h4 hR4
  have ha4:=h4.ins ha
  have hb: -big≤(N:Int)+1∧(N:Int)+1<big:=⟨by unfold big;lia,by unfold big;lia⟩
  refine zj (s_ite (b:=true) rfl (fun _=>?_) fun h=>by cases h)
  refine zj (s_ret (e_cmp (e_bi (zv (e_lcr (lo:=1) (hi:=(N:Int)+1) rfl (add_ok rfl rfl) (by decide) hb ?_)))))
  refine cloop_ind (fun i acc H'=>H'=H4∧acc=bz ((List.range i).map fun (j:Nat)=>kb s3 (1+(j:Int)))) _ (fun i v acc H' K hv hI hK=>⟨trivial,?_⟩) (fun acc H' hI=>⟨trivial,?_⟩) ⟨rfl,rfl⟩
  ·obtain ⟨rfl,rfl⟩:=hI
   obtain ⟨rfl,hi⟩:=rng_at hv
   have hiN:i<N:=by rwa [t_1] at hi
   refine nn fun hC=>?_
   obtain ⟨w,hw⟩:=get_mem (W.kn (1+(i:Int)) (by lia) (by lia))
   obtain ⟨l,_,_,rfl⟩:=(S3.c.td.kn _ _).mp hw
   refine hC ?_
   refine pvT (cm_ok (xs:=[.loc 7]) (P:=fun v H=>_∧_) h4.1 ha4 rfl (zv (zw (.loc 7) (.int (1+(i:Int))) _ rfl (zp (c_value h4.1 ha4 S3.c.td.knOK ?_)))))
   rw [hw]
   refine ⟨by unfold bz;rw [List.length_map,List.length_map,List.length_range];lia,hK _ _ ⟨rfl,?_⟩⟩
   rw [List.range_succ,List.map_append]
   unfold bz
   rw [List.map_append]
   show _=_++[V.bool (kb s3 (1+(i:Int)))]
   unfold kb
   rw [hw];rfl
  ·obtain ⟨rfl,rfl⟩:=hI
   rw [rng_len,show ((N:Int)+1-1).toNat=N from t_1]
   intro y hy
   refine zp (tt_l zx fun z hz=>?_)
   have E:Ext H' ((H'.set y (.lst (bz (row0 s3 N)))).set z (.tup (bz (row0 s3 N)))):=(Ext.refl.new hy).new ((Ext.refl.new hy).none hz)
   have hz1:((H'.set y (.lst (bz (row0 s3 N)))).set z (.tup (bz (row0 s3 N)))) z=some (.tup (bz (row0 s3 N))):=zx
   have e0:((List.range N).map fun (j:Nat)=>kb s3 (1+(j:Int)))=row0 s3 N:=rfl
   rw [e0]
   generalize ((H'.set y (.lst (bz (row0 s3 N)))).set z (.tup (bz (row0 s3 N))))=H5 at E hz1
   have h5:=h4.trans (E.sf h4.1)
   refine zw (.loc 4) (.ref y1) _ rfl (cmpW_i (b:=true) (rw_mem (hR4.ext E) hz1 hin) ?_)
   exact q _ _ _ (hO.sf So h5) h5 S3 g3
 ·--told False
  have h23:=h2.trans h3
  have ha3:=h23.ins ha
  have hR3:=hout h3
  have hO3:=hO.sf So h23
  have hblz:∀l∈s3.bl,l≠0∧l.natAbs≤N:=fun l hl=>hnz l (F.sub l hl)
  have hblen:s3.bl.length≤3:=Nat.le_trans (nodup_le F.nd F.sub) hal
  have hno:∀α,M α→¬∀x∈asked,ltr α x:=fun α hα h=>F.sem α hα fun x hx=>h x (F.sub x hx)
  refine zj (s_iteE (e_or (x_not (e_bi (zv (zw (.loc 5) (.bool false) _ rfl (zp (b_isB (notW_ (orW_f ?_))))))))))
  refine e_or (e_cmp (zw (.loc 5) (.bool false) _ rfl (e_cmp (zw (.loc 4) (.ref y1) _ rfl (e_emptyL fun z hz=>cmpW_i (b:=false) ?_ (cmpW_i (b:=false) rfl (orW_f (zw (.c (.bool false)) (.bool false) _ rfl (boolW_ (boolW_ (brW_f (zy ?_))))))))))))
  ·have hyz:y1≠z:=fun e=>by have:=hR3.at_;rw [e,show H3 z=none from hz] at this;cases this
   rw [ne_nil (by rw [zu hyz];exact hR3.at_) (as_rw (hR3.ext (Ext.refl.new (o:= .lst []) hz))) zx,R.none hnz hno];rfl
  have h4:=h23.trans (SF.junk h23.1 (o:= .lst []) hz)
  generalize H3.set z (.lst [])=H4 at h4
  have ha4:=h4.ins ha
  have hO4:=hO.sf So h4
  refine zj (s_ite (b:=false) rfl (fun h=>by cases h) fun _=>zy ?_)
  refine zj (vj (cm_ok (xs:=[]) (P:=fun v H=>_) h4.1 ha4 rfl (zp (c_failed h4.1 ha4 ?_))))
  have hbl:∀{H'},Ext H4 H'→H' (lay3 .bl)=some (.tup (zs s3.bl)):=fun E=>E _ _ (h4.1.at_ .bl trivial)
  refine zj (s_iteE (e_cmp (e_filt (f:=V.int) (p:=fun x=>!decide (x∈asked)) (l:=s3.bl) (b:=lay3 .bl) rfl (hbl .refl) (.inr rfl) (fun _ _=>rfl) (by lia) (fun x hx H' R E hR=>?_) fun H5 y5 E5 hy5 h5=>e_emptyL fun w hw=>?_)))
  ·refine zw _ (.bool (!decide (x∈asked))) _ (pvb (x:= .int x) rfl (pvb (x:= .ref ab) rfl (pcm ?_))) (hR _ .refl)
   show (memV H' (.int x) (.ref ab)).map (!·)=_
   rw [mem_ll (E _ _ (hO4 _ _ hab).1)];rfl
  have hfil:(s3.bl.filter fun x=>!decide (x∈asked))=[]:=List.filter_eq_nil_iff.mpr fun x hx h=>by
   rw [decide_eq_true (F.sub x hx)] at h;cases h
  rw [hfil] at h5
  have hyw:y5≠w:=fun e=>by rw [e,show H5 w=none from hw] at h5;cases h5
  have E6:=E5.new (o:= .lst []) (E5.none hw)
  refine cmpW_i (b:=false) (ne_nil (ds:=[]) (by rw [zu hyw];exact h5) rfl zx) (brW_f (zy ?_))
  generalize H5.set w (.lst [])=H6 at E6
  refine zj (s_ret (e_cmp (e_able (n:=n+3) (j:=6) (ab:=lay3 .bl) rfl ((hO4.ext E6).rw hr) (hbl E6) (.inr rfl) (fun _ _=>rfl) (fun _ _=>rfl) (fun _ _ _=>⟨rfl,rfl⟩) R.len hblz hblen hPl fun H7 y7 E7 hy7 hR7=>e_emptyL fun u hu=>?_)))
  have hyu:y7≠u:=fun e=>by have:=hR7.at_;rw [e,show H7 u=none from hu] at this;cases this
  have h7:=hR7.at_
  rw [R.none hblz F.sem] at h7
  refine cmpW_i (b:=true) (eq_nil (ds:=[]) (by rw [zu hyu];exact h7) rfl zx) ?_
  have E8:=(E6.trans E7).new (o:= .lst []) ((E6.trans E7).none hu)
  have h8:=h4.trans (E8.sf h4.1)
  exact q _ _ _ (hO.sf So h8) h8 S3 g3
end
noncomputable def rgW(lo:Int)(K:List V→(AH→Prop)→(AH→AH)→AH→Prop):V→AH→Prop:=fun w H=>ifS w.i? fun j=> -big≤lo∧lo<big∧-big≤j∧j<big∧K (rngL lo j) (fun _=>True) (fun H=>H) H
section
variable{sp:Sp}{m:List V}{H:AH}{Q:V→AH→Prop}
theorem i_rng{x y:X}{lo:Int}{K:List V→(AH→Prop)→(AH→AH)→AH→Prop}(hx:x.pv m H=some (.int lo))(h:y.ev sp m H (rgW lo K)):X.iw sp (.rng x y) m H K:=by
 exact zw x _ (fun v H=>y.ev sp m H fun w H=>ifS v.i? fun i=>ifS w.i? fun j=> -big≤i∧i<big∧-big≤j∧j<big∧K (rngL i j) (fun _=>True) (fun H=>H) H) hx h
theorem rgW_i{lo j:Int}{K:List V→(AH→Prop)→(AH→AH)→AH→Prop}(b1: -big≤lo∧lo<big)(b2: -big≤j∧j<big)(h:K (rngL lo j) (fun _=>True) (fun H=>H) H):rgW lo K (.int j) H:=⟨b1.1,b1.2,b2.1,b2.2,h⟩
theorem s_forI{i:Nat}{it:X}{b:S}{P:List V→AH→Prop}{R:V→AH→Prop}(h:X.iw sp it m H fun items chk thaw H=>floop chk (fun v m H Q R=>b.wp sp (m.set i v) H Q R) items m H (fun m H=>P m (thaw H)) (rt fun v H=>chk H∧R v (thaw H))):(S.for_ i it b).wp sp m H P R:=h
theorem sl_hiS{x:X}{a:Addr}{l:List V}{j:X}{k:Nat}(hx:x.pv m H=some (.ref a))(h:H.see a=some (.lst l))(hj:j.pv m H=some (.int k))(q:∀y,H y=none→Q (.ref y) (H.set y (.lst (l.take k)))):(X.slice x (.c .none) j).ev sp m H Q:=by
 refine zw x _ _ hx (zw (.c .none) .none _ rfl (zw j _ _ hj (zg (x:=a) rfl (zg h (slO_l rfl clip_nat fun y hy=>?_)))))
 have:=q y hy
 rw [List.drop_zero]
 have e:l.take (min k l.length)=l.take k:=by
  rcases Nat.le_total k l.length with h|h
  ·rw [Nat.min_eq_left h]
  ·rw [Nat.min_eq_right h,List.take_length,List.take_of_length_le h]
 rw [e];exact this
theorem e_dictS{ks:List Nat}{xs:List X}(h:X.evs sp xs m H fun vs H=>∀a,H a=none→Q (.ref a) (H.set a (.att (ks.zip vs)))):(X.dictS ks xs).ev sp m H Q:=h
theorem e_new{f:Nat}{xs:List X}(h:X.evs sp xs m H fun vs H=>∀a d,H a=none→H d=none→a≠d→
   sp f (.ref a::vs) ((H.set a (.inst d)).set d (.att [])) fun v H=>v= .none∧Q (.ref a) H):(X.new f xs).ev sp m H Q:=h
theorem refs_of{α:Type}{cs:List (Addr×α)}:∃f:Nat→Addr,cs.map (fun p=>V.ref p.1)=refs cs.length f∧∀j p,cs[j]?=some p→f j=p.1:=by
 refine ⟨fun j=>(cs[j]?.map (·.1)).getD default,?_,fun j p hp=>by show (cs[j]?.map (·.1)).getD default=_;rw [hp];rfl⟩
 apply List.ext_getElem?
 intro j
 unfold refs
 rw [List.getElem?_map,List.getElem?_map]
 rcases Nat.lt_or_ge j cs.length with h|h
 ·rw [List.getElem?_range h,List.getElem?_eq_getElem h]
  show some (V.ref cs[j].1)=some (V.ref ((cs[j]?.map (·.1)).getD default))
  rw [List.getElem?_eq_getElem h];rfl
 ·rw [List.getElem?_eq_none h,List.getElem?_eq_none (by rw [List.length_range];exact h)];rfl
noncomputable def wh(H:AH)(lay:Ro→Addr)(s:St):AH:=fun y=>by
 classical exact if fp lay s y then none else H y
theorem outer_oth{lay:Ro→Addr}{s:St}:Oth (wh H lay s) H lay s:=fun y o h=>by
 unfold wh at h
 by_cases hf:fp lay s y
 ·rw [if_pos hf] at h;cases h
 ·rw [if_neg hf] at h;exact ⟨h,hf⟩
theorem outer_at{lay:Ro→Addr}{s:St}{y:Addr}{o:O}(h:H y=some o)(hf:¬fp lay s y):wh H lay s y=some o:=by
 unfold wh
 rw [if_neg hf];exact h
end
section
variable{H0 H H':AH}{fd cl:Addr}{cells:List Int}{spot:Nat}
theorem Fd.sol(h:Fd H H' fd cl cells spot){lay:Ro→Addr}{s:St}(So:Sol H lay s)(n:¬fp lay s fd):Sol H' lay s:=
 So.frame fun r u=>by
  rw [So.at_ r u]
  exact h.ext _ _ (So.at_ r u) fun e=>n ⟨r,u,e⟩
theorem Fd.self(hf:H fd=some (fdO cl spot))(hc:H cl=some (.lst (zs cells)))(hb:spot<100000)(hn:0<cells.length∧cells.length≤60):Fd H H fd cl cells spot:=⟨fun _ _ h _=>h,hf,hc,hb,hn⟩
end
section
variable{sp:Sp}{m:List V}{H:AH}{lay:Ro→Addr}{s:St}{a:Addr}{Q:V→AH→Prop}
theorem cm_okX(S:Sol H lay s)(ha:lay .ins=a){f:Nat}{o:X}{xs:List X}(ho:o.pv m H=some (.ref a))(q:X.evs sp xs m H fun vs H=>sp f (.ref a::vs) H Q):(X.callM f o xs).ev sp m H Q:=by
 exact zw o _ _ ho (zg (insV_mk (ha▸S.at_ .ins trivial) (S.at_ .att trivial)) q)
noncomputable def andW(r:AH→Prop)(Q:V→AH→Prop):V→AH→Prop:=fun v H=>ifB v (r H) (Q (.bool false) H)
theorem e_and{l r:X}(h:l.ev sp m H (andW (fun H=>r.ev sp m H (boolW Q)) Q)):(X.and l r).ev sp m H Q:=h
theorem andW_t{r:AH→Prop}(h:r H):andW r Q (.bool true) H:=h
theorem andW_f{r:AH→Prop}(h:Q (.bool false) H):andW r Q (.bool false) H:=h
end
noncomputable def St.wLim(s:St)(n:Int):St:={s with lim:=n}
section
variable{n:Nat}{H H':AH}{lay:Ro→Addr}{s:St}{a:Addr}{Q:V→AH→Prop}{N:Nat}{M:(Nat→Bool)→Prop}
theorem u_lim(So:Sol H lay s)(n:Int):SF H lay s (H.set (lay .att) (.att (put (attL lay s) 15 (.int n)))) lay (s.wLim n):=
 ⟨So.upd .att (s.wLim n) trivial (fun _ h=>h) (fun q h=>by induction q<;>first|rfl|exact absurd rfl h),.upd .att _ trivial (fun _ h=>h) fun _ _ h=>h⟩
theorem Stb.lim_(S:Stb N M s){n:Int}(h:n=0∨n=1):Stb N M (s.wLim n):=
 have C:=S.c
 ⟨⟨⟨C.td.nz,C.td.nd,C.td.kn,C.td.kK,C.td.hK,C.td.cK,C.td.lK,C.td.lB⟩,C.he,C.ca,C.srt,C.bs,C.sl,C.rk,C.rM,C.zM,C.ht,C.wn,C.wr,h⟩,fun h=>⟨(S.g h).1,⟨(S.g h).2.1.iff,(S.g h).2.1.nd⟩,(S.g h).2.2⟩,S.r⟩
noncomputable def limW(n:Nat)(vs:List V)(H:AH)(Q:V→AH→Prop):Prop:=
 vs.length=2∧(S.setA (.loc 0) 15 (.c (.int 1))).wp (spN tabL 0) vs H (fun m H=>(X.callM 18 (.loc 0) [.bi .toList [.loc 1]]).ev (spX tabL n) m H fun v H=>
  (S.setA (.loc 0) 15 (.c (.int 0))).wp (spN tabL 0) vs H (fun m H=>v.el (Q (.bool true) H) (un:=(X.cmp .gt (.attr (.loc 0) 14) (.c (.int 0))).ev (spN tabL 0) m H Q)) fun _ _=>False) fun _ _=>False
noncomputable def spL(n:Nat):Sp:=fun g vs H Q=>if g=3000 then limW n vs H Q else spN tabL (n+2) g vs H Q
theorem c_lim(So:Sol H lay s)(ha:lay .ins=a)(Sb:Stb N M s)(hN:N≤5){ab:Addr}{asked:List Int}(hab:H ab=some (.lst (zs asked)))(nab:¬fp lay s ab)(hal:asked.length≤3)(hnz:∀l∈asked,l≠0∧l.natAbs≤N)(hrz:s.rows.length+400000<sz)(hlz:s.lg.length+400000<sz)
  (q:∀H' lay' s',SF H lay s H' lay' s'→Stb N M s'→s'.lim=0→Gr N M 0 (s.wLim 0) s'→Q (.bool true) H'):spL (n+3) 3000 [.ref a,.ref ab] H Q:=by
 have u1:=u_lim So 1
 have ha1:=u1.ins ha
 have hab1:=So.out u1.2 hab nab
 refine ⟨rfl,s_setA (v:= .int 1) So ha rfl rfl (cm_ok (xs:=[.bi .toList [.loc 1]]) u1.1 ha1 rfl (zv (e_bi (zv (zw (.loc 1) (.ref ab) _ rfl (zp (b_list (seq_l hab1.1) fun x hx=>zp ?_)))))))⟩
 have h2:=u1.trans (SF.junk u1.1 (o:= .lst (zs asked)) hx)
 have nx:=u1.1.nfp hx
 have hx2:((H.set (lay .att) (.att (put (attL lay s) 15 (.int 1)))).set x (.lst (zs asked))) x=some (.lst (zs asked)):=zx
 generalize ((H.set (lay .att) (.att (put (attL lay s) 15 (.int 1)))).set x (.lst (zs asked)))=H2 at h2 hx2
 have ha2:=h2.ins ha
 have hend:∀{H' lay' s'},SF H lay s H' lay' s'→Stb N M s'→Gr N M 0 (s.wLim 1) s'→∀H2,SF H lay s H2 lay' (s'.wLim 0)→Q (.bool true) H2:=fun h S g H2 h2=>q _ _ _ h2 (S.lim_ (.inl rfl)) rfl ⟨rfl,g.rows,g.lg⟩
 refine c_solve h2.1 ha2 (Sb.lim_ (.inr rfl)) hN (ask:=x) (asked:=asked) hx2 nx hal hnz hrz hlz (fun H3 lay3 s3 h3 S3 _ g3=>?_) (fun H3 lay3 s3 h3 S3 _ g3=>?_) fun H3 lay3 s3 h3 S3 g3 _ hcl=>?_
 ·have h4:=h2.trans h3
  exact s_setA (v:= .int 0) h4.1 (h4.ins ha) rfl rfl (hend h4 S3 g3 _ (h4.trans (u_lim h4.1 0)))
 ·have h4:=h2.trans h3
  exact s_setA (v:= .int 0) h4.1 (h4.ins ha) rfl rfl (hend h4 S3 g3 _ (h4.trans (u_lim h4.1 0)))
 ·have h4:=h2.trans h3
  have h5:=h4.trans (u_lim h4.1 0)
  refine s_setA (v:= .int 0) h4.1 (h4.ins ha) rfl rfl ?_
  refine zw _ (.bool true) _ (pvb (h5.1.a_ (h5.ins ha) rfl rfl) (pvb rfl (pcm ?_))) (hend h4 S3 g3 _ h5)
  show some (decide ((0:Int)<(s3.cl:Int)))=_
  rw [decide_eq_true (by lia)]
end
theorem spL_{n g:Nat}{vs:List V}{H:AH}{Q:V→AH→Prop}(hg:g≠3000)(h:spN tabL (n+2) g vs H Q):spL n g vs H Q:=by
 unfold spL;rw [if_neg hg];exact h
noncomputable def cl2(cs:List (Addr×List Int)):List (List Int):=cs.map (·.2)
structure LR(sa fd cl cb:Addr)(osa:O)(cells:List Int)(N:Nat)(a:Addr)(H:AH)(lay:Ro→Addr)(s:St)(cs:List (Addr×List Int))(spot:Nat)(g seen:Nat):Prop where
 so:Sol H lay s
 ins:lay .ins=a
 stb:Stb N (All (cl2 cs)) s
 lim:s.lim=0
 fd_:H fd=some (fdO cl spot)
 cl_:H cl=some (.lst (zs cells))
 sa_:H sa=some osa
 cb_:H cb=some (.lst (cs.map fun p=> .ref p.1))
 cs_:∀p∈cs,An3 (H p.1=some (.tup (zs p.2))) (Lits N p.2) (¬fp lay s p.1)
 nfd:¬fp lay s fd
 ncl:¬fp lay s cl
 nsa:¬fp lay s sa
 ncb:¬fp lay s cb
 hn:0<cells.length∧cells.length≤60
 ne:An3 (sa≠fd) (sa≠cb) (cl≠cb)
 rl:s.rows.length≤g
 ll:s.lg.length≤g
 sn:seen≤s.lg.length
 lg:∀c∈s.lg.drop seen,LgOK N (All (cl2 cs)) c
section
variable{n:Nat}{sa fd cl cb:Addr}{osa:O}{cells:List Int}{N:Nat}{a:Addr}{H H':AH}{lay lay':Ro→Addr}{s s':St}{cs:List (Addr×List Int)}{P:List (Addr×List Bool)}{y:Addr}{spot spot' g seen:Nat}{Q:V→AH→Prop}
theorem LR.fd0(L:LR sa fd cl cb osa cells N a H lay s cs spot g seen)(hs:spot<100000):Fd H H fd cl cells spot:= .self L.fd_ L.cl_ hs L.hn
theorem LR.feed(L:LR sa fd cl cb osa cells N a H lay s cs spot g seen)(h:Fd H H' fd cl cells spot'):LR sa fd cl cb osa cells N a H' lay s cs spot' g seen:=
 ⟨h.sol L.so L.nfd,L.ins,L.stb,L.lim,h.fd,h.cl,h.ext _ _ L.sa_ L.ne.1,h.ext _ _ L.cb_ (fun e=>by have:=L.cb_;rw [e,L.fd_] at this;cases this),fun p hp=>
  ⟨h.ext _ _ (L.cs_ p hp).1 fun e=>(by have:=(L.cs_ p hp).1;rw [e,L.fd_] at this;cases this),(L.cs_ p hp).2,(L.cs_ p hp).3⟩,L.nfd,L.ncl,L.nsa,L.ncb,L.hn,L.ne,L.rl,L.ll,L.sn,L.lg⟩
theorem LR.more(L:LR sa fd cl cb osa cells N a H lay s cs spot g seen)(E:Ext H H'):LR sa fd cl cb osa cells N a H' lay s cs spot g seen:=
 ⟨(E.sf L.so).1,L.ins,L.stb,L.lim,E _ _ L.fd_,E _ _ L.cl_,E _ _ L.sa_,E _ _ L.cb_,fun p hp=>⟨E _ _ (L.cs_ p hp).1,(L.cs_ p hp).2,(L.cs_ p hp).3⟩,L.nfd,L.ncl,L.nsa,L.ncb,L.hn,L.ne,L.rl,L.ll,L.sn,L.lg⟩
theorem LR.move(L:LR sa fd cl cb osa cells N a H lay s cs spot g seen)(h:SF H lay s H' lay' s')(S:Stb N (All (cl2 cs)) s')(hl:s'.lim=0){g':Nat}(hr:s'.rows.length≤g')(hg:∃t,An3 (s'.lg=s.lg++t) (s.lg.length+t.length≤g') (∀c∈t,LgOK N (All (cl2 cs)) c)):LR sa fd cl cb osa cells N a H' lay' s' cs spot g' seen:=by
 refine nn fun hC=>?_
 obtain ⟨t,e1,e2,e3⟩:=hg
 refine hC ?_
 have o1:=L.so.out h.2 L.fd_ L.nfd
 have o2:=L.so.out h.2 L.cl_ L.ncl
 have o3:=L.so.out h.2 L.sa_ L.nsa
 have o4:=L.so.out h.2 L.cb_ L.ncb
 refine ⟨h.1,h.ins L.ins,S,hl,o1.1,o2.1,o3.1,o4.1,fun p hp=>?_,o1.2,o2.2,o3.2,o4.2,L.hn,L.ne,hr,by rw [e1,List.length_append];exact e2,by rw [e1,List.length_append];exact Nat.le_trans L.sn (Nat.le_add_right ..),fun c hc=>?_⟩
 ·have o5:=L.so.out h.2 (L.cs_ p hp).1 (L.cs_ p hp).3
  exact ⟨o5.1,(L.cs_ p hp).2,o5.2⟩
 ·rw [e1,List.drop_append_of_le_length L.sn] at hc
  exact (List.mem_append.mp hc).elim (L.lg c) (e3 c)
theorem LR.cls(L:LR sa fd cl cb osa cells N a H lay s cs spot g seen):Cls H cb (cl2 cs):=by
 obtain ⟨f,hf,hf2⟩:=refs_of (cs:=cs)
 refine ⟨f,by rw [L.cb_,hf];unfold cl2;rw [List.length_map],fun j c hc=>?_⟩
 unfold cl2 at hc
 rw [List.getElem?_map] at hc
 obtain ⟨p,hp,rfl⟩:=Option.map_eq_some_iff.mp hc
 rw [hf2 j p hp]
 exact (L.cs_ p (List.mem_of_getElem? hp)).1
theorem LR.ok(L:LR sa fd cl cb osa cells N a H lay s cs spot g seen):∀c∈cl2 cs,(∀x∈c,x≠0∧x.natAbs≤N)∧c.length<64:=fun c hc=>by
 obtain ⟨p,hp,rfl⟩:=List.mem_map.mp hc
 have:=(L.cs_ p hp).2
 exact ⟨this.1,by have:=this.2;lia⟩
theorem e_cfor{sp:Sp}{m:List V}{x cond b:X}{acc:List V}{K:List V→AH→Prop}(h:x.ev sp m H fun v H=>itW H v fun items chk thaw H=>
   cloop chk (fun x H acc K=>cond.ev sp (m++[x]) H fun v H=>ifB v (X.cw sp b (m++[x]) H acc K) (K acc H)) items H acc fun acc H=>K acc (thaw H)):X.cw sp (.cfor (.src x) cond b) m H acc K:=h
theorem w_logs{v0 v1 v2 v3 v4 v5 v9:V}(L:LR sa fd cl cb osa cells N a H lay s cs spot g seen)(hy:Rw H y P)(R:RM N P (All (cl2 cs)))(hN:N≤5)
  (q:∀H' z,Ext H H'→H z=none→H' z=some (.lst [])→Q (.ref z) H'):
  (X.lcomp [false,false,false,false,false,false,false,false,true,false] (.src (.slice (.attr (.loc 6) 11) (.loc 7) (.c .none))) (.c (.bool true)) (.cfor (.src (.loc 8)) (.not (.callG 23 [(.loc 11),(.loc 10)])) (.emit (.loc 11)))).ev (spL (n+3)) [v0,v1,v2,v3,v4,v5,.ref a,.int (seen:Nat),.ref y,v9] H Q:=by
 refine e_lc (sl_lo (k:=seen) (L.so.a_ L.ins rfl rfl) (L.so.at_ .lg trivial) rfl fun x hx=>it_l zx ?_)
 have E0:Ext H (H.set x (.lst ((refs s.lg.length fun i=>lay (.le i)).drop seen))):=Ext.refl.new hx
 have hx1:(H.set x (.lst ((refs s.lg.length fun i=>lay (.le i)).drop seen))) x=some (.lst ((refs s.lg.length fun i=>lay (.le i)).drop seen)):=zx
 generalize H.set x (.lst ((refs s.lg.length fun i=>lay (.le i)).drop seen))=H1 at E0 hx1
 refine cloop_ind (fun i acc H'=>Ext H1 H'∧acc=[]) _ (fun i v acc H' K hv hI hK=>?_) (fun acc H' hI=>?_) ⟨.refl,rfl⟩
 ·obtain ⟨E,rfl⟩:=hI
  rw [List.getElem?_drop] at hv
  have hk:=(List.getElem?_eq_some_iff.mp hv).1
  rw [refs_len] at hk
  rw [refs_get hk] at hv
  cases hv
  have hc:H' (lay (.le (seen+i)))=some (.tup (zs (s.lg.getD (seen+i) []))):=E _ _ (E0 _ _ (L.so.at_ (.le (seen+i)) hk))
  have hget:s.lg[seen+i]?=some (s.lg.getD (seen+i) []):=by rw [List.getD_eq_getElem?_getD,List.getElem?_eq_getElem hk];rfl
  have hok:=L.lg _ (List.mem_of_getElem? (i:=i) (show (s.lg.drop seen)[i]?=_ by rw [List.getElem?_drop];exact hget))
  have hlc:(s.lg.getD (seen+i) []).length<sz:=Nat.lt_of_le_of_lt (Nat.le_trans hok.1.2 hN) (by decide)
  generalize s.lg.getD (seen+i) []=c at hc hok hlc
  refine ⟨wq (E _ _ hx1),pvT (e_cfor (zw (.loc 8) (.ref y) _ rfl (it_l (E _ _ (E0 _ _ hy.at_)) ?_)))⟩
  refine cloop_ind (fun j acc2 H2=>Ext H' H2∧acc2=[]) _ (fun j v acc2 H2 K2 hv2 hI2 hK2=>?_) (fun acc2 H2 hI2=>?_) ⟨.refl,rfl⟩
  ·obtain ⟨E2,rfl⟩:=hI2
   rw [List.getElem?_map] at hv2
   obtain ⟨p,hp,rfl⟩:=Option.map_eq_some_iff.mp hv2
   have hpm:=List.mem_of_getElem? hp
   have hz:∀x∈c,x≠0∧x.natAbs≤p.2.length:=by rw [R.len p hpm];exact hok.1.1
   refine ⟨wq (E2 _ _ (E _ _ (E0 _ _ hy.at_))),x_not (e_callG (zv (zw (.loc 11) (.ref p.1) _ rfl (zv (zw (.loc 10) (.ref (lay (.le (seen+i)))) _ rfl (zp (spL_ (by decide) (c_keeps (n:=n+4) (E2 _ _ (E _ _ (E0 _ _ (hy.each p hpm)))) (E2 _ _ hc) (.inr rfl) hz hlc fun H3 E3=>notW_ ?_))))))))⟩
   rw [(satR_iff hz).mpr (hok.2 _ (R.mod p hpm))]
   exact zg (o:=(V.bool false).b?) rfl (hK2 _ _ ⟨E2.trans E3,rfl⟩)
  ·obtain ⟨E2,rfl⟩:=hI2
   exact ⟨wq (E2 _ _ (E _ _ (E0 _ _ hy.at_))),hK _ _ ⟨E.trans E2,rfl⟩⟩
 ·obtain ⟨E,rfl⟩:=hI
  exact ⟨wq (E _ _ hx1),fun z hz=>q _ z ((E0.trans E).new ((E0.trans E).none hz)) ((E0.trans E).none hz) zx⟩
end
noncomputable def restB:S:=(.seq (.asg 5 (.bin .add (.c (.int 1)) (.callG 21 [(.loc 1),(.c (.int 3))]))) (.seq (.ex (.bm .append (.loc 3) [(.bi .toTuple [(.callG 22 [(.loc 1),(.loc 2),(.loc 5)])])])) (.seq (.ite (.and (.not (.callM 6 (.loc 6) [(.sub (.loc 3) (.neg (.c (.int 1))))])) (.and (.cmp .ne (.callG 24 [(.loc 2),(.loc 3)]) (.list [])) (.c (.bool true)))) (.seq (.ret (.c (.bool false))) .skip) .skip) (.seq (.asg 7 (.bi .len [(.attr (.loc 6) 11)])) .skip))))
section
variable{n:Nat}{sa fd cl cb:Addr}{osa:O}{cells:List Int}{N:Nat}{a:Addr}{H H':AH}{lay lay':Ro→Addr}{s s':St}{cs:List (Addr×List Int)}{P:List (Addr×List Bool)}{y:Addr}{spot spot' g seen:Nat}
theorem cl2_app{t:Addr}{c:List Int}{α:Nat→Bool}:(All (cl2 cs) α∧Sat α c)↔All (cl2 (cs++[(t,c)])) α:=by
 have e:cl2 (cs++[(t,c)])=cl2 cs++[c]:=List.map_append
 rw [e]
 exact ⟨fun h d hd=>(List.mem_append.mp hd).elim (h.1 d) fun hd=>by rw [List.mem_singleton.mp hd];exact h.2,fun h=>⟨fun d hd=>h d (List.mem_append_left _ hd),h c (List.mem_append_right _ (List.mem_singleton.mpr rfl))⟩⟩
set_option maxHeartbeats 1000000 in
theorem w_restB{v4 v5 v8 v9:V}{Q:List V→AH→Prop}{R:V→AH→Prop}(L:LR sa fd cl cb osa cells N a H lay s cs spot g seen)(hN0:1≤N)(hN:N≤5)(hs:spot+20<100000)(hg:g+400000<sz)(hcl:cs.length≤1000)
  (q:∀H' lay' s' cs' v5' spot' seen',LR sa fd cl cb osa cells N a H' lay' s' cs' spot' (g+1) seen'→spot'≤spot+7→cs'.length=cs.length+1→Q [.ref sa,.ref fd,.int N,.ref cb,v4,v5',.ref a,.int (seen':Nat),v8,v9] H'):
  restB.wp (spL (n+3)) [.ref sa,.ref fd,.int N,.ref cb,v4,v5,.ref a,.int (seen:Nat),v8,v9] H Q R:=by
 have hsz:(2000:Nat)<sz:=by decide
 have hrl:=L.rl
 have hll:=L.ll
 refine zj (vj (e_bin (zw (.c (.int 1)) (.int 1) _ rfl (e_callG (zv (zw (.loc 1) (.ref fd) _ rfl (zv (zw (.c (.int 3)) (.int 3) _ rfl (zp (spL_ (by decide) (c_draw (n:=n+4) (L.fd0 (by lia)) (by decide) fun r hr0 hr1=>binW_i ?_)))))))))))
 have L1:=L.feed ((L.fd0 (by lia)).step (by lia))
 generalize H.set fd (fdO cl (spot+1))=H1 at L1
 obtain ⟨k,hk,e⟩:∃k:Nat,k≤3∧1+r=(k:Int):=⟨(1+r).toNat,by lia,(Int.toNat_of_nonneg (Int.add_nonneg (by decide) (by assumption))).symm⟩
 rw [e]
 refine zj (s_ex (bm_l (l:=cs.map fun p=> .ref p.1) (b:=cb) rfl L1.cb_ rfl (zv (e_bi (zv (e_callG (zv (zw (.loc 1) (.ref fd) _ rfl (zv (zw (.loc 2) (.int N) _ rfl (zv (zw (.loc 5) (.int (k:Nat)) _ rfl (zp (spL_ (by decide) (c_literals (n:=n+3) (L1.fd0 (by lia)) (by lia) hN0 hk fun H2 b c F2 hb0 hb hl=>zp (tt_l hb fun t ht=>zp ?_))))))))))))))))
 have L2:=L1.feed F2
 have L3:=L2.more (Ext.refl.new (o:= .tup (zs c)) ht)
 have ht3:(H2.set t (.tup (zs c))) t=some (.tup (zs c)):=zx
 have nt:=L2.so.nfp ht
 generalize H2.set t (.tup (zs c))=H3 at L3 ht3
 refine app_ok L3.cb_ (by rw [List.length_map];lia) ?_
 have hcb4:(H3.set cb (.lst ((cs.map fun p=>V.ref p.1)++[.ref t]))) cb=some (.lst ((cs++[(t,c)]).map fun p=> .ref p.1)):=by rw [zx,List.map_append];rfl
 have hk4:∀{x:Addr} {o:O},H3 x=some o→x≠cb→(H3.set cb (.lst ((cs.map fun p=>V.ref p.1)++[.ref t]))) x=some o:=fun h hn=>by rw [zu hn];exact h
 have So4:Sol (H3.set cb (.lst ((cs.map fun p=>V.ref p.1)++[.ref t]))) lay s:=L3.so.frame fun r u=>zu fun e=>L3.ncb ⟨r,u,e⟩
 have hfd4:=hk4 L3.fd_ fun e=>by have:=L3.cb_;rw [←e,L3.fd_] at this;cases this
 have hcl4:=hk4 L3.cl_ L3.ne.3
 have hsa4:=hk4 L3.sa_ L3.ne.2
 have ht4:=hk4 ht3 fun e=>by have:=L3.cb_;rw [←e,ht3] at this;cases this
 have hcs4:∀p∈cs,(H3.set cb (.lst ((cs.map fun p=>V.ref p.1)++[.ref t]))) p.1=some (.tup (zs p.2)):=fun p hp=>hk4 (L3.cs_ p hp).1 fun e=>by have:=L3.cb_;rw [←e,(L3.cs_ p hp).1] at this;cases this
 generalize H3.set cb (.lst ((cs.map fun p=>V.ref p.1)++[.ref t]))=H4 at hcb4 So4 hfd4 hcl4 hsa4 ht4 hcs4
 clear hk4
 refine zj (s_iteE (e_and (x_not (cm_okX So4 L.ins rfl (zv (zw _ (.ref t) _ (pvb (x:= .ref cb) rfl (pvb (x:= .int (-1)) rfl (sb_l hcb4 (idx_last (by rw [List.map_append];exact List.getLast?_concat))))) (zp (spL_ (by decide) (c_addc (n:=n+3) So4 L.ins L.stb hN ht4 (.inr rfl) nt hl.1 (by have:=hl.2;lia) (by lia) (by lia) fun H5 lay5 s5 h5 S5 g5=>notW_ ?_)))))))))
 have o1:=So4.out h5.2 hfd4 L.nfd
 have o2:=So4.out h5.2 hcl4 L.ncl
 have o3:=So4.out h5.2 hsa4 L.nsa
 have o4:=So4.out h5.2 hcb4 L.ncb
 have hg5:s5.lg.length≤g+1:=by
  refine nn fun hC=>?_
  obtain ⟨t,h7,h8,_⟩:=g5.lg
  refine hC ?_
  rw [h7,List.length_append];lia
 have L5:LR sa fd cl cb osa cells N a H5 lay5 s5 (cs++[(t,c)]) (spot+1+2*k) (g+1) s5.lg.length:=⟨h5.1,h5.ins L.ins,S5.iff fun α=>cl2_app,g5.lim.trans L.lim,o1.1,o2.1,o3.1,o4.1,fun p hp=>by
  rcases List.mem_append.mp hp with hp|hp
  ·have o5:=So4.out h5.2 (hcs4 p hp) (L.cs_ p hp).3
   exact ⟨o5.1,(L.cs_ p hp).2,o5.2⟩
  ·rw [List.mem_singleton.mp hp]
   have o5:=So4.out h5.2 ht4 nt
   exact ⟨o5.1,hl,o5.2⟩,o1.2,o2.2,o3.2,o4.2,L.hn,L.ne,by have:=g5.rows;lia,hg5,Nat.le_refl _,fun d hd=>by rw [List.drop_length] at hd;exact absurd hd List.not_mem_nil⟩
 have hgo:∀H6,Ext H5 H6→(S.seq (.asg 7 (.bi .len [(.attr (.loc 6) 11)])) .skip).wp (spL (n+3)) [.ref sa,.ref fd,.int N,.ref cb,v4,.int (k:Nat),.ref a,.int (seen:Nat),v8,v9] H6 Q R:=fun H6 E=>by
  have L6:=L5.more E
  exact zj (vj (zw _ (.int (s5.lg.length:Nat)) _ (len_pv (L6.so.a_ L6.ins rfl rfl) (ln_rf (L6.so.at_ .lg trivial))) (zy (q _ _ _ _ _ _ _ L6 (by lia) (by rw [List.length_append];rfl)))))
 generalize hr:s5.ref=zq;induction zq with
 |false=>exact andW_f (brW_f (zy (hgo _ .refl)))
 |true=>
  refine andW_t (e_and (e_cmp (e_callG (zv (zw (.loc 2) (.int N) _ rfl (zv (zw (.loc 3) (.ref cb) _ rfl (zp (spL_ (by decide) (c_worlds (n:=n+3) L5.cls hN L5.ok fun H6 y6 P6 E6 hy6 hR6 hM6 hPl6=>e_emptyL fun z hz=>?_))))))))))
  have hP:P6=[]:=by
   generalize hf:P6=zq;induction zq with
   |nil=>rfl
   |cons p l=>exact absurd (hM6.mod p (by rw [hf];exact List.mem_cons_self ..)) ((L5.stb.r hr).1 _)
  have hl6:=hR6.at_
  rw [hP] at hl6
  have hzy:y6≠z:=fun e=>by rw [e,hz] at hl6;cases hl6
  exact cmpW_i (b:=false) (ne_nil (ds:=[]) (by rw [zu hzy];exact hl6) rfl zx) (andW_f (boolW_ (brW_f (zy (hgo _ (E6.new (E6.none hz)))))))
end
noncomputable def restA:S:=(.seq (.ite (.not (.callG 25 [(.loc 6),(.loc 2),(.loc 8),(.loc 9)])) (.seq (.ret (.c (.bool false))) .skip) .skip) (.seq (.ite (.cmp .ne (.lcomp [false,false,false,false,false,false,false,false,true,false] (.src (.slice (.attr (.loc 6) 11) (.loc 7) (.c .none))) (.c (.bool true)) (.cfor (.src (.loc 8)) (.not (.callG 23 [(.loc 11),(.loc 10)])) (.emit (.loc 11)))) (.list [])) (.seq (.ret (.c (.bool false))) .skip) .skip) restB))
noncomputable def roundC:S:=(.seq (.asgN [8,5] [(.callG 24 [(.loc 2),(.loc 3)]),(.callG 21 [(.loc 1),(.c (.int 4))])]) (.seq (.asg 9 (.callG 22 [(.loc 1),(.loc 2),(.loc 5)])) (.seq (.limC (.cmp .eq (.callG 21 [(.loc 1),(.c (.int 5))]) (.c (.int 4))) [(.loc 6),(.loc 9)] (.seq (.ret (.c (.bool false))) .skip) .skip) restA)))
section
variable{n:Nat}{sa fd cl cb:Addr}{osa:O}{cells:List Int}{N:Nat}{a:Addr}{H H':AH}{lay lay':Ro→Addr}{s s':St}{cs:List (Addr×List Int)}{P:List (Addr×List Bool)}{y ab:Addr}{asked:List Int}{spot spot' g seen:Nat}
theorem row_nfp{x:Addr}{r:List Bool}(So:Sol H lay s)(h:H x=some (.tup (bz r)))(hr:r≠[]):¬fp lay s x:=fun ⟨q,u,e⟩=>by
 have h1:=So.at_ q u
 rw [e,h] at h1
 have hz:∀l:List Int,bz r≠zs l:=fun l=>by
  induction r with
  |nil=>exact absurd rfl hr
  |cons b r=>induction l<;>exact fun h=>nomatch h
 induction q<;>first|exact hz _ (Option.some.inj (congrArg O.t? (Option.some.inj h1)))|cases h1
theorem w_restA{v4 v5:V}{Q:List V→AH→Prop}{R:V→AH→Prop}(L:LR sa fd cl cb osa cells N a H lay s cs spot g seen)(hN0:1≤N)(hN:N≤5)(hs:spot+20<100000)(hg:g+800000<sz)(hcl:cs.length≤1000)
  (hR:Rw H y P) (hM:RM N P (All (cl2 cs))) (hPl:P.length≤32) (ny:¬fp lay s y) (hab:H ab=some (.lst (zs asked))) (nab:¬fp lay s ab) (hl:Lits N asked)
  (q:∀H' lay' s' cs' v5' v8' v9' spot' seen',LR sa fd cl cb osa cells N a H' lay' s' cs' spot' (g+300001) seen'→spot'≤spot+7→cs'.length=cs.length+1→Q [.ref sa,.ref fd,.int N,.ref cb,v4,v5',.ref a,.int (seen':Nat),v8',v9'] H'):
  restA.wp (spL (n+3)) [.ref sa,.ref fd,.int N,.ref cb,v4,v5,.ref a,.int (seen:Nat),.ref y,.ref ab] H Q R:=by
 have hrl:=L.rl
 have hll:=L.ll
 have hO:=outer_oth (H:=H) (lay:=lay) (s:=s)
 have hrw:Rw (wh H lay s) y P:=⟨outer_at hR.at_ ny,fun p hp=>outer_at (hR.each p hp) (row_nfp L.so (hR.each p hp) fun e=>by
  have:=hM.len p hp
  rw [e] at this
  exact absurd this (by simp only [List.length_nil];exact Nat.ne_of_lt ‹_›))⟩
 refine zj (s_iteE (x_not (e_callG (zv (zw (.loc 6) (.ref a) _ rfl (zv (zw (.loc 2) (.int N) _ rfl (zv (zw (.loc 8) (.ref y) _ rfl (zv (zw (.loc 9) (.ref ab) _ rfl (zp (spL_ (by decide) (c_told (n:=n) L.so L.ins L.stb hN L.lim hO hrw hM hPl (outer_at hab nab) hl.2 hl.1 (by lia) (by lia) fun H4 lay4 s4 hO4 h4 S4 g4=>notW_ (brW_f (zy ?_))))))))))))))))
 have L4:=L.move h4 S4 (g4.lim.trans L.lim) (g':=g+300000) (by have:=g4.rows;lia) (by
  refine nn fun hC=>?_
  obtain ⟨t,h7,h8,h9⟩:=g4.lg
  refine hC ?_
  exact ⟨t,h7,by lia,h9⟩)
 refine zj (s_iteE (e_cmp (w_logs L4 (hO4.rw hrw) hM hN fun H5 z E5 hz h5=>e_emptyL fun w hw=>?_)))
 have hzw:z≠w:=fun e=>by rw [e,show H5 w=none from hw] at h5;cases h5
 have L6:=L4.more (E5.new (o:= .lst []) (E5.none hw))
 refine cmpW_i (b:=false) (ne_nil (ds:=[]) (by rw [zu hzw];exact h5) rfl zx) (brW_f (zy ?_))
 exact w_restB L6 hN0 hN hs (by lia) hcl fun H' lay' s' cs' v5' spot' seen' L' h1 h2=>q _ _ _ _ _ _ _ _ _ (by rw [show g+300001=g+300000+1 by lia];exact L') h1 h2
theorem s_lim{sp:Sp}{m:List V}{c:X}{xs:List X}{u t:S}{Q:List V→AH→Prop}{R:V→AH→Prop}(h:c.ev sp m H (brW (fun H=>X.evs sp xs m H fun vs H=>sp 3000 vs H (brW (fun H=>t.wp sp m H Q R) fun H=>u.wp sp m H Q R)) fun H=>t.wp sp m H Q R)):(S.limC c xs u t).wp sp m H Q R:=h
theorem w_round{v4 v5 v8 v9:V}{Q:List V→AH→Prop}{R:V→AH→Prop}(L:LR sa fd cl cb osa cells N a H lay s cs spot g seen)(hN0:1≤N)(hN:N≤5)(hs:spot+40<100000)(hg:g+1200000<sz)(hcl:cs.length≤1000)
  (q:∀H' lay' s' cs' v5' v8' v9' spot' seen',LR sa fd cl cb osa cells N a H' lay' s' cs' spot' (g+600001) seen'→spot'≤spot+20→cs'.length=cs.length+1→Q [.ref sa,.ref fd,.int N,.ref cb,v4,v5',.ref a,.int (seen':Nat),v8',v9'] H'):
  roundC.wp (spL (n+3)) [.ref sa,.ref fd,.int N,.ref cb,v4,v5,.ref a,.int (seen:Nat),v8,v9] H Q R:=by
 refine zj (s_asgN (zv (e_callG (zv (zw (.loc 2) (.int N) _ rfl (zv (zw (.loc 3) (.ref cb) _ rfl (zp (spL_ (by decide) (c_worlds (n:=n+3) L.cls hN L.ok fun H1 y P E1 hy1 hR1 hM hPl=>?_))))))))))
 have L1:=L.more E1
 have ny:=L.so.nfp hy1
 refine zv (e_callG (zv (zw (.loc 1) (.ref fd) _ rfl (zv (zw (.c (.int 4)) (.int 4) _ rfl (zp (spL_ (by decide) (c_draw (n:=n+4) (L1.fd0 (by lia)) (by decide) fun r hr0 hr1=>zp ⟨rfl,?_⟩))))))))
 have F2:=(L1.fd0 (by lia)).step (by lia)
 have hRF:∀{H1 H':AH} {sp sp':Nat},Rw H1 y P→H1 fd=some (fdO cl sp)→Fd H1 H' fd cl cells sp'→Rw H' y P:=fun hR hf F=>⟨F.ext _ _ hR.at_ (fun e=>by
  have:=hR.at_
  rw [e,hf] at this;cases this),fun p hp=>F.ext _ _ (hR.each p hp) fun e=>by
  have:=hR.each p hp
  rw [e,hf] at this;cases this⟩
 have L2:=L1.feed F2
 have hR2:=hRF hR1 L1.fd_ F2
 generalize H1.set fd (fdO cl (spot+1))=H2 at L2 hR2
 obtain ⟨k,hk,rfl⟩:∃k:Nat,k≤3∧r=(k:Int):=⟨r.toNat,by lia,by exact (Int.toNat_of_nonneg ‹_›).symm⟩
 refine zj (vj (e_callG (zv (zw (.loc 1) (.ref fd) _ rfl (zv (zw (.loc 2) (.int N) _ rfl (zv (zw (.loc 5) (.int (k:Nat)) _ rfl (zp (spL_ (by decide) (c_literals (n:=n+3) (L2.fd0 (by lia)) (by lia) hN0 hk fun H3 ab asked F3 hab0 hab hl=>?_)))))))))))
 have L3:=L2.feed F3
 have hR3:=hRF hR2 L2.fd_ F3
 have nab:=L2.so.nfp hab0
 refine zj (s_lim (e_cmp (e_callG (zv (zw (.loc 1) (.ref fd) _ rfl (zv (zw (.c (.int 5)) (.int 5) _ rfl (zp (spL_ (by decide) (c_draw (n:=n+4) (L3.fd0 (by lia)) (by decide) fun t ht0 ht1=>zw (.c (.int 4)) (.int 4) _ rfl (cmpW_i eq_ii ?_)))))))))))
 have F4:=(L3.fd0 (by lia)).step (by lia)
 have L4:=L3.feed F4
 have hR4:=hRF hR3 L3.fd_ F4
 have hab4:=F4.ext _ _ hab fun e=>by have:=L3.fd_;rw [←e,hab] at this;cases this
 generalize H3.set fd (fdO cl (spot+1+2*k+1))=H4 at L4 hR4 hab4
 have hrl:=L.rl
 have hll:=L.ll
 have hgo:∀{H' lay' s'},LR sa fd cl cb osa cells N a H' lay' s' cs (spot+1+2*k+1) (g+300000) seen→Rw H' y P→¬fp lay' s' y→H' ab=some (.lst (zs asked))→¬fp lay' s' ab→restA.wp (spL (n+3)) [.ref sa,.ref fd,.int N,.ref cb,v4,.int (k:Nat),.ref a,.int (seen:Nat),.ref y,.ref ab] H' Q R:=fun L' hR' ny' hab' nab'=>
  w_restA L' hN0 hN (by lia) (by lia) hcl hR' hM hPl ny' hab' nab' hl fun H5 lay5 s5 cs5 v5' v8' v9' spot5 seen5 L5 h1 h2=>q _ _ _ _ _ _ _ _ _ (by rw [show g+600001=g+300000+300001 by lia];exact L5) (by lia) h2
 cases decide (t=4)
 ·refine brW_f (hgo ⟨L4.so,L4.ins,L4.stb,L4.lim,L4.fd_,L4.cl_,L4.sa_,L4.cb_,L4.cs_,L4.nfd,L4.ncl,L4.nsa,L4.ncb,L4.hn,L4.ne,by lia,by lia,L4.sn,L4.lg⟩ hR4 ny hab4 nab)
 ·refine brW_t (zv (zw (.loc 6) (.ref a) _ rfl (zv (zw (.loc 9) (.ref ab) _ rfl (zp (c_lim (n:=n) L4.so L4.ins L4.stb hN hab4 nab hl.2 hl.1 (by lia) (by lia) fun H5 lay5 s5 h5 S5 hl5 g5=>brW_t ?_))))))
  have L5:=L4.move h5 S5 hl5 (g':=g+300000) (by have:s5.rows.length+0≤s.rows.length+300000:=g5.rows;lia) (by
   refine nn fun hC=>?_
   obtain ⟨t,h7,h8,h9⟩:=g5.lg
   refine hC ?_
   exact ⟨t,h7,by lia,h9⟩)
  have o4:=L4.so.out h5.2 hR4.at_ ny
  have o5:=L4.so.out h5.2 hab4 nab
  exact hgo L5 ⟨o4.1,fun p hp=>(L4.so.out h5.2 (hR4.each p hp) (row_nfp L4.so (hR4.each p hp) fun e=>by
   have:=hM.len p hp
   rw [e] at this
   exact absurd this (by simp only [List.length_nil];exact Nat.ne_of_lt ‹_›))).1⟩ o4.2 o5.1 o5.2
end
noncomputable def cellsX:X:=(.bin .add (.lcomp [false,false,false,false,false,false,false,false,false,false] (.src (.slice (.loc 0) (.c .none) (.c (.int 60)))) (.c (.bool true)) (.emit (.bin .mod (.bi .abs [(.loc 10)]) (.c (.int 1000003))))) (.bin .mul (.list [(.c (.int 0))]) (.bi .toInt [(.cmp .eq (.loc 0) (.list []))])))
noncomputable def claC:S:=(.for_ 4 (.rng (.c (.int 0)) (.bin .add (.c (.int 2)) (.callG 21 [(.loc 1),(.c (.int 8))]))) (.seq (.asg 5 (.bin .add (.c (.int 1)) (.callG 21 [(.loc 1),(.c (.int 3))]))) (.seq (.ex (.bm .append (.loc 3) [(.bi .toTuple [(.callG 22 [(.loc 1),(.loc 2),(.loc 5)])])])) .skip)))
noncomputable def tailC:S:=(.seq (.asgN [6,7] [(.new 5 [(.bi .toList [(.loc 3)]),(.loc 2)]),(.c (.int 0))]) (.seq (.for_ 4 (.rng (.c (.int 0)) (.c (.int 3))) roundC) (.seq (.ret (.c (.bool true))) .skip)))
section
variable{n:Nat}{H:AH}{Q:V→AH→Prop}
theorem rd_sl{a:Addr}{n:Nat}{l:List V}{ds:List PyData}(h:H.see a=some (.lst l))(e:wv (l.map (rd H n))=some ds):rd H (n+1) (.ref a)=some (.list ds):=by
 show (H.see a).bind _=_
 rw [h]
 show (wv (l.map (rd H n))).map PyData.list=_
 rw [e];rfl
theorem b_toIntB{b:Bool}(q:Q (.int (if b then 1 else 0)) H):biW .toInt [.bool b] H Q:=by
 show bi1 .toInt (.bool b) H Q
 exact zg (o:=V.z? (V.bool b)) (x:=if b then 1 else 0) (k:=fun i=>Q (.int i) H) rfl q
theorem mul_lk{a:Addr}{l:List V}{k:Int}(h:H a=some (.lst l))(hk:k=0∨k=1)(q:∀x,H x=none→Q (.ref x) (H.set x (.lst (if k=0 then [] else l)))):binW H .mul (.ref a) (.int k) Q:=by
 show mulR H (.ref a) (.int k) Q
 exact zg (x:=a) rfl (zg (x:=k) rfl (zg h (zg (x:=l) rfl ⟨hk,q⟩)))
set_option maxHeartbeats 1000000 in
theorem w_cells{sa:Addr}{osa:O}{script:List Int}(hsa:H sa=some osa)(hsee:H.see sa=some (.lst (zs script)))
  (q:∀H' x cells,Ext H H'→H x=none→H' x=some (.lst (zs cells))→0<cells.length→cells.length≤60→Q (.ref x) H'):cellsX.ev (spL (n+3)) [.ref sa,.un,.un,.un,.un,.un,.un,.un,.un,.un] H Q:=by
 have hsz:(2000:Nat)<sz:=by decide
 refine e_bin (e_lc (sl_hiS (k:=60) rfl hsee rfl fun y hy=>it_l zx ?_))
 have E1:=Ext.refl.new (o:= .lst ((zs script).take 60)) hy
 have hy1:(H.set y (.lst ((zs script).take 60))) y=some (.lst ((zs script).take 60)):=zx
 generalize H.set y (.lst ((zs script).take 60))=H1 at E1 hy1
 refine cloop_ind (fun i acc H'=>H'=H1∧∃(c:List Int),(acc=zs c∧c.length=i)) _ (fun i v acc H' K hv hI hK=>?_) (fun acc H' hI=>?_) ⟨rfl,[],rfl,rfl⟩
 ·obtain ⟨rfl,c,rfl,hc⟩:=hI
  have hil:=(List.getElem?_eq_some_iff.mp hv).1
  rw [List.length_take] at hil
  refine nn fun hC=>?_
  obtain ⟨x,hx,rfl⟩:=zs_at (l:=script.take 60) (show (zs (script.take 60))[i]?=some v by unfold zs;rw [List.map_take];exact hv)
  refine hC ?_
  refine ⟨wq hy1,pvT ?_⟩
  refine (?_:(X.bin .mod (.bi .abs [(.loc 10)]) (.c (.int 1000003))).ev (spL (n+3)) _ H' _)
  exact zw _ _ _ (mod_ok (sp:=spL (n+3)) (b:=1000003) (abs_pv (i:=x) rfl) rfl (by decide)) ⟨by rw [wd];lia,hK _ _ ⟨rfl,c++[_],(zs_app (r:=[_])).symm,by rw [List.length_append,List.length_singleton,hc]⟩⟩
 ·obtain ⟨rfl,c,rfl,hc⟩:=hI
  rw [List.length_take,wd] at hc
  refine ⟨wq hy1,fun x1 hx1=>?_⟩
  have E2:=E1.new (o:= .lst (zs c)) (E1.none hx1)
  have h1:(H'.set x1 (.lst (zs c))) x1=some (.lst (zs c)):=zx
  refine e_bin (e_lst (zv (zw (.c (.int 0)) (.int 0) _ rfl (zp fun x2 hx2=>?_))))
  have E3:=E2.new (o:= .lst [.int 0]) (E2.none hx2)
  have E23:Ext (H'.set x1 (.lst (zs c))) _:=Ext.refl.new (o:= .lst [.int 0]) hx2
  have h1:=E23 _ _ h1
  have h2:((H'.set x1 (.lst (zs c))).set x2 (.lst [.int 0])) x2=some (.lst [.int 0]):=zx
  generalize ((H'.set x1 (.lst (zs c))).set x2 (.lst [.int 0]))=H2 at E3 h1 h2 E23
  refine e_bi (zv (e_cmp (zw (.loc 0) (.ref sa) _ rfl (e_emptyL fun x3 hx3=>?_))))
  have E4:=E3.new (o:= .lst []) (E3.none hx3)
  have E34:Ext H2 _:=Ext.refl.new (o:= .lst []) hx3
  have h1:=E34 _ _ h1
  have h2:=E34 _ _ h2
  have hs4:(H2.set x3 (.lst [])).see sa=some (.lst (zs script)):=by
   show ((H2.set x3 (.lst [])) sa).map O.un=_
   rw [E4 _ _ hsa,←hsa];exact hsee
  refine cmpW_i (b:=script.isEmpty) ?_ (zp (b_toIntB ?_))
  ·rw [eq_of (rd_sl hs4 as_zs) (rd_l (l:=[]) (ds:=[]) zx rfl)]
   induction script<;>rfl
  generalize H2.set x3 (.lst [])=H4 at E4 h1 h2
  refine mul_lk h2 (by induction script.isEmpty<;>decide) fun x4 hx4=>?_
  have E5:=E4.new (o:= .lst (if (if script.isEmpty then (1:Int) else 0)=0 then [] else [.int 0])) (E4.none hx4)
  have h1:=(Ext.refl.new (o:= .lst (if (if script.isEmpty then (1:Int) else 0)=0 then [] else [V.int 0])) hx4) _ _ h1
  have h5:(H4.set x4 (.lst (if (if script.isEmpty then (1:Int) else 0)=0 then [] else [.int 0]))) x4=some (.lst (zs (if script.isEmpty then [0] else []))):=by
   rw [zx];induction script<;>rfl
  have hlen:(zs c).length+(zs (if script.isEmpty then [0] else [])).length≤60∧0<(c++(if script.isEmpty then [0] else [])).length:=by
   rw [wd,wd,List.length_append]
   induction script with
   |nil=>exact ⟨by rw [hc];decide,by rw [hc];decide⟩
   |cons b l=>
    rw [hc]
    exact ⟨Nat.min_le_left ..,by show 0<min 60 (l.length+1)+0;lia⟩
  refine add_ll h1 h5 (by lia) fun x5 hx5=>?_
  refine q _ x5 (c++(if script.isEmpty then [0] else [])) (E5.new (E5.none hx5)) (E5.none hx5) (by rw [zx,zs_app]) hlen.2 (by rw [List.length_append];have:=hlen.1;rw [wd,wd] at this;exact this)
end
structure Pre(sa fd cl cb:Addr)(osa:O)(cells:List Int)(N:Nat)(H:AH)(cs:List (Addr×List Int))(spot:Nat):Prop where
 fd_:Fd H H fd cl cells spot
 sa_:H sa=some osa
 cb_:H cb=some (.lst (cs.map fun p=> .ref p.1))
 cs_:∀p∈cs,H p.1=some (.tup (zs p.2))∧Lits N p.2
 ne:An3 (sa≠fd) (sa≠cb) (cl≠cb)
section
variable{n:Nat}{sa fd cl cb:Addr}{osa:O}{cells:List Int}{N:Nat}{H H':AH}{cs:List (Addr×List Int)}{spot spot':Nat}{Q:V→AH→Prop}
theorem Pre.feed(L:Pre sa fd cl cb osa cells N H cs spot)(h:Fd H H' fd cl cells spot'):Pre sa fd cl cb osa cells N H' cs spot':=
 ⟨.self h.fd h.cl h.b h.n,h.ext _ _ L.sa_ L.ne.1,h.ext _ _ L.cb_ (fun e=>by have:=L.cb_;rw [e,L.fd_.fd] at this;cases this),fun p hp=>
  ⟨h.ext _ _ (L.cs_ p hp).1 fun e=>(by have:=(L.cs_ p hp).1;rw [e,L.fd_.fd] at this;cases this),(L.cs_ p hp).2⟩,L.ne⟩
theorem Pre.more(L:Pre sa fd cl cb osa cells N H cs spot)(E:Ext H H'):Pre sa fd cl cb osa cells N H' cs spot:=
 ⟨.self (E _ _ L.fd_.fd) (E _ _ L.fd_.cl) L.fd_.b L.fd_.n,E _ _ L.sa_,E _ _ L.cb_,fun p hp=>⟨E _ _ (L.cs_ p hp).1,(L.cs_ p hp).2⟩,L.ne⟩
theorem Pre.add(L:Pre sa fd cl cb osa cells N H cs spot){t:Addr}{c:List Int}(ht:H t=some (.tup (zs c)))(hl:Lits N c):Pre sa fd cl cb osa cells N (H.set cb (.lst ((cs.map fun p=>V.ref p.1)++[.ref t]))) (cs++[(t,c)]) spot:=by
 have hk4:∀{x:Addr} {o:O},H x=some o→x≠cb→(H.set cb (.lst ((cs.map fun p=>V.ref p.1)++[.ref t]))) x=some o:=fun h hn=>by rw [zu hn];exact h
 have hn:∀{x:Addr} {l:List V},H x=some (.tup l)→x≠cb:=fun h e=>by have:=L.cb_;rw [←e,h] at this;cases this
 refine ⟨.self (hk4 L.fd_.fd fun e=>by have:=L.cb_;rw [←e,L.fd_.fd] at this;cases this) (hk4 L.fd_.cl L.ne.3) L.fd_.b L.fd_.n,hk4 L.sa_ L.ne.2,by rw [zx,List.map_append];rfl,fun p hp=>?_,L.ne⟩
 rcases List.mem_append.mp hp with hp|hp
 ·exact ⟨hk4 (L.cs_ p hp).1 (hn (L.cs_ p hp).1),(L.cs_ p hp).2⟩
 ·rw [List.mem_singleton.mp hp];exact ⟨hk4 ht (hn ht),hl⟩
theorem w_cla{Q:List V→AH→Prop}{R:V→AH→Prop}(L:Pre sa fd cl cb osa cells N H [] spot)(hN0:1≤N)(hN:N≤5)(hs:spot+200<100000)
  (q:∀H' cs v4 v5 spot',Pre sa fd cl cb osa cells N H' cs spot'→cs.length≤9→spot'≤spot+100→Q [.ref sa,.ref fd,.int N,.ref cb,v4,v5,.un,.un,.un,.un] H'):
  claC.wp (spL (n+3)) [.ref sa,.ref fd,.int N,.ref cb,.un,.un,.un,.un,.un,.un] H Q R:=by
 have hsz:(2000:Nat)<sz:=by decide
 refine s_forI (i_rng (lo:=0) rfl (e_bin (zw (.c (.int 2)) (.int 2) _ rfl (e_callG (zv (zw (.loc 1) (.ref fd) _ rfl (zv (zw (.c (.int 8)) (.int 8) _ rfl (zp (spL_ (by decide) (c_draw (n:=n+4) L.fd_ (by decide) fun r hr0 hr1=>binW_i (rgW_i (by decide) ⟨by unfold big;lia,by unfold big;lia⟩ ?_))))))))))))
 have L1:=L.feed (L.fd_.step (by lia))
 generalize H.set fd (fdO cl (spot+1))=H1 at L1
 refine floop_ind (fun i m H'=>Ex4 fun (cs:List (Addr×List Int)) (sp:Nat) (v4 v5:V)=>An4 (m=[.ref sa,.ref fd,.int N,.ref cb,v4,v5,.un,.un,.un,.un]) (Pre sa fd cl cb osa cells N H' cs sp) (cs.length=i) (sp≤spot+1+7*i)) _ (fun i v m H' K hv hI hK=>⟨trivial,?_⟩) (fun m H' hI=>⟨trivial,?_⟩) ⟨[],spot+1,.un,.un,rfl,L1,rfl,Nat.le_refl _⟩
 ·refine nn fun hC=>?_
  obtain ⟨cs,sp,v4,v5,rfl,L2,hl,hsp⟩:=hI
  obtain ⟨rfl,hi⟩:=rng_at hv
  refine hC ?_
  refine zj (vj (e_bin (zw (.c (.int 1)) (.int 1) _ rfl (e_callG (zv (zw (.loc 1) (.ref fd) _ rfl (zv (zw (.c (.int 3)) (.int 3) _ rfl (zp (spL_ (by decide) (c_draw (n:=n+4) L2.fd_ (by decide) fun t ht0 ht1=>binW_i ?_)))))))))))
  have L3:=L2.feed (L2.fd_.step (by lia))
  generalize H'.set fd (fdO cl (sp+1))=H3 at L3
  obtain ⟨k,hk,e⟩:∃k:Nat,k≤3∧1+t=(k:Int):=⟨(1+t).toNat,by lia,(Int.toNat_of_nonneg (Int.add_nonneg (by decide) (by assumption))).symm⟩
  rw [e]
  refine zj (s_ex (bm_l (l:=cs.map fun p=> .ref p.1) (b:=cb) rfl L3.cb_ rfl (zv (e_bi (zv (e_callG (zv (zw (.loc 1) (.ref fd) _ rfl (zv (zw (.loc 2) (.int N) _ rfl (zv (zw (.loc 5) (.int (k:Nat)) _ rfl (zp (spL_ (by decide) (c_literals (n:=n+3) L3.fd_ (by lia) hN0 hk fun H4 b c F4 hb0 hb hlc=>zp (tt_l hb fun t ht=>zp ?_))))))))))))))))
  have L4:=(L3.feed F4).more (Ext.refl.new (o:= .tup (zs c)) ht)
  exact app_ok L4.cb_ (by rw [List.length_map];lia) (zy (hK _ _ ⟨_,_,_,_,rfl,L4.add zx hlc,by rw [List.length_append,hl];rfl,by lia⟩))
 ·refine nn fun hC=>?_
  obtain ⟨cs,sp,v4,v5,rfl,L2,hl,hsp⟩:=hI
  rw [rng_len] at hl hsp
  refine hC ?_
  exact q _ _ _ _ _ L2 (by lia) (by lia)
set_option maxHeartbeats 1000000 in
theorem w_tail{v4 v5:V}(L:Pre sa fd cl cb osa cells N H cs spot)(hN0:1≤N)(hN:N≤5)(hs:spot+200<100000)(hl:cs.length≤9)
  (q:∀H',H' sa=some osa→Q (.bool true) H'):
  tailC.wp (spL (n+3)) [.ref sa,.ref fd,.int N,.ref cb,v4,v5,.un,.un,.un,.un] H (fun _ H=>Q .none H) (rt Q):=by
 have hsz:(3000000:Nat)<sz:=by decide
 refine zj (s_asgN (zv (e_new (zv (e_bi (zv (zw (.loc 3) (.ref cb) _ rfl (zp (b_list (seq_l L.cb_) fun lb hlb=>zv (zw (.loc 2) (.int N) _ rfl (zp fun a d ha hd had=>spL_ (by decide) ?_)))))))))))
 have L1:=L.more (Ext.refl.new (o:= .lst (cs.map fun p=>V.ref p.1)) hlb)
 have hlb1:(H.set lb (.lst (cs.map fun p=>V.ref p.1))) lb=some (.lst (cs.map fun p=>V.ref p.1)):=zx
 show spN tabL (n+5) 5 _ (((H.set lb (.lst (cs.map fun p=>V.ref p.1))).set a _).set d _) _
 generalize H.set lb (.lst (cs.map fun p=>V.ref p.1))=H1 at L1 hlb1 ha hd
 have hcls:Cls H1 lb (cl2 cs):=by
  obtain ⟨f,hf,hf2⟩:=refs_of (cs:=cs)
  refine ⟨f,by rw [hlb1,hf];unfold cl2;rw [List.length_map],fun j c hc=>?_⟩
  unfold cl2 at hc
  rw [List.getElem?_map] at hc
  obtain ⟨p,hp,rfl⟩:=Option.map_eq_some_iff.mp hc
  rw [hf2 j p hp]
  exact (L1.cs_ p (List.mem_of_getElem? hp)).1
 have hlen:(cl2 cs).length≤9:=by unfold cl2;rw [List.length_map];exact hl
 refine c_init (n:=n+2) (N:=N) hcls hN (fun c hc=>?_) (by lia) ha hd had fun H5 lay s hout hins So S hrl hll hlim hlg=>⟨rfl,zv (zw (.c (.int 0)) (.int 0) _ rfl (zp ⟨rfl,?_⟩))⟩
 ·obtain ⟨p,hp,rfl⟩:=List.mem_map.mp hc
  have:=(L1.cs_ p hp).2
  exact ⟨this.1,by have:=this.2;lia⟩
 have L5:LR sa fd cl cb osa cells N a H5 lay s cs spot 9 0:=⟨So,hins,S,hlim,(hout _ _ L1.fd_.fd).1,(hout _ _ L1.fd_.cl).1,(hout _ _ L1.sa_).1,(hout _ _ L1.cb_).1,fun p hp=>⟨(hout _ _ (L1.cs_ p hp).1).1,(L1.cs_ p hp).2,(hout _ _ (L1.cs_ p hp).1).2⟩,(hout _ _ L1.fd_.fd).2,(hout _ _ L1.fd_.cl).2,(hout _ _ L1.sa_).2,(hout _ _ L1.cb_).2,L1.fd_.n,L1.ne,by exact Nat.le_trans ‹_› ‹_›,by exact Nat.le_trans ‹_› ‹_›,Nat.zero_le _,fun c hc=>hlg c (by rwa [List.drop_zero] at hc)⟩
 refine zj (s_rng (lo:=0) (hi:=3) rfl rfl (by decide) (by decide) ?_)
 refine floop_ind (fun i m H'=>Ex9 fun (lay:Ro→Addr) (s:St) (cs:List (Addr×List Int)) (sp seen:Nat) (v4 v5 v8 v9:V)=>An4 (m=[.ref sa,.ref fd,.int N,.ref cb,v4,v5,.ref a,.int (seen:Nat),v8,v9]) (LR sa fd cl cb osa cells N a H' lay s cs sp (9+600001*i) seen) (sp≤spot+20*i) (cs.length≤9+i)) _ (fun i v m H' K hv hI hK=>⟨trivial,?_⟩) (fun m H' hI=>⟨trivial,?_⟩) ⟨lay,s,cs,spot,0,_,_,.un,.un,rfl,L5,Nat.le_refl _,hl⟩
 ·refine nn fun hC=>?_
  obtain ⟨lay,s,cs,sp,seen,v4,v5,v8,v9,rfl,L6,h1,h2⟩:=hI
  obtain ⟨rfl,hi⟩:=rng_at hv
  refine hC ?_
  have hi3:i<3:=by assumption
  exact w_round L6 hN0 hN (by lia) (by lia) (by lia) fun H7 lay7 s7 cs7 v5' v8' v9' sp7 seen7 L7 h3 h4=>hK _ _ ⟨lay7,s7,cs7,sp7,seen7,_,v5',v8',v9',rfl,by rw [show 9+600001*(i+1)=9+600001*i+600001 by lia];exact L7,by lia,by lia⟩
 ·refine nn fun hC=>?_
  obtain ⟨lay,s,cs,sp,seen,v4,v5,v8,v9,rfl,L6,h1,h2⟩:=hI
  refine hC ?_
  exact zj (s_ret (zw (.c (.bool true)) (.bool true) _ rfl (q _ L6.sa_)))
theorem c_law{script:List Int}(hsa:H sa=some osa)(hsee:H.see sa=some (.lst (zs script)))(q:∀H',H' sa=some osa→Q (.bool true) H'):
  k26.wp (spL (n+3)) [.ref sa,.un,.un,.un,.un,.un,.un,.un,.un,.un] H (fun _ H=>Q .none H) (rt Q):=by
 refine zj (vj (e_dictS (zv (w_cells hsa hsee fun H1 cl cells E1 hcl hcl1 hn0 hn1=>zv (zw (.c (.int 0)) (.int 0) _ rfl (zp fun fd hfd=>?_))))))
 have E2:=E1.new (o:=fdO cl 0) (E1.none hfd)
 have hcf:cl≠fd:=fun e=>by rw [e,show H1 fd=none from hfd] at hcl1;cases hcl1
 have F2:Fd (H1.set fd (fdO cl 0)) (H1.set fd (fdO cl 0)) fd cl cells 0:= .self zx (by rw [zu hcf];exact hcl1) (by decide) ⟨hn0,hn1⟩
 have hsf:sa≠fd:=fun e=>by have:=E1 _ _ hsa;rw [e,show H1 fd=none from hfd] at this;cases this
 have hs2:=E2 _ _ hsa
 show S.wp (spL (n+3)) _ _ (H1.set fd (fdO cl 0)) _ _
 generalize H1.set fd (fdO cl 0)=H2 at F2 hs2
 refine zj (vj (e_bin (zw (.c (.int 2)) (.int 2) _ rfl (e_callG (zv (zw (.loc 1) (.ref fd) _ rfl (zv (zw (.c (.int 4)) (.int 4) _ rfl (zp (spL_ (by decide) (c_draw (n:=n+4) F2 (by decide) fun r hr0 hr1=>binW_i ?_)))))))))))
 have F3:=F2.step (by decide)
 have hs3:=F3.ext _ _ hs2 hsf
 generalize H2.set fd (fdO cl (0+1))=H3 at F3 hs3
 refine nn fun hC=>?_
 obtain ⟨N,hN0,hN5,hN⟩:∃N:Nat,1≤N∧N≤5∧(2:Int)+r=(N:Nat):=⟨(2+r).toNat,by lia,by lia,(Int.toNat_of_nonneg (Int.add_nonneg (by decide) (by assumption))).symm⟩
 refine hC ?_
 rw [hN]
 refine zj (vj (e_emptyL fun cb hcb=>?_))
 have E4:Ext H3 (H3.set cb (.lst [])):=Ext.refl.new hcb
 have L:Pre sa fd cl cb osa cells N (H3.set cb (.lst [])) [] 1:=⟨.self (E4 _ _ F3.fd) (E4 _ _ F3.cl) F3.b F3.n,E4 _ _ hs3,zx,fun p hp=>absurd hp List.not_mem_nil,⟨hsf,(fun e=>by rw [e,hcb] at hs3;cases hs3),fun e=>by have:=F3.cl;rw [e,hcb] at this;cases this⟩⟩
 exact zj (w_cla L hN0 hN5 (by decide) fun H5 cs v4 v5 sp L5 h1 h2=>w_tail L5 hN0 hN5 (by lia) h1 q)
end
end Mine
end
section
open PySem PySem.W PySem.Calls PyProof.Rows
namespace Mine
section
variable{c:Cx}{F:Nat→Addr}{fns:List Fn}{A:Around}
noncomputable abbrev er(env:Env)(B2:Bs):Bs:=fun b=>if b=env.locals then none else B2 b
theorem noh{B':Bs}{H':AH}{s':Shared}{a:Addr}(hp:Hp c B' H' s')(e:B' a=none):c.h₀.get? a=none:=by
 generalize q:c.h₀.get? a=zq;induction zq with
 |none=>rfl
 |some o=>rw [hp.base a o q] at e;cases e
theorem er_rep{B B2:Bs}{env:Env}{own:List Str}{sl:Sl}{m:List V}{H H':AH}{s s':Shared}{fs:List Addr}(R:Rep c B env own sl m H s)(wk:WkB fs (wz s.heap H) B2)(hp:Hp c B2 H' s'):Rep c (er env B2) env [] sl m H' s':=by
 refine Rep.wk R wk hp (hp.less (fun b o e=>?_) fun b o e=>?_) (if_pos rfl) (fun _ h=>absurd h List.not_mem_nil) fun _ _ h=>absurd h List.not_mem_nil
 ·exact (if_neg fun e'=>by rw [e',noh R.hp R.fm.locB] at e;cases e).trans (hp.base b o e)
 ·by_cases e':b=env.locals
  ·rw [show er env B2 b=none from if_pos e'] at e;cases e
  ·rwa [show er env B2 b=B2 b from if_neg e'] at e
theorem catch_ok{B B1:Bs}{env:Env}{own:List Str}{sl:Sl}{m:List V}{H0 H:AH}{s0 s:Shared}{wh:List Env}{x fe:Addr}{base:Heap}{a0:Value}{sc:Scope}{b0:Stmt}{suite:List Stmt}{q6 q7:Pos}{Q:Flow→Shared→Prop}{E:Value→Shared→Prop}(G:Gd c)(XO:ExcOK c fe)
  (hfr:A.frames=some (env::wh)) (hf:env.frame=some env.locals) (gx:glb sc c.T.excN=true) (hsc:∀n,kd env.scope n=kd sc n) (R:Rep c B env own sl m H0 s0) (fl:Flown c (env::wh) (wz s0.heap H0) H x s B1 base a0)
  (h:∀{E' s' B2},WkB (frs (env::wh)) (wz s0.heap H0) B2→Rep c (er env B2) env [] sl m H s'→wpAny (model c.prog c.w) (A.mark (some (.ref x))) (execs (b0::suite) env) Q E' s'):
  wpAny (model c.prog c.w) A (noteFrame (.ref x) env) (fun _ s₂=>wpAny (model c.prog c.w) A (setFlight (.ref x) none) (fun _ s₃=>wpAny (model c.prog c.w) A (handleBy (.ref x) env [.ExceptHandler (some (.Name c.T.excN q6)) none (b0::suite) q7]) Q E s₃) E s₂) E s:=by
 refine wpAny_looks_onW hfr hf fl.fl fun h6 held u6=>wpAny_landsW held fun h7 fl7 u7=>?_
 refine nn fun hC=>?_
 obtain ⟨B7,wk7,hp7⟩:=fl.at (tk:=s.toks) fl7.1 (u6.trans u7)
 have R7:=er_rep R wk7 hp7
 have X7:=R7.hp.kin G
 obtain ⟨ob,hob1,hob2⟩:=fl7.there
 obtain ⟨oc,hoc,hty⟩:=XO.ty
 have MX:=(makesX_of (M:=model c.prog c.w) X7 XO.mkx).1
 obtain ⟨oc',od',cd',sl',hC',_⟩:=MX.obj
 have hcc:=hC'.symm.trans (X7 _ _ hoc)
 cases hcc
 refine hC ?_
 refine wpAny_handleBy_cons (codeAny_handlers_test (name_glob G gx hsc R7 XO.glob (matchX hob1 hob2 (X7 _ _ hoc) hty rfl MX.base0 MX.self (codeAny_handlers_suite (wpAny_setFlight_noneW fl7.1 fl7.2.2.1 fl7.2.2.2.at fun h8 k81 k82 k83 k84=>?_))))) (fun h=>nomatch h)
 refine nn fun hC=>?_
 obtain ⟨B8,wk8,hp8⟩:=fl.at (tk:=s.toks) k81 ((u6.trans u7).trans fun b o hb hn=>⟨o.slots,k84 b o hb hn⟩)
 refine hC ?_
 exact h wk8 (er_rep R wk8 hp8)
theorem hand_ok{B:Bs}{env:Env}{own:List Str}{sl:Sl}{m:List V}{H:AH}{s:Shared}{a0 an cn:Str}{b1 b2:Stmt}{Q:V→AH→Prop}{W:V→AH→Prop}{E:Value→Shared→Prop}{P:Flow→Shared→Prop}{sp:Sp}(G:Gd c)(hK:attrChk c.K c.C=true)(hu:A.units+80<cLine)(h1:IsSet a0 an 0 b1)(h2:IsRetS (IsGt a0 cn) b2)(h15:nmOf an=some 15)(h14:nmOf cn=some 14)(s0:slot sl a0=some 0)
  (R:Rep c B env own sl m H s) (q:(S.setA (.loc 0) 15 (.c (.int 0))).wp sp m H (fun m H=>(X.cmp .gt (.attr (.loc 0) 14) (.c (.int 0))).ev sp m H Q) W) (hP:∀v H' s',Hp c B H' s'→Q (av v) H'→P (.ret v) s'):wpAny (model c.prog c.w) A (execs [b1,b2] env) P E s:=by
 refine wpAny_execs_cons (wpAny_mono (set_lit G hK h1 h15 s0 R q) (fun fl s9 e9=>?_) fun _ _ x=>x)
 refine nn fun hC=>?_
 obtain ⟨rfl,H9,R9,q9⟩:=e9
 obtain ⟨e,p,rfl,t1,t2,k,t3,t4,rfl⟩:=h2
 refine hC ?_
 refine wpAny_execs_cons (wpAny_Return_some (wpAny_mono (ev_cmp (op:= .gt) (sc:=env.scope) G hu rfl (ev_attr G hK rfl h14 (ev_loc s0)) ev_int (fun _=>rfl) R9 q9) (fun v s10 e10=>?_) fun _ _ x=>x))
 refine nn fun hC=>?_
 obtain ⟨H10,R10,q10⟩:=e10
 refine hC ?_
 exact hP v H10 s10 R10.hp q10
theorem tail_ok{B:Bs}{env:Env}{own:List Str}{sl:Sl}{m:List V}{H:AH}{s:Shared}{a0 an:Str}{t3 t4:Stmt}{T:AH→Prop}{W:V→AH→Prop}{E:Value→Shared→Prop}{P:Flow→Shared→Prop}{sp:Sp}(G:Gd c)(hK:attrChk c.K c.C=true)(h3:IsSet a0 an 0 t3)(h4:IsRetS IsTrueE t4)(h15:nmOf an=some 15)(s0:slot sl a0=some 0)
  (R:Rep c B env own sl m H s) (q:(S.setA (.loc 0) 15 (.c (.int 0))).wp sp m H (fun _ H=>T H) W) (hP:∀H' s',Hp c B H' s'→T H'→P (.ret (.bool true)) s'):wpAny (model c.prog c.w) A (execs [t3,t4] env) P E s:=by
 refine wpAny_execs_cons (wpAny_mono (set_lit G hK h3 h15 s0 R q) (fun fl s6 e6=>?_) fun _ _ x=>x)
 refine nn fun hC=>?_
 obtain ⟨rfl,H6,R6,q6⟩:=e6
 obtain ⟨e,p,rfl,k,p',rfl⟩:=h4
 refine hC ?_
 exact wpAny_execs_cons (wpAny_Return_some (wpAny_pure (hP H6 s6 R6.hp q6)))
theorem el_ne{α:Type}{a b:α}{v:V}(h:v≠ .un):V.el a v (un:=b)=a:=by induction v<;>first|rfl|exact absurd rfl h
theorem ask_ok{B:Bs}{env:Env}{sl:Sl}{m:List V}{H:AH}{s:Shared}{f18:Fn}{n:Nat}{sc:Scope}{a0 a1:Str}{sq:Stmt}{own:List Str}{wh:List Env}{K:V→AH→Prop}{P:Flow→Shared→Prop}{E:Value→Shared→Prop}(T:Txt c F fns)(ht:tabOf fns=tabL)(h18:fns[18]?=some f18)(hsup:f18.body.head?.any isSup=false)(gA:Good A (n+1))(L:Lw c A (spN (tabOf fns) n) F)
  (hfr:A.frames=some (env::wh)) (gl:glb sc "list"=true) (hq:IsAsk c.T a0 a1 sq) (s0:slot sl a0=some 0) (s1:slot sl a1=some 1) (hsc:∀n,kd env.scope n=kd sc n) (R:Rep c B env own sl m H s)
  (fb:∀{s4:Shared} {H4:AH},Rep c B env own sl m H4 s4→FrB c (wz s4.heap H4) (env::wh)) (w:(X.callM 18 (.loc 0) [.bi .toList [.loc 1]]).ev (spX tabL n) m H K)
  (hR:∀v H' s',Rep c B env own sl m H' s'→av v≠ .un→K (av v) H'→P .next s') (hX:∀x H' s' s4 H4 B1 base a0,Rep c B env own sl m H4 s4→Flown c (env::wh) (wz s4.heap H4) H' x s' B1 base a0→K .un H'→E (.ref x) s'):
  wpAny (model c.prog c.w) A (exec sq env) P E s:=by
 refine nn fun hC=>?_
 obtain ⟨mn,q1,ap,q2,q3,q4,cp,⟨q5,rfl⟩,hm,hline⟩:=hq
 refine hC ?_
 clear hC
 have hi:interactive env=false:=by
  unfold interactive
  rw [R.fm.eok.kind];rfl
 have w3:(Mine.X.loc 0).ev (spX tabL n) m H fun ov H=>ifS (insV H ov) fun p=>X.evs (spN (tabOf fns) n) [.bi .toList [.loc 1]] m H fun ws H=>spX tabL n 18 (ov::ws) H K:=w
 refine wpAny_Expr_any (meth_call rfl hline (Nat.le_of_ble_eq_true rfl) (fun e h=>?_) (wpAny_mono (ev_loc s0 hsc R w3) (fun ov s3 e3=>?_) fun _ _ x=>x)) hi rfl
 ·rw [List.mem_singleton.mp h];rfl
 intro pl
 refine nn fun hC=>?_
 obtain ⟨H3,R3,w3⟩:=e3
 obtain ⟨p,e,w4⟩:=zh w3
 obtain ⟨a,ha,hd,hes⟩:=insV_eq e
 obtain rfl:=vm ha
 obtain ⟨e1,e2⟩:=T.tb.meth mn 18 hm
 refine hC ?_
 have hbi:biOf (Str.ofString "list") 1=some Mine.B.toList:=by kernel_rfl
 refine o_meth T.G e1 R3.hp hd hes (with_K T.G e2 (es_cons rfl (ev_bi (args:=[.Name a1 q3]) L gl (b:= .toList) hbi (es_cons rfl (ev_loc s1) es_nil)) es_nil) hsc R3 w4 fun ws H4 s4 hl4 R4 w5=>?_)
 refine wpAny_call (codeAny_mono (callX (vs:= .ref a::ws) T gA hfr h18 hsup R4.hp.whole (fb R4) (by rw [ht];exact w5)) fun r s5 hr=>?_)
 induction hr with
 |ret v H5 e hp q=>
  subst e
  exact hR v H5 s5 (R4.back hp) (rt_ne q) (rt_eq q)
 |exc x H5 B1 base a0 e fl q=>
  subst e
  exact hX x H5 s5 s4 H4 B1 base a0 R4 fl q
theorem lim_body{Bq:Bs}{env env0:Env}{own:List Str}{sl:Sl}{m:List V}{H:AH}{s:Shared}{sc:Scope}{f18:Fn}{n:Nat}{fe:Addr}{a0 a1 an cn:Str}{t1 t2 t3 t4:Stmt}{Q:V→AH→Prop}{P:Flow→Shared→Prop}{E:Value→Shared→Prop}
  (T:Txt c F fns) (ht:tabOf fns=tabL) (h18:fns[18]?=some f18) (hsup:f18.body.head?.any isSup=false) (XO:ExcOK c fe) (gA:Good A (n+1)) (L:Lw c A (spN (tabOf fns) n) F) (hfr:A.frames=some [env,env0]) (hf:env.frame=some env.locals) (hf0:env0.frame=some env0.locals)
  (kd0:env0.scope.kind≠ .module) (b0:∃o,Bq env0.locals=some o∧∀vs,o.data≠ .fields vs) (n0:c.h₀.get? env0.locals=none) (hsc:∀n,kd env.scope n=kd sc n) (s0:slot sl a0=some 0) (s1:slot sl a1=some 1) (h15:nmOf an=some 15) (h14:nmOf cn=some 14)
  (gl:glb sc "list"=true) (gx:glb sc c.T.excN=true) (h1:IsSet a0 an 1 t1) (h2:IsTryS c.T a0 a1 an cn t2) (h3:IsSet a0 an 0 t3) (h4:IsRetS IsTrueE t4) (R:Rep c Bq env own sl m H s)
  (hw:(S.setA (.loc 0) 15 (.c (.int 1))).wp (spN tabL 0) m H (fun m' H=>(X.callM 18 (.loc 0) [.bi .toList [.loc 1]]).ev (spX tabL n) m' H fun v H=>
   (S.setA (.loc 0) 15 (.c (.int 0))).wp (spN tabL 0) m H (fun m' H=>v.el (Q (.bool true) H) (un:=(X.cmp .gt (.attr (.loc 0) 14) (.c (.int 0))).ev (spN tabL 0) m' H Q)) fun _ _=>False) fun _ _=>False)
  (hP:∀{v H' s' B2},Hp c B2 H' s'→WkB [env0.locals] Bq B2→Q (av v) H'→P (.ret v) s'):wpAny (model c.prog c.w) A (execs [t1,t2,t3,t4] env) P E s:=by
 refine nn fun hC=>?_
 obtain ⟨sq,b1,b2,q6,q7,q8,rfl,hq,hb1,hb2⟩:=h2
 refine hC ?_
 clear hC
 refine wpAny_execs_cons (wpAny_mono (set_lit T.G T.hK h1 h15 s0 R hw) (fun fl s2 e2=>?_) fun _ _ x=>x)
 refine nn fun hC=>?_
 obtain ⟨rfl,H2,R2,w2⟩:=e2
 refine hC ?_
 refine wpAny_execs_cons (wpAny_Try_except (wpAny_execs_cons (ask_ok T ht h18 hsup gA L hfr gl hq s0 s1 hsc R2 (fun {s4 H4} R4=>?_) w2 (fun v H' s' R5 hn k=>?_) fun x H' s' s4 H4 B1 base a0 R4 fl k=>?_)))
 ·refine nn fun hC=>?_
  obtain ⟨mm,oL,es,ep,hL1,hL2,_⟩:=R4.fm.ns
  obtain ⟨o0,h01,h02⟩:=b0
  refine hC ?_
  refine ⟨⟨by rw [R4.fm.eok.kind];exact (fun h=>nomatch h),_,oL,hf,?_,(fun vs e=>by rw [hL2] at e;cases e),noh R4.hp R4.fm.locB⟩,⟨kd0,_,o0,hf0,R4.hp.inB h01,h02,n0⟩,trivial⟩
  unfold wz;rw [R4.fm.locH];exact hL1
 ·refine wpAny_execs_nil (wpAny_execs_nil (tail_ok (sp:=spN tabL 0) (W:=fun _ _=>False) (T:=fun H=>Q (.bool true) H) T.G T.hK h3 h4 h15 s0 R5 ?_ fun H' s' hp q=>hP hp (fun b o h=>⟨o.slots,h,fun _=>rfl⟩) q))
  have k':=k
  simp only [el_ne hn] at k'
  exact k'
 ·refine catch_ok T.G XO hfr hf gx hsc R4 fl fun {E' s' B2} wk R'=>hand_ok T.G T.hK ?_ hb1 hb2 h15 h14 s0 R' k fun v H' s' hp q=>hP hp (fun b o h=>?_) q
  ·exact Nat.lt_of_le_of_lt (Nat.add_le_add (Nat.le_add_right _ _) (by decide)) gA.un
  ·refine nn fun hC=>?_
   obtain ⟨sl',e1,e2⟩:=wk b o (R4.hp.inB h)
   refine hC ?_
   have nb:b≠env.locals:=fun e'=>by rw [e',R4.fm.locB] at h;cases h
   refine ⟨sl',(if_neg nb).trans e1,fun z=>e2 fun z'=>?_⟩
   have hfrs:frs [env,env0]=[env.locals,env0.locals]:=by
    unfold frs
    rw [List.filterMap_cons,hf,List.filterMap_cons,hf0];rfl
   rw [hfrs] at z'
   rcases List.mem_cons.mp z' with e|e
   ·exact nb e
   ·exact z e
theorem lim_ok(T:Txt c F fns)(ht:tabOf fns=tabL){f f18:Fn}(Y:LimF c f)(h18:fns[18]?=some f18)(hsup:f18.body.head?.any isSup=false){fe:Addr}(XO:ExcOK c fe){n:Nat}(gA:Good A (n+2)){env0:Env}(hfr:A.frames=some [env0])(hf0:env0.frame=some env0.locals):LimR c A (spL n):=by
 intro B env own sl m H s Q E vs hl R h
 refine nn fun hC=>?_
 obtain ⟨l,hl⟩:=hl
 rw [hfr] at hl
 cases hl
 have h':limW n (vs.map av) H Q:=by unfold spL at h;rw [if_pos rfl] at h;exact h
 clear h
 obtain ⟨ok,addr,a0,a1,an,cn,t1,t2,t3,t4,hps,hsl,s0,s1,h15,h14,gl,gx,hb,h1,h2,h3,h4⟩:=Y
 obtain ⟨hlen,hw⟩:=h'
 refine hC ?_
 clear hC
 have hvl:vs.length=f.ps.length:=by rw [hps];rw [List.length_map] at hlen;exact hlen
 have hm0:m0 f.fd.scope (vs.map av)=vs.map av:=by
  unfold m0
  rw [hsl,hlen];exact List.append_nil _
 refine wpAny_call ?_
 rw [addr]
 refine codeAny_mono (code_fnG (RR:=fun r s'=>Ex3 fun v H' B2=>An4 (r= .ok (.ret v)) (Hp c B2 H' s') (WkB [env0.locals] (wz s.heap H) B2) (Q (av v) H')) T.G ok gA.dep R.hp hvl (.inl fun env' s₁ he hf Re=>?_)) fun r s' hr=>?_
 rotate_left
 ·refine nn fun hC=>?_
  obtain ⟨v,H',B2,rfl,hp,wk,q⟩:=hr
  refine hC ?_
  refine ⟨H',Rep.wk R wk hp (hp.less R.hp.base fun b o e=>?_) R.fm.locB (fun _ h=>h) R.fm.celB,q⟩
  obtain ⟨sl',e1,e2⟩:=wk b o (R.hp.inB e)
  rw [e1,e2 fun h=>by rw [List.mem_singleton.mp h,R.fm.locB] at e;cases e]
 rw [hm0] at Re
 rw [hb]
 have g1:Good A (n+1):=gA.down
 refine lim_body (Q:=Q) (env:=env') (env0:=env0) (sc:=f.fd.scope) T ht h18 hsup XO gA.deeper.1 (lw_of T (calls_ok T n) g1 env') (Around.frames_deeper hfr) hf hf0 (by rw [R.fm.eok.kind];exact (fun h=>nomatch h)) ?_ (noh R.hp R.fm.locB) (fun n=>by rw [he]) s0 s1 h15 h14 gl gx h1 h2 h3 h4 Re hw ?_
 rotate_left
 ·intro v H' s' B2 hp wk q
  exact ⟨v,H',B2,rfl,hp,wk,q⟩
 obtain ⟨mm0,o0,es,ep,h01,h02,_⟩:=R.fm.ns
 exact ⟨o0,by unfold wz;rw [R.fm.locH];exact h01,fun vs e=>by rw [h02] at e;cases e⟩
end
end Mine
end
section
open PySem PySem.W PySem.Calls PyProof.Rows
set_option tactic.hygienic false
namespace Mine
theorem gone(h:Heap)(a:Addr):∃h':Heap,(∀b,b≠a→h'.get? b=h.get? b)∧h'.get? a=none:=by
 refine ⟨hideAll h [a],fun b hb=>?_,hideAll_none _ (.head _)⟩
 generalize e:h.get? b=zq;induction zq with
 |some o=>exact hideAll_get _ e fun m=>hb (List.mem_singleton.mp m)
 |none=>generalize e':(hideAll h [a]).get? b=zq;induction zq with
  |none=>rfl
  |some o=>rw [of_hideAll _ e'] at e;cases e
noncomputable def intsOf(ns:List Int):List V:=ns.map V.int
theorem ints_av{vs:List Value}{ns:List Int}(h:IntsAre vs ns):vs.map av=intsOf ns:=by
 induction h with
 |nil=>rfl
 |cons n t _ ih=>exact congrArg (V.int n::·) ih
noncomputable def oneAt(a:Addr)(x:O):AH:=fun b=>if b=a then some x else none
noncomputable def supX:X→Bool
 | .sup _=>true
 |_=>false
noncomputable def isSeq:S→Bool
 | .seq _ _=>true
 |_=>false
noncomputable def supS:S→Bool
 | .seq a _=>match a with
  | .ex x=>supX x
  |_=>false
 |_=>false
theorem notsup{T:Tb}{n:Nat}{sc:Scope}{st:Stmt}{r:List Stmt}{k:S}(h:trBody T n sc (st::r)=some k)(hk:supS k=false):isSup st=false∧trSs (tr T (n+1)) sc (zm sc) 60 (st::r)=some k:=by
 replace h:(bif isSup st then (trSs (tr T (n+1)) sc (zm sc) 60 r).map fun rc=> .seq (.ex (.sup T.supF)) rc else trSs (tr T (n+1)) sc (zm sc) 60 (st::r))=some k:=h
 generalize hs:isSup st=zq;induction zq with
 |false=>rw [hs] at h;exact ⟨rfl,h⟩
 |true=>
  rw [hs] at h
  obtain ⟨b,_,e⟩:=wj (show Option.map _ _=_ from h)
  rw [←e] at hk;cases hk
theorem law_txt{c:Cx}{F:Nat→Addr}{fns:List Fn}{n:Nat}{sa:Addr}{s:Shared}{B:Bs}{H:AH}{Q:V→AH→Prop}(X:TxtX c F fns tabL)(gA:Good callerA (n+3))(R:Hp c B H s)
  (law:k26.wp (spL n) [.ref sa,.un,.un,.un,.un,.un,.un,.un,.un,.un] H (fun _ H=>Q .none H) (rt Q)):
  codeAny (model c.prog c.w) callerA (.call (.ref (F 26)) ⟨[.ref sa],[]⟩) (fun r s'=>∃v,r= .ok (.ret v)∧PH c (wz s.heap H) Q v s') s:=by
 refine nn fun hC=>?_
 obtain ⟨T,ht,fi,ex,fL,li⟩:=X
 refine hC ?_
 have look:∀{g:Nat} {k:Fa},tabL[g]?=some k→∃f,fns[g]?=some f∧(⟨f.ps.length,(zm f.fd.scope).length,f.code⟩:Fa)=k:=fun {g k} e=>by
  rw [←ht] at e
  unfold tabOf at e
  rw [List.getElem?_map] at e
  exact Option.map_eq_some_iff.mp e
 refine nn fun hC=>?_
 obtain ⟨f,hf,ek⟩:=look (g:=26) (k:=⟨1,10,k26⟩) rfl
 obtain ⟨f18,hf18,ek18⟩:=look (g:=18) (k:=⟨2,8,k18⟩) rfl
 refine hC ?_
 have np:f.ps.length=1:=congrArg Fa.np ek
 have nsl:(zm f.fd.scope).length=10:=congrArg Fa.ns ek
 have kc:f.code=k26:=congrArg Fa.code ek
 have kc18:f18.code=k18:=congrArg Fa.code ek18
 have C:=T.fns 26 f hf
 have hc:=C.code
 have hc18:=(T.fns 18 f18 hf18).code
 rw [kc] at hc
 rw [kc18] at hc18
 obtain ⟨st,r,hb,hcode⟩:∃st r,f.body=st::r∧trSs (tr c.T 31) f.fd.scope (zm f.fd.scope) 60 (st::r)=some k26:=by
  generalize hb:f.body=zq;induction zq with
  |nil=>
   rw [hb] at hc
   have h2:some false=some true:=congrArg (Option.map isSeq) hc
   cases h2
  |cons st r=>rw [hb] at hc;exact ⟨st,r,rfl,(notsup hc rfl).2⟩
 have hsup:f18.body.head?.any isSup=false:=by
  generalize hb:f18.body=zq;induction zq with
  |nil=>rfl
  |cons st r=>rw [hb] at hc18;exact (notsup hc18 rfl).1
 rw [C.addr]
 refine code_fnG T.G C.ok gA.dep R (vals:=[.ref sa]) np.symm (.inl fun env s₁ he hfr Re=>?_)
 have hm:m0 f.fd.scope ([Value.ref sa].map av)=[.ref sa,.un,.un,.un,.un,.un,.un,.un,.un,.un]:=by
  unfold m0
  rw [nsl];rfl
 rw [hm] at Re
 obtain ⟨g1,g2,g3⟩:=gA.deeper (env:=env)
 have ih:∀{A:Around},Good A (n+2)→Calls c A (spL n) F:=fun {A} gA {B H s Q} g vs hg R h=>calls_ok T (n+2) gA g vs hg R (by
  unfold spL at h
  rw [if_neg (by lia)] at h
  rw [ht];exact h)
 have L:Lw c (callerA.deeper env) (spL n) F:=⟨T.G,g1.hh,Nat.lt_of_le_of_lt (Nat.add_le_add (Nat.le_add_right _ _) (by decide)) g1.un,T.hK,T.tb,T.lt,T.key,T.cls,ih g1,fun vs=>ih (g3 _ vs),ih g2,T.rs g1,lim_ok T ht li hf18 hsup ex g1 (Around.frames_deeper rfl) hfr⟩
 rw [hb]
 refine wpAny_mono (snd_ss L hcode (E:=fun _ _=>False) ⟨he,⟨_,Around.frames_deeper rfl⟩,.never,fun _ _ ⟨_,_,_,_,_,_,_,_,q⟩=>q⟩ Re law) (fun fl s' x=>?_) fun _ _ x=>x.elim
 induction fl with
 |next=>obtain ⟨m',H',a,b⟩:=x;exact ⟨_,rfl,H',a.hp,b⟩
 |ret v=>obtain ⟨H',a,b⟩:=x;exact ⟨v,rfl,H',a,rt_eq (rt_eq b)⟩
 |brk=>exact x.elim
 |cont=>exact x.elim
theorem law_walk{prog:Program}{w:World}{T:Tb}{fs:List Addr}{C LX LL fi:Addr}{n:Nat}{sa a:Addr}{vs:List Value}{ns:List Int}{s:Shared}{mg mb:Str→Option Value}{name:Str}
  (Y:SaysT prog T fs C LX LL fi tabL w s.heap) (hg:s.gens= #[]) (hns:s.heap.Ns mainGlobals mg) (hnb:s.heap.Ns builtinsNs mb) (hb:∀x:Str,x≠"__name__"→mb x=bootBuiltins x) (hl:s.heap.NoLimit)
  (hsa:s.heap.get? sa=some {cls:= .type "list",data:= .seq vs.toArray}) (hi:IntsAre vs ns) (hlen:ns.length≤sz) (hname:T.globs.lookup name=some 26) (hm:mg name=some (.ref a)) (gd:Good callerA (n+3))
  (law:∀(H:AH) (Q:V→AH→Prop) (osa:O),H sa=some osa→H.see sa=some (.lst (intsOf ns))→(∀H',H' sa=some osa→Q (.bool true) H')→k26.wp (spL n) [.ref sa,.un,.un,.un,.un,.un,.un,.un,.un,.un] H (fun _ H=>Q .none H) (rt Q)):
  codeAny (model prog w) callerA (.call (.ref a) ⟨[.ref sa],[]⟩) (fun r s'=>r= .ok (.ret (.bool true))∧s'.gens= #[]∧s'.os=s.os∧∀b o,s.heap.get? b=some o→s'.heap.get? b=some o) s:=by
 obtain ⟨K,hK,t1,t2,t9⟩:=Y
 obtain ⟨t0,t1⟩:=and2 t1
 obtain ⟨t3,t4⟩:=and2 t0
 have out:∀{b:Addr} {o:Obj},s.heap.get? b=some o→o.cls≠ .type "list"∨(∃es ep,o.data= .dict es ep)→b≠sa:=fun {b o} e hc=>by
  rintro rfl
  rw [hsa] at e
  cases e
  rcases hc with hc|⟨_,_,hc⟩
  ·exact hc rfl
  ·cases hc
 obtain ⟨h₀,g1,g2⟩:=gone s.heap sa
 have back:∀b o,h₀.get? b=some o→s.heap.get? b=some o∧b≠sa:=fun b o e=>by
  have hbs:b≠sa:=by rintro rfl;rw [g2] at e;cases e
  exact ⟨(g1 b hbs).symm.trans e,hbs⟩
 have nsK:∀{b:Addr} {m:Str→Option Value},s.heap.Ns b m→h₀.Ns b m:=fun {b m} x=>by
  refine nn fun hC=>?_
  obtain ⟨o,es,ep,ho,hd,r⟩:=x
  refine hC ?_
  exact ⟨o,es,ep,(g1 b (out ho (.inr ⟨_,_,hd⟩))).trans ho,hd,r⟩
 have kin:K.In h₀:=fun b o e=>by
  refine (g1 b (out (hK b o e) (.inl ?_))).trans (hK b o e)
  have:=List.all_eq_true.mp t4 _ (mem_lookup e)
  simpa using this
 have G:Gd ⟨prog,w,K,C,T,h₀,s.os,LX,LL⟩:=⟨kin,?_,?_,⟨mg,nsK hns⟩,⟨mb,nsK hnb,hb⟩⟩
 rotate_left
 ·obtain ⟨mc,x,y⟩:=hl
  exact ⟨mc,nsK x,y⟩
 ·obtain ⟨o,ho⟩:=Option.isSome_iff_exists.mp t3
  exact ⟨o,kin _ _ ho⟩
 obtain ⟨fns,X⟩:=txt_of (c:=⟨prog,w,K,C,T,h₀,s.os,LX,LL⟩) G t1 t2 t9
 have ha:a=fs.getD 26 0:=by
  obtain ⟨T,_⟩:=X
  have:=mg_of hK hns (T.tb.glob _ _ hname).1
  rw [hm] at this
  cases this
  rfl
 rw [ha]
 let o:Obj:={cls:= .type "list",data:= .seq vs.toArray}
 let x:O:= .froz (.lst (intsOf ns)) o
 have hx:(oneAt sa x) sa=some x:=if_pos rfl
 have hne:∀{b y},(oneAt sa x) b=some y→b=sa∧y=x:=fun {b y} e=>by
  unfold oneAt at e
  by_cases hbs:b=sa
  ·rw [if_pos hbs] at e;cases e;exact ⟨hbs,rfl⟩
  ·rw [if_neg hbs] at e;cases e
 have hlist:Real prog w C s.heap sa (.lst (intsOf ns)):=⟨_,⟨0,hsa⟩,by rw [←ints_av hi],by unfold intsOf;rw [List.length_map];exact hlen⟩
 have R:Hp ⟨prog,w,K,C,T,h₀,s.os,LX,LL⟩ (wz s.heap (oneAt sa x)) (oneAt sa x) s:=by
  refine ⟨⟨hg,rfl⟩,fun b y e=>?_,fun b y e=>?_,fun b y e=>?_,fun b y e=>?_⟩
  ·obtain ⟨e1,e2⟩:=back b y e
   unfold wz oneAt
   rw [if_neg e2]
   exact e1
  ·exact (baseOf_get e).2
  ·obtain ⟨rfl,rfl⟩:=hne e
   exact ⟨hsa,hlist⟩
  ·unfold wz;rw [e];rfl
 refine codeAny_mono (law_txt X gd R (Q:=fun v H'=>v= .bool true∧H' sa=some x) (law _ _ x hx (congrArg (Option.map O.un) hx) fun H' h=>⟨rfl,h⟩)) fun r s' hr=>?_
 refine nn fun hC=>?_
 obtain ⟨v,rfl,H',R',hv,h'⟩:=hr
 refine hC ?_
 refine ⟨by rw [av_bool hv],R'.gens.1,R'.gens.2,fun b o' e=>?_⟩
 by_cases hbs:b=sa
 ·subst hbs
  rw [hsa] at e
  cases e
  exact (R'.real _ _ h').1
 ·refine R'.keep _ _ ?_
  unfold wz oneAt
  rw [if_neg hbs]
  exact e
theorem well_plain{P:Params}{h:Heap}{sa:Addr}{vs:List Value}{d:List WData}(wl:Well P h (.ref sa) (.list d))(hL:h.IsList sa vs.toArray):h.get? sa=some {cls:= .type "list",data:= .seq vs.toArray}:=by
 cases wl with
 |list h1 _=>
  obtain ⟨o,h2,_,n,h3⟩:=hL
  rw [h1] at h2
  cases h2
  obtain ⟨h4,_⟩:=Data.seq.inj h3
  rw [h1,h4]
end Mine
end
section
open PySem PySem.W PySem.Calls PyProof.Rows
namespace Mine
noncomputable def pr01:Program:=PySem.Challenge.rw_nu0277_01.row.toRowW.prog
noncomputable def bindsTop(st:Stmt):Bool:=st.ctorIdx==0||st.ctorIdx==2||(sw st).el false (asg:=fun ts _=>!(ts.any fun t=>nameOf t==some ("__name__":Str)))
noncomputable def q01:Program:={pr01 with main:={pr01.main with body:=pr01.main.body.filter bindsTop}}
noncomputable def T01:Tb:=⟨[("ordered",0),("_law_draw",21),("_law_literals",22),("_law_keeps",23),("_law_worlds",24),("_law_is_told",25),("law",26)],
 [("says",2),("let",3),("back_to",4),("add_clause",6),("refute",7),("keep",8),("spread",9),("has_moved",10),("warm",11),("lesson",12),("height_of",13),("learn",14),("blame",15),("hottest",16),("decide",17),("solve",18),("value",19),("failed",20)],
 [("FIRST_SPAN",16),("MOST_HEAT",1000000000)],"Search",5,1,"height_of",13,"LimitFault","_law_is_limited"⟩
noncomputable def fs01:List Addr:=[62,76,83,90,97,118,123,130,137,144,151,156,163,170,177,182,189,196,203,210,217,229,236,241,246,251,263]
noncomputable def as01:List Addr:=[1,2,3,17,18,21,29,30,36,37,39,40,41,46,49,52,53,61,62,65,68,75,76,82,83,89,90,96,97,99,100,101,102,107,108,111,117,118,122,123,129,130,136,137,143,144,150,151,155,156,162,163,169,170,176,177,181,182,188,189,195,196,202,203,209,210,216,217,219,220,228,229,235,236,240,241,245,246,250,251,257,258,262,263]
theorem open01:opening pr01=plainProg pr01.main.scope.names:=by kernel_rfl
theorem fence01:∀s,fenceModules? pr01 s=some s:=fun s=>by kernel_rfl
theorem top01a(w:World)(os:OsState):(topQ pr01 w ((boot_heap w.params).nsMap mainGlobals "__annotations__") 4000 (boot0 w os)).map (fun s=>(staticsOk (importedModules pr01.main.body) (boot_heap w.params) s.abs.heap&&namesBound pr01 s.abs.heap&&gensDone s.abs&&laidKept (boot_heap w.params) s.abs.heap,Fast.tw4187177175401517315 q01 [] (importedModules pr01.main.body) (fun s=>xlAt q01 [] s) true s.abs))=some (true,openGood q01 []):=by kernel_rfl
theorem top01b(w:World)(os:OsState):(topQ pr01 w ((boot_heap w.params).nsMap mainGlobals "__annotations__") 4000 (boot0 w os)).map (fun s=>obsOf pr01 T01 as01 fs01 220 53 258 30 s.abs)=some ((true,somes tabL),fun _ _=>true):=by kernel_rfl
theorem left01:LeftO pr01 q01 [] (fun s=>xlAt q01 [] s) (obsOf pr01 T01 as01 fs01 220 53 258 30) (fun _=>((true,somes tabL),fun _ _=>true)) 4000:=left_top open01 rfl fence01 boot_is top01a top01b
theorem def01:(defOf q01 "law").map (fun x=>(x.1.name,some (x.1.params,x.1.body,x.1.scope),x.2,kwWritten? x.1.params.kwonlyargs x.1.params.kw_defaults))=some (("law":Str),pr01.theDef "law",([]:List (Str×PySem.Expr)),some ([]:List (Str×PySem.Expr))):=by kernel_rfl
theorem head01(call:∀d kwd,d.name=("law":Str)→WalkO q01 [] (XL q01 []) (SaysT pr01 T01 fs01 220 53 258 30 tabL) PySem.Challenge.rw_nu0277_01.row.toRowW d kwd fun f vs=>PySem.call f vs):PySem.Challenge.rw_nu0277_01.Holds:=by
 refine holds_law (by kernel_rfl) fun said=>?_
 obtain ⟨⟨d,kwd⟩,h1,h2⟩:=Option.map_eq_some_iff.mp def01
 simp only [Prod.mk.injEq] at h2
 obtain ⟨h2,h3,h4,h5⟩:=h2
 subst h4
 exact holds_open (r:=PySem.Challenge.rw_nu0277_01.row) (q:=q01) (loose:=[]) left01 (says_of (T:=T01)) says_keeps (fun s e=>xl_of s e) XL.keeps (d:=d) (kwd:=[]) h1 h3.symm h5 (fun s _=>recFacts_nil rfl) (by kernel_rfl) said (by kernel_rfl) ⟨rfl,rfl,rfl,rfl,rfl,by decide+kernel⟩ (by w_witness2) (call d [] h2)
theorem walk01(d:DefRec)(kwd:List (Str×PySem.Expr))(hn:d.name=("law":Str)):WalkO q01 [] (XL q01 []) (SaysT pr01 T01 fs01 220 53 258 30 tabL) PySem.Challenge.rw_nu0277_01.row.toRowW d kwd fun f vs=>PySem.call f vs:=by
 intro w s₀ s₁ mg mb G Y a o pm cd doc dV kV ho hd hcd hD hmg hg args vals as hpre hlay hrd hwl hlo
 have T:=G.T
 rw [hn] at hmg
 clear hD ho hd hcd
 wrow_args hpre hlay hrd hwl hlo
 rename_i ns _ _ _ _ _ _ _ sa vs _ _ _ wl _ hI _ hlen _
 have hsa:=well_plain wl (by assumption)
 refine wpAny_call (codeAny_mono (law_walk (T:=T01) Y hg T.g T.b T.builtins T.nolimit hsa hI (Nat.le_trans (by omega) (show 63≤sz by decide)) (name:="law") (by kernel_rfl) hmg (n:=3) ⟨rfl,Nat.le_of_ble_eq_true rfl,Nat.le_of_ble_eq_true rfl,_,rfl⟩ fun H Q osa h1 h2 q=>c_law (n:=0) h1 h2 q) fun r s' hr=>?_)
 obtain ⟨rfl,h1,h2,h3⟩:=hr
 refine GoodW.toG ⟨.inl ⟨.bool true,.bool true,[],rfl,raisesW_false (fun ct h=>by cases h),.bool true,postW_of rfl (by wtm_val) rfl,fun _=>⟨List.nodup_nil,fun a h=>by cases h⟩⟩,h3,h2,h1⟩
end Mine
theorem PySem.Challenge.cw_nu0277_01_holds : PySem.Challenge.rw_nu0277_01.Holds :=
 Mine.head01 Mine.walk01
end
