import PyProof.Rows.All
import Wide.All
import OpenK.AllK
import Wide.FinOn
import KE.KDictOf
import Lean
import PySem.Challenge.RW_nm0025_01
set_option Elab.async false
set_option linter.all false
namespace Mine
set_option bootstrap.genMatcherCode false
set_option genSizeOf false
set_option genInjectivity false
set_option tactic.hygienic false
set_option maxRecDepth 100000
open PySem PySem.W PySem.Calls PyProof.Rows PySem.Spec
theorem Pa{n m:Nat}(h:Nat.ble n m=true):n≤m:=Nat.le_of_ble_eq_true h
theorem Ub{p:Prop}[i:Decidable p](h:decide p=true):p:=of_decide_eq_true h
theorem Bb{c:Type _}{a b:c}(h:some a=some b):a=b:=Option.some.inj h
theorem Jd{c:Type _}{a b:c}(h:a∈[b]):a=b:=List.mem_singleton.mp h
theorem pg{c:Type _}{a b:c}{l:List c}(h:a∈b::l):a=b∨a∈l:=List.mem_cons.mp h
theorem Fc(h:false=true):False:=Bool.false_ne_true h
theorem sd{a b:Type _}{l:List a}(f:a->b):(l.map f).length=l.length:=List.length_map f
theorem bc{n m k:Nat}(h:n≤m)(q:m≤k):n≤k:=Nat.le_trans h q
theorem tf(n:Nat):n≤n:=Nat.le_refl n
theorem Mo{n m:Nat}(h:Nat.beq n m=false):¬n=m:=Nat.ne_of_beq_eq_false h
theorem pn(n k:Nat):n≤n+k:=Nat.le_add_right n k
theorem Ro{b:Type _}{l:List b}{i:Nat}{a:b}(h:l[i]?=some a):∃h:i<l.length,l[i]=a:=List.getElem?_eq_some_iff.mp h
theorem jr{b:Type _}{l:List b}{i:Nat}{a:b}(h:l[i]?=some a):a∈l:=List.mem_of_getElem? h
theorem vo(n:Nat):0≤(n:Int):=Int.natCast_nonneg n
theorem Cn:typeLookup (.type "zip") "__getattr__" = pure none:=by rw[typeLookup_type];kernel_rfl
theorem Yq:typeLookup (.type "zip") "keys" = pure none:=by rw[typeLookup_type];kernel_rfl
theorem Rj:entryFor table "zip.__getattribute__" = some Builtin.«object.__getattribute__»:=
 entryFor_alias (id':="object.__getattribute__") (by kernel_rfl) (by decide +kernel) (by decide +kernel) (by kernel_rfl)
theorem Dp(a:Addr)(xs:Array Value)(name:Str)(u:Tok)(e:typeLookup (.type "zip") name=pure none)(c:(["__module__","__name__","__qualname__","__doc__","__annotations__"]:List Str).contains name=false)(f:name.length+100≤sizeLine) : Meets (Builtin.«object.__getattribute__» ⟨[.ref a,.str name u],[]⟩) (fun A R s=>s.heap.get? a=some {cls:=.type "zip",dict:=none,data:=.fields xs,slots:=#[]}∧raisesAttr (.ref a) name A R s):=
 Meets.of_wp fun prog w A R s hs=>by
  obtain⟨i,g,b,tk,j⟩:=s;obtain⟨l,hs⟩:=hs;have o:(⟨i,g,b,tk,j⟩:Shared).TypeIs (.ref a) "zip":=⟨_,l,rfl⟩;have h:∀{m:Type}(x y:Sem m),(if(Value.type "zip" == Value.type "module")=true then x else y)=y:=fun n n=>if_neg (by decide +kernel);repeat(any_goals(first|assumption|rewrite[h]|wp_step))
  simp only[c,Bool.false_eq_true,if_false];repeat(any_goals(first|assumption|rewrite[h]|wp_step))
  exact wpAny_raiseAttrError hs.1 hs.2 (attrMsg_fits (by decide +kernel) f)
theorem PA{prog:Program}{w:World}{A:Around}{E:Value->Shared->Prop}{s:Shared}{a:Addr}{xs:Array Value}{Q:Option Value->Shared->Prop}(j:s.heap.get? a=some {cls:=.type "zip",dict:=none,data:=.fields xs,slots:=#[]})(m:A.handled=none)(h:∀h' tk,(∀b o,s.heap.get? b=some o->h'.get? b=some o)->Q none {s with heap:=h',toks:=tk}) : wpAny (model prog w) A (getAttr? (.ref a) "keys") Q E s:=by
 obtain⟨n,g,c,tk,p⟩:=s;have l:∀f,(⟨n,g,c,f,p⟩:Shared).TypeIs (.ref a) "zip":=fun q=>⟨_,j,rfl⟩;have t:=sub_AttributeError;have u:=F.slot_zip_getattribute.lookup;have v:=F.slot_zip_getattribute.bind (.ref a);have x:=Cn;unfold getAttr? getAttrBy? getAttrBy;repeat(any_goals(first|assumption|exact l _|((with_reducible show wpAny _ _ (call (Value.builtin "zip.__getattribute__") _ _) _ _ _);refine call_meets F.slot_zip_getattribute (l _) Rj (F.args_zip_getattribute_2 _ _) (Dp a xs "keys" _ Yq (by decide) (by size_fits)) ⟨j,m,fun h' f e i=>?_⟩)|wp_step))
 obtain⟨y,z,B⟩:=i.there;show wpAny _ _ (getattributeRaised _ _ _ _ _ _ _) _ _ _;unfold getattributeRaised;repeat(any_goals(first|assumption|wp_step))
 exact h _ _ i.keeps
@[elab_as_elim]theorem aa{c:Sort _}{a b:c}{P:c->Prop}(e:a=b)(h:P b):P a:=e▸h
@[elab_as_elim]theorem Cb{c:Sort _}{a b:c}{P:c->Prop}(e:b=a)(h:P b):P a:=e▸h
theorem uu{a b:Prop}(c:a)(e:b):a∧b:=⟨c,e⟩
theorem yc{a b c:Prop}(e:a)(f:b)(g:c):a∧b∧c:=⟨e,f,g⟩
theorem lg{a b c e:Prop}(f:a)(g:b)(h:c)(i:e):a∧b∧c∧e:=⟨f,g,h,i⟩
theorem vq{a b c e f:Prop}(g:a)(h:b)(i:c)(j:e)(l:f):a∧b∧c∧e∧f:=⟨g,h,i,j,l⟩
theorem xn{a b c e f g:Prop}(h:a)(i:b)(j:c)(l:e)(m:f)(n:g):a∧b∧c∧e∧f∧g:=⟨h,i,j,l,m,n⟩
theorem BI{a b c e f g h:Prop}(i:a)(j:b)(l:c)(m:e)(n:f)(o:g)(p:h):a∧b∧c∧e∧f∧g∧h:=⟨i,j,l,m,n,o,p⟩
theorem lK{a b c e f g h i:Prop}(j:a)(l:b)(m:c)(n:e)(o:f)(p:g)(q:h)(s:i):a∧b∧c∧e∧f∧g∧h∧i:=⟨j,l,m,n,o,p,q,s⟩
theorem NF{f g h i j l m n o p a b:Prop}(q:f)(s:g)(t:h)(u:i)(v:j)(w:l)(x:m)(y:n)(z:o)(A:p)(c:a)(e:b):f∧g∧h∧i∧j∧l∧m∧n∧o∧p∧a∧b:=⟨q,s,t,u,v,w,x,y,z,A,c,e⟩
theorem Ks{a:Sort _}{b:a->Prop}(x:a)(c:b x):∃x,b x:=⟨x,c⟩
theorem pb{a:Sort _}{b c:a->Prop}(x:a)(e:b x)(f:c x):∃x,b x∧c x:=⟨x,e,f⟩
theorem cc{a:Sort _}{b c e:a->Prop}(x:a)(f:b x)(g:c x)(h:e x):∃x,b x∧c x∧e x:=⟨x,f,g,h⟩
theorem Kj{a:Sort _}{b c e f:a->Prop}(x:a)(g:b x)(h:c x)(i:e x)(j:f x):∃x,b x∧c x∧e x∧f x:=⟨x,g,h,i,j⟩
theorem QI{a:Sort _}{b c e f g h:a->Prop}(x:a)(i:b x)(j:c x)(l:e x)(m:f x)(n:g x)(o:h x):∃x,b x∧c x∧e x∧f x∧g x∧h x:=⟨x,i,j,l,m,n,o⟩
theorem Aq{a:Sort _}{b:Sort _}{c:a->b->Prop}(x:a)(y:b)(e:c x y):∃x,∃y,c x y:=⟨x,y,e⟩
theorem ej{a:Sort _}{b:Sort _}{c e:a->b->Prop}(x:a)(y:b)(f:c x y)(g:e x y):∃x,∃y,c x y∧e x y:=⟨x,y,f,g⟩
theorem qf{a:Sort _}{b:Sort _}{c e f:a->b->Prop}(x:a)(y:b)(g:c x y)(h:e x y)(i:f x y):∃x,∃y,c x y∧e x y∧f x y:=⟨x,y,g,h,i⟩
theorem Af{a:Sort _}{b:Sort _}{c e f g:a->b->Prop}(x:a)(y:b)(h:c x y)(i:e x y)(j:f x y)(l:g x y):∃x,∃y,c x y∧e x y∧f x y∧g x y:=⟨x,y,h,i,j,l⟩
theorem Xv{a:Sort _}{b:Sort _}{c e f g h:a->b->Prop}(x:a)(y:b)(i:c x y)(j:e x y)(l:f x y)(m:g x y)(n:h x y):∃x,∃y,c x y∧e x y∧f x y∧g x y∧h x y:=⟨x,y,i,j,l,m,n⟩
theorem Il{a:Sort _}{b:Sort _}{c e f g h i:a->b->Prop}(x:a)(y:b)(j:c x y)(l:e x y)(m:f x y)(n:g x y)(o:h x y)(p:i x y):∃x,∃y,c x y∧e x y∧f x y∧g x y∧h x y∧i x y:=⟨x,y,j,l,m,n,o,p⟩
theorem eK{a:Sort _}{b:Sort _}{c:Sort _}{e:a->b->c->Prop}(x:a)(y:b)(z:c)(f:e x y z):∃x,∃y,∃z,e x y z:=⟨x,y,z,f⟩
theorem Gm{a:Sort _}{b:Sort _}{c:Sort _}{e f:a->b->c->Prop}(x:a)(y:b)(z:c)(g:e x y z)(h:f x y z):∃x,∃y,∃z,e x y z∧f x y z:=⟨x,y,z,g,h⟩
theorem zi{a:Sort _}{b:Sort _}{c:Sort _}{e f g:a->b->c->Prop}(x:a)(y:b)(z:c)(h:e x y z)(i:f x y z)(j:g x y z):∃x,∃y,∃z,e x y z∧f x y z∧g x y z:=⟨x,y,z,h,i,j⟩
theorem Jj{a:Sort _}{b:Sort _}{c:Sort _}{e f g h:a->b->c->Prop}(x:a)(y:b)(z:c)(i:e x y z)(j:f x y z)(l:g x y z)(m:h x y z):∃x,∃y,∃z,e x y z∧f x y z∧g x y z∧h x y z:=⟨x,y,z,i,j,l,m⟩
theorem Qw{a:Sort _}{b:Sort _}{c:Sort _}{e f g h i:a->b->c->Prop}(x:a)(y:b)(z:c)(j:e x y z)(l:f x y z)(m:g x y z)(n:h x y z)(o:i x y z):∃x,∃y,∃z,e x y z∧f x y z∧g x y z∧h x y z∧i x y z:=⟨x,y,z,j,l,m,n,o⟩
theorem uH{a:Sort _}{b:Sort _}{c:Sort _}{e f g h i j:a->b->c->Prop}(x:a)(y:b)(z:c)(l:e x y z)(m:f x y z)(n:g x y z)(o:h x y z)(p:i x y z)(q:j x y z):∃x,∃y,∃z,e x y z∧f x y z∧g x y z∧h x y z∧i x y z∧j x y z:=⟨x,y,z,l,m,n,o,p,q⟩
theorem bD{a:Sort _}{b:Sort _}{c:Sort _}{e f g h i j l:a->b->c->Prop}(x:a)(y:b)(z:c)(m:e x y z)(n:f x y z)(o:g x y z)(p:h x y z)(q:i x y z)(s:j x y z)(t:l x y z):∃x,∃y,∃z,e x y z∧f x y z∧g x y z∧h x y z∧i x y z∧j x y z∧l x y z:=⟨x,y,z,m,n,o,p,q,s,t⟩
theorem kK{a:Sort _}{b:Sort _}{c:Sort _}{e:Sort _}{f:a->b->c->e->Prop}(x:a)(y:b)(z:c)(u:e)(g:f x y z u):∃x,∃y,∃z,∃u,f x y z u:=⟨x,y,z,u,g⟩
theorem jH{a:Sort _}{b:Sort _}{c:Sort _}{e:Sort _}{f g h i:a->b->c->e->Prop}(x:a)(y:b)(z:c)(u:e)(j:f x y z u)(l:g x y z u)(m:h x y z u)(n:i x y z u):∃x,∃y,∃z,∃u,f x y z u∧g x y z u∧h x y z u∧i x y z u:=⟨x,y,z,u,j,l,m,n⟩
theorem xF{a:Sort _}{b:Sort _}{c:Sort _}{e:Sort _}{f g h i j:a->b->c->e->Prop}(x:a)(y:b)(z:c)(u:e)(l:f x y z u)(m:g x y z u)(n:h x y z u)(o:i x y z u)(p:j x y z u):∃x,∃y,∃z,∃u,f x y z u∧g x y z u∧h x y z u∧i x y z u∧j x y z u:=⟨x,y,z,u,l,m,n,o,p⟩
theorem nB{a:Sort _}{b:Sort _}{c:Sort _}{e:Sort _}{f g h i j l m n:a->b->c->e->Prop}(x:a)(y:b)(z:c)(u:e)(o:f x y z u)(p:g x y z u)(q:h x y z u)(s:i x y z u)(t:j x y z u)(v:l x y z u)(w:m x y z u)(A:n x y z u):∃x,∃y,∃z,∃u,f x y z u∧g x y z u∧h x y z u∧i x y z u∧j x y z u∧l x y z u∧m x y z u∧n x y z u:=⟨x,y,z,u,o,p,q,s,t,v,w,A⟩
theorem qz{a:Sort _}{b:Sort _}{c:Sort _}{e:Sort _}{f:Sort _}{g:a->b->c->e->f->Prop}(x:a)(y:b)(z:c)(u:e)(v:f)(h:g x y z u v):∃x,∃y,∃z,∃u,∃v,g x y z u v:=⟨x,y,z,u,v,h⟩
theorem wC{a:Sort _}{b:Sort _}{c:Sort _}{e:Sort _}{f:Sort _}{g h i j l m n:a->b->c->e->f->Prop}(x:a)(y:b)(z:c)(u:e)(v:f)(o:g x y z u v)(p:h x y z u v)(q:i x y z u v)(s:j x y z u v)(t:l x y z u v)(w:m x y z u v)(A:n x y z u v):∃x,∃y,∃z,∃u,∃v,g x y z u v∧h x y z u v∧i x y z u v∧j x y z u v∧l x y z u v∧m x y z u v∧n x y z u v:=⟨x,y,z,u,v,o,p,q,s,t,w,A⟩
theorem Qa{a b R:Prop}(f:a->b->R)(h:a∧b):R:=f h.1 h.2
theorem Nb{a b c R:Prop}(f:a->b->c->R)(h:a∧b∧c):R:=f h.1 h.2.1 h.2.2
theorem nf{a b c e R:Prop}(f:a->b->c->e->R)(h:a∧b∧c∧e):R:=f h.1 h.2.1 h.2.2.1 h.2.2.2
theorem Ut{a b c e g R:Prop}(f:a->b->c->e->g->R)(h:a∧b∧c∧e∧g):R:=f h.1 h.2.1 h.2.2.1 h.2.2.2.1 h.2.2.2.2
theorem Qq{a b c e g i R:Prop}(f:a->b->c->e->g->i->R)(h:a∧b∧c∧e∧g∧i):R:=f h.1 h.2.1 h.2.2.1 h.2.2.2.1 h.2.2.2.2.1 h.2.2.2.2.2
theorem XC{a b c e g i j R:Prop}(f:a->b->c->e->g->i->j->R)(h:a∧b∧c∧e∧g∧i∧j):R:=f h.1 h.2.1 h.2.2.1 h.2.2.2.1 h.2.2.2.2.1 h.2.2.2.2.2.1 h.2.2.2.2.2.2
theorem fI{a b c e g i j l m R:Prop}(f:a->b->c->e->g->i->j->l->m->R)(h:a∧b∧c∧e∧g∧i∧j∧l∧m):R:=f h.1 h.2.1 h.2.2.1 h.2.2.2.1 h.2.2.2.2.1 h.2.2.2.2.2.1 h.2.2.2.2.2.2.1 h.2.2.2.2.2.2.2.1 h.2.2.2.2.2.2.2.2
theorem Aa{b:Sort _}{a:b->Prop}{R:Prop}(f:∀x,a x->R)(h:∃x,a x):R:=h.elim fun x h=>f x h
theorem ya{c:Sort _}{a b:c->Prop}{R:Prop}(f:∀x,a x->b x->R)(h:∃x,a x∧b x):R:=h.elim fun x h=>f x h.1 h.2
theorem Pb{e:Sort _}{a b c:e->Prop}{R:Prop}(f:∀x,a x->b x->c x->R)(h:∃x,a x∧b x∧c x):R:=h.elim fun x h=>f x h.1 h.2.1 h.2.2
theorem eh{g:Sort _}{a b c e:g->Prop}{R:Prop}(f:∀x,a x->b x->c x->e x->R)(h:∃x,a x∧b x∧c x∧e x):R:=h.elim fun x h=>f x h.1 h.2.1 h.2.2.1 h.2.2.2
theorem zK{i:Sort _}{a b c e g:i->Prop}{R:Prop}(f:∀x,a x->b x->c x->e x->g x->R)(h:∃x,a x∧b x∧c x∧e x∧g x):R:=h.elim fun x h=>f x h.1 h.2.1 h.2.2.1 h.2.2.2.1 h.2.2.2.2
theorem nK{j:Sort _}{a b c e g i:j->Prop}{R:Prop}(f:∀x,a x->b x->c x->e x->g x->i x->R)(h:∃x,a x∧b x∧c x∧e x∧g x∧i x):R:=h.elim fun x h=>f x h.1 h.2.1 h.2.2.1 h.2.2.2.1 h.2.2.2.2.1 h.2.2.2.2.2
theorem Lk{b:Sort _}{c:Sort _}{a:b->c->Prop}{R:Prop}(f:∀x y,a x y->R)(h:∃x,∃y,a x y):R:=h.elim fun x h=>h.elim fun y h=>f x y h
theorem pd{c:Sort _}{e:Sort _}{a b:c->e->Prop}{R:Prop}(f:∀x y,a x y->b x y->R)(h:∃x,∃y,a x y∧b x y):R:=h.elim fun x h=>h.elim fun y h=>f x y h.1 h.2
theorem Cd{e:Sort _}{g:Sort _}{a b c:e->g->Prop}{R:Prop}(f:∀x y,a x y->b x y->c x y->R)(h:∃x,∃y,a x y∧b x y∧c x y):R:=h.elim fun x h=>h.elim fun y h=>f x y h.1 h.2.1 h.2.2
theorem Ig{g:Sort _}{i:Sort _}{a b c e:g->i->Prop}{R:Prop}(f:∀x y,a x y->b x y->c x y->e x y->R)(h:∃x,∃y,a x y∧b x y∧c x y∧e x y):R:=h.elim fun x h=>h.elim fun y h=>f x y h.1 h.2.1 h.2.2.1 h.2.2.2
theorem nE{i:Sort _}{j:Sort _}{a b c e g:i->j->Prop}{R:Prop}(f:∀x y,a x y->b x y->c x y->e x y->g x y->R)(h:∃x,∃y,a x y∧b x y∧c x y∧e x y∧g x y):R:=h.elim fun x h=>h.elim fun y h=>f x y h.1 h.2.1 h.2.2.1 h.2.2.2.1 h.2.2.2.2
theorem Po{j:Sort _}{l:Sort _}{a b c e g i:j->l->Prop}{R:Prop}(f:∀x y,a x y->b x y->c x y->e x y->g x y->i x y->R)(h:∃x,∃y,a x y∧b x y∧c x y∧e x y∧g x y∧i x y):R:=h.elim fun x h=>h.elim fun y h=>f x y h.1 h.2.1 h.2.2.1 h.2.2.2.1 h.2.2.2.2.1 h.2.2.2.2.2
theorem hJ{n:Sort _}{o:Sort _}{a b c e g i j l m:n->o->Prop}{R:Prop}(f:∀x y,a x y->b x y->c x y->e x y->g x y->i x y->j x y->l x y->m x y->R)(h:∃x,∃y,a x y∧b x y∧c x y∧e x y∧g x y∧i x y∧j x y∧l x y∧m x y):R:=h.elim fun x h=>h.elim fun y h=>f x y h.1 h.2.1 h.2.2.1 h.2.2.2.1 h.2.2.2.2.1 h.2.2.2.2.2.1 h.2.2.2.2.2.2.1 h.2.2.2.2.2.2.2.1 h.2.2.2.2.2.2.2.2
theorem CK{b:Sort _}{c:Sort _}{e:Sort _}{a:b->c->e->Prop}{R:Prop}(f:∀x y z,a x y z->R)(h:∃x,∃y,∃z,a x y z):R:=h.elim fun x h=>h.elim fun y h=>h.elim fun z h=>f x y z h
theorem qh{c:Sort _}{e:Sort _}{g:Sort _}{a b:c->e->g->Prop}{R:Prop}(f:∀x y z,a x y z->b x y z->R)(h:∃x,∃y,∃z,a x y z∧b x y z):R:=h.elim fun x h=>h.elim fun y h=>h.elim fun z h=>f x y z h.1 h.2
theorem ve{e:Sort _}{g:Sort _}{i:Sort _}{a b c:e->g->i->Prop}{R:Prop}(f:∀x y z,a x y z->b x y z->c x y z->R)(h:∃x,∃y,∃z,a x y z∧b x y z∧c x y z):R:=h.elim fun x h=>h.elim fun y h=>h.elim fun z h=>f x y z h.1 h.2.1 h.2.2
theorem Df{g:Sort _}{i:Sort _}{j:Sort _}{a b c e:g->i->j->Prop}{R:Prop}(f:∀x y z,a x y z->b x y z->c x y z->e x y z->R)(h:∃x,∃y,∃z,a x y z∧b x y z∧c x y z∧e x y z):R:=h.elim fun x h=>h.elim fun y h=>h.elim fun z h=>f x y z h.1 h.2.1 h.2.2.1 h.2.2.2
theorem Zq{i:Sort _}{j:Sort _}{l:Sort _}{a b c e g:i->j->l->Prop}{R:Prop}(f:∀x y z,a x y z->b x y z->c x y z->e x y z->g x y z->R)(h:∃x,∃y,∃z,a x y z∧b x y z∧c x y z∧e x y z∧g x y z):R:=h.elim fun x h=>h.elim fun y h=>h.elim fun z h=>f x y z h.1 h.2.1 h.2.2.1 h.2.2.2.1 h.2.2.2.2
theorem gJ{j:Sort _}{l:Sort _}{m:Sort _}{a b c e g i:j->l->m->Prop}{R:Prop}(f:∀x y z,a x y z->b x y z->c x y z->e x y z->g x y z->i x y z->R)(h:∃x,∃y,∃z,a x y z∧b x y z∧c x y z∧e x y z∧g x y z∧i x y z):R:=h.elim fun x h=>h.elim fun y h=>h.elim fun z h=>f x y z h.1 h.2.1 h.2.2.1 h.2.2.2.1 h.2.2.2.2.1 h.2.2.2.2.2
theorem GG{l:Sort _}{m:Sort _}{n:Sort _}{a b c e g i j:l->m->n->Prop}{R:Prop}(f:∀x y z,a x y z->b x y z->c x y z->e x y z->g x y z->i x y z->j x y z->R)(h:∃x,∃y,∃z,a x y z∧b x y z∧c x y z∧e x y z∧g x y z∧i x y z∧j x y z):R:=h.elim fun x h=>h.elim fun y h=>h.elim fun z h=>f x y z h.1 h.2.1 h.2.2.1 h.2.2.2.1 h.2.2.2.2.1 h.2.2.2.2.2.1 h.2.2.2.2.2.2
theorem sF{b:Sort _}{c:Sort _}{e:Sort _}{g:Sort _}{a:b->c->e->g->Prop}{R:Prop}(f:∀x y z u,a x y z u->R)(h:∃x,∃y,∃z,∃u,a x y z u):R:=h.elim fun x h=>h.elim fun y h=>h.elim fun z h=>h.elim fun u h=>f x y z u h
theorem NG{g:Sort _}{i:Sort _}{j:Sort _}{l:Sort _}{a b c e:g->i->j->l->Prop}{R:Prop}(f:∀x y z u,a x y z u->b x y z u->c x y z u->e x y z u->R)(h:∃x,∃y,∃z,∃u,a x y z u∧b x y z u∧c x y z u∧e x y z u):R:=h.elim fun x h=>h.elim fun y h=>h.elim fun z h=>h.elim fun u h=>f x y z u h.1 h.2.1 h.2.2.1 h.2.2.2
theorem XE{i:Sort _}{j:Sort _}{l:Sort _}{m:Sort _}{a b c e g:i->j->l->m->Prop}{R:Prop}(f:∀x y z u,a x y z u->b x y z u->c x y z u->e x y z u->g x y z u->R)(h:∃x,∃y,∃z,∃u,a x y z u∧b x y z u∧c x y z u∧e x y z u∧g x y z u):R:=h.elim fun x h=>h.elim fun y h=>h.elim fun z h=>h.elim fun u h=>f x y z u h.1 h.2.1 h.2.2.1 h.2.2.2.1 h.2.2.2.2
theorem tH{m:Sort _}{n:Sort _}{o:Sort _}{p:Sort _}{a b c e g i j l:m->n->o->p->Prop}{R:Prop}(f:∀x y z u,a x y z u->b x y z u->c x y z u->e x y z u->g x y z u->i x y z u->j x y z u->l x y z u->R)(h:∃x,∃y,∃z,∃u,a x y z u∧b x y z u∧c x y z u∧e x y z u∧g x y z u∧i x y z u∧j x y z u∧l x y z u):R:=h.elim fun x h=>h.elim fun y h=>h.elim fun z h=>h.elim fun u h=>f x y z u h.1 h.2.1 h.2.2.1 h.2.2.2.1 h.2.2.2.2.1 h.2.2.2.2.2.1 h.2.2.2.2.2.2.1 h.2.2.2.2.2.2.2
theorem vI{l:Sort _}{m:Sort _}{n:Sort _}{o:Sort _}{p:Sort _}{a b c e g i j:l->m->n->o->p->Prop}{R:Prop}(f:∀x y z u v,a x y z u v->b x y z u v->c x y z u v->e x y z u v->g x y z u v->i x y z u v->j x y z u v->R)(h:∃x,∃y,∃z,∃u,∃v,a x y z u v∧b x y z u v∧c x y z u v∧e x y z u v∧g x y z u v∧i x y z u v∧j x y z u v):R:=h.elim fun x h=>h.elim fun y h=>h.elim fun z h=>h.elim fun u h=>h.elim fun v h=>f x y z u v h.1 h.2.1 h.2.2.1 h.2.2.2.1 h.2.2.2.2.1 h.2.2.2.2.2.1 h.2.2.2.2.2.2
theorem DJ{b:Sort _}{c:Sort _}{e:Sort _}{g:Sort _}{i:Sort _}{j:Sort _}{a:b->c->e->g->i->j->Prop}{R:Prop}(f:∀x y z u v w,a x y z u v w->R)(h:∃x,∃y,∃z,∃u,∃v,∃w,a x y z u v w):R:=h.elim fun x h=>h.elim fun y h=>h.elim fun z h=>h.elim fun u h=>h.elim fun v h=>h.elim fun w h=>f x y z u v w h
theorem tK{m:Sort _}{n:Sort _}{o:Sort _}{p:Sort _}{q:Sort _}{s:Sort _}{a b c e g i j l:m->n->o->p->q->s->Prop}{R:Prop}(f:∀x y z u v w,a x y z u v w->b x y z u v w->c x y z u v w->e x y z u v w->g x y z u v w->i x y z u v w->j x y z u v w->l x y z u v w->R)(h:∃x,∃y,∃z,∃u,∃v,∃w,a x y z u v w∧b x y z u v w∧c x y z u v w∧e x y z u v w∧g x y z u v w∧i x y z u v w∧j x y z u v w∧l x y z u v w):R:=h.elim fun x h=>h.elim fun y h=>h.elim fun z h=>h.elim fun u h=>h.elim fun v h=>h.elim fun w h=>f x y z u v w h.1 h.2.1 h.2.2.1 h.2.2.2.1 h.2.2.2.2.1 h.2.2.2.2.2.1 h.2.2.2.2.2.2.1 h.2.2.2.2.2.2.2
noncomputable def Wd:Type:=Fin 25
 deriving DecidableEq
noncomputable def Wd.r:Wd:=⟨0,Pa rfl⟩
noncomputable def Wd.k:Wd:=⟨1,Pa rfl⟩
noncomputable def Wd.slot:Wd:=⟨2,Pa rfl⟩
noncomputable def Wd.load:Wd:=⟨3,Pa rfl⟩
noncomputable def Wd.call:Wd:=⟨4,Pa rfl⟩
noncomputable def Wd.ig:Wd:=⟨5,Pa rfl⟩
noncomputable def Wd.de:Wd:=⟨6,Pa rfl⟩
noncomputable def Wd.yl:Wd:=⟨7,Pa rfl⟩
noncomputable def Wd.lj:Wd:=⟨8,Pa rfl⟩
noncomputable def Wd.Bk:Wd:=⟨9,Pa rfl⟩
noncomputable def Wd.name:Wd:=⟨10,Pa rfl⟩
noncomputable def Wd.Ib:Wd:=⟨11,Pa rfl⟩
noncomputable def Wd.branch:Wd:=⟨12,Pa rfl⟩
noncomputable def Wd.table:Wd:=⟨13,Pa rfl⟩
noncomputable def Wd.ic:Wd:=⟨14,Pa rfl⟩
noncomputable def Wd.add:Wd:=⟨15,Pa rfl⟩
noncomputable def Wd.sub:Wd:=⟨16,Pa rfl⟩
noncomputable def Wd.Oy:Wd:=⟨17,Pa rfl⟩
noncomputable def Wd.mul:Wd:=⟨18,Pa rfl⟩
noncomputable def Wd.eq:Wd:=⟨19,Pa rfl⟩
noncomputable def Wd.and:Wd:=⟨20,Pa rfl⟩
noncomputable def Wd.Yh:Wd:=⟨21,Pa rfl⟩
noncomputable def Wd.f:Wd:=⟨22,Pa rfl⟩
noncomputable def Wd.g:Wd:=⟨23,Pa rfl⟩
noncomputable def Wd.Xf:Wd:=⟨24,Pa rfl⟩
noncomputable def Wd.CC:List Str:=["r","k","slot","load","call","callreg","store","move","copy","const","name","jump","branch","table","give","add","sub","xor","mul","eq","and","see","f","g"," block "]
noncomputable def Wd.str(w:Wd):Str:=Wd.CC.getD w.val ""
set_option genCtorIdx false in
inductive V where
 |none|bool (b:Bool)|int (i:Int)|wd (w:Wd)|gn (n:Nat)|Ba (l:List V)|fl (l:List V)|ref (a:Addr)
noncomputable def V.ctorIdx(x:V):Nat:=V.casesOn (motive_1:=fun a=>Nat) x 0 (fun a=>1) (fun a=>2) (fun a=>3) (fun a=>4) (fun a=>5) (fun a=>6) (fun a=>7)
noncomputable def Cl:Type:=Fin 3
noncomputable def Cl.step:Cl:=⟨0,Pa rfl⟩
noncomputable def Cl.td:Cl:=⟨1,Pa rfl⟩
noncomputable def Cl.func:Cl:=⟨2,Pa rfl⟩
noncomputable def At:Type:=Fin 16
 deriving DecidableEq
noncomputable def At.op:At:=⟨0,Pa rfl⟩
noncomputable def At.nc:At:=⟨1,Pa rfl⟩
noncomputable def At.args:At:=⟨2,Pa rfl⟩
noncomputable def At.more:At:=⟨3,Pa rfl⟩
noncomputable def At.Tb:At:=⟨4,Pa rfl⟩
noncomputable def At.line:At:=⟨5,Pa rfl⟩
noncomputable def At.Yc:At:=⟨6,Pa rfl⟩
noncomputable def At.uc:At:=⟨7,Pa rfl⟩
noncomputable def At.We:At:=⟨8,Pa rfl⟩
noncomputable def At.name:At:=⟨9,Pa rfl⟩
noncomputable def At.params:At:=⟨10,Pa rfl⟩
noncomputable def At.Xk:At:=⟨11,Pa rfl⟩
noncomputable def At.slots:At:=⟨12,Pa rfl⟩
noncomputable def At.Ae:At:=⟨13,Pa rfl⟩
noncomputable def At.ie:At:=⟨14,Pa rfl⟩
noncomputable def At.Xg:At:=⟨15,Pa rfl⟩
noncomputable def At.CC:List Str:=["op","dst","args","more","is_volatile","line","number","steps","end","name","params","is_static","slots","blocks","registers","has_value"]
noncomputable def At.str(w:At):Str:=At.CC.getD w.val ""
set_option genCtorIdx false in
inductive MO where
 |list (l:List V)
 |dict (kvs:List (Int×V))
 |set (l:List Nat) (mask:Nat)
 |ib (c:Cl) (fs:List (At×V))
noncomputable def MO.ctorIdx(x:MO):Nat:=MO.casesOn (motive:=fun a=>Nat) x (fun a=>0) (fun a=>1) (fun a a=>2) (fun a a=>3)
set_option genCtorIdx false in
inductive Lp where
 |fz (isL:Bool) (vs:List Value)
 |mo (m:MO) (dx:Addr)
 |mi (x:Addr)
 |cell (v:Option Value)
 |Kb (o:Obj)
noncomputable def Lp.ctorIdx(x:Lp):Nat:=Lp.casesOn (motive:=fun a=>Nat) x (fun a a=>0) (fun a a=>1) (fun a=>2) (fun a=>3) (fun a=>4)
noncomputable def Lp.Vp:Lp->Bool
 | .fz ..| .mi _| .Kb _=>true
 |_=>false
abbrev Tm:=Addr->Option Lp
abbrev Mem:=Addr->Option MO
noncomputable def Ga{c:Type}(f:Addr->c)(a:Addr)(b:c):Addr->c:=fun x=>if x=a then b else f x
@[simp]theorem da{c:Type}(f:Addr->c)(a:Addr)(b:c):Ga f a b a=b:=by simp[Ga]
theorem qa{c:Type}(f:Addr->c){a x:Addr}(b:c)(h:x≠a):Ga f a b x=f x:=by simp[Ga,h]
mutual
noncomputable def VR(T:Tm):V->Value->Prop
 | .none,v=>v=.none
 | .bool b,v=>v=.bool b
 | .int i,v=>∃t,v=.int i t
 | .wd s,v=>∃t,v=.str s.str t
 | .gn n,v=>∃s t,v=.str s t∧s.length≤n
 | .Ba l,v=>∃a vs,v=.ref a∧T a=some (.fz false vs)∧Se T l vs
 | .fl l,v=>∃a vs,v=.ref a∧T a=some (.fz true vs)∧Se T l vs
 | .ref a,v=>v=.ref a
noncomputable def Se(T:Tm):List V->List Value->Prop
 | [],vs=>vs=[]
 |x::xs,vs=>∃v a,vs=v::a∧VR T x v∧Se T xs a
end
noncomputable def Vd(T T':Tm):Prop:=∀b e,e.Vp=true->T b=some e->T' b=some e
theorem Vd.refl(T:Tm):Vd T T:=fun a a a h=>h
theorem Vd.trans{T T' a:Tm}(x:Vd T T')(y:Vd T' a):Vd T a:=fun b e s h=>y b e s (x b e s h)
noncomputable def Lp.UL:Lp->Bool
 | .fz ..| .mi _=>true
 |_=>false
noncomputable def jl(T T':Tm):Prop:=∀b e,e.UL=true->T b=some e->T' b=some e
theorem jl.refl(T:Tm):jl T T:=fun a a a h=>h
theorem jl.trans{T T' a:Tm}(x:jl T T')(y:jl T' a):jl T a:=fun b e s h=>y b e s (x b e s h)
theorem Vd.f{T T':Tm}(x:Vd T T'):jl T T':=fun b e s h=>x b e (by induction e<;>first|rfl|cases s) h
mutual
theorem VR.ae{T T':Tm}(x:jl T T'):∀{V:V}{v:Value},VR T V v->VR T' V v
 | .none,_,h=>h
 | .bool _,_,h=>h
 | .int _,_,h=>h
 | .wd _,_,h=>h
 | .gn _,_,h=>h
 | .ref _,_,h=>h
 | .Ba l,v,h=>by obtain⟨a,vs,e,t,r⟩:=h;exact⟨a,vs,e,x _ _ rfl t,Se.ae x r⟩
 | .fl l,v,h=>by obtain⟨a,vs,e,t,r⟩:=h;exact⟨a,vs,e,x _ _ rfl t,Se.ae x r⟩
theorem Se.ae{T T':Tm}(x:jl T T'):∀{l:List V}{vs:List Value},Se T l vs->Se T' l vs
 | [],_,h=>by exact h
 |_::_,_,h=>by obtain⟨v,a,e,b,c⟩:=h;exact⟨v,a,e,VR.ae x b,Se.ae x c⟩
end
theorem VR.za{T T':Tm}(x:Vd T T'){V:V}{v:Value}(h:VR T V v):VR T' V v:=h.ae x.f
theorem Se.za{T T':Tm}(x:Vd T T'){l:List V}{vs:List Value}(h:Se T l vs):Se T' l vs:=h.ae x.f
theorem Se.nil{T:Tm}:Se T [] []:=by exact rfl
theorem Se.cons{T:Tm}{x:V}{v:Value}{xs:List V}{vs:List Value}(h:VR T x v)(r:Se T xs vs):Se T (x::xs) (v::vs):=by exact⟨v,vs,rfl,h,r⟩
theorem Se.length{T:Tm}:∀{l:List V}{vs:List Value},Se T l vs->vs.length=l.length:=by
 intro a;induction a with
 |nil=>intro b h;replace h:_=_:=h;subst h;rfl
 |cons c e f=>intro b h;obtain⟨v,g,rfl,_,r⟩:=h;simp[f r]
theorem Se.append{T:Tm}:∀{l m:List V}{vs f:List Value},Se T l vs->Se T m f->Se T (l++m) (vs++f):=by
 intro a;induction a with
 |nil=>intro b c e h k;replace h:_=_:=h;subst h;exact k
 |cons g i j=>intro b c e h k;obtain⟨v,n,rfl,o,r⟩:=h;exact .cons o (j r k)
theorem Se.Pn{T:Tm}:∀{l:List V}{vs:List Value}{i:Nat}{x:V},Se T l vs->l[i]?=some x->∃v,vs[i]?=some v∧VR T x v:=by
 intro f;induction f with
 |nil=>intro g c x h j;simp at j
 |cons y p o=>
  intro g c x h e;rcases c with _|i
  ·skip;obtain⟨v,m,rfl,n,r⟩:=h;simp at e;subst e;exact⟨v,rfl,n⟩
  ·skip;obtain⟨v,m,rfl,n,r⟩:=h;simp at e;obtain⟨u,a,b⟩:=o r e;exact⟨u,by exact a,b⟩
theorem Se.set{T:Tm}:∀{l:List V}{vs:List Value}(i:Nat){x:V}{v:Value},Se T l vs->VR T x v->Se T (l.set i x) (vs.set i v):=by
 intro b;induction b with
 |nil=>intro c a x v h k;replace h:_=_:=h;subst h;simpa using Se.nil
 |cons y j g=>
  intro c a x v h k;rcases a with _|i
  ·skip;obtain⟨v,e,rfl,f,r⟩:=h;exact .cons k r
  ·skip;obtain⟨v,e,rfl,f,r⟩:=h;exact .cons f (g i r k)
theorem Se.take{T:Tm}:∀{l:List V}{vs:List Value}(i:Nat),Se T l vs->Se T (l.take i) (vs.take i):=by
 intro b;induction b with
 |nil=>
  intro c a h;rcases a with _|e
  ·exact Se.nil
  ·replace h:_=_:=h;subst h;simpa using Se.nil
 |cons y m f=>
  intro c a h;rcases a with _|i
  ·exact Se.nil
  ·skip;obtain⟨v,g,rfl,j,r⟩:=h;exact .cons j (f i r)
theorem Se.drop{T:Tm}:∀{l:List V}{vs:List Value}(i:Nat),Se T l vs->Se T (l.drop i) (vs.drop i):=by
 intro b;induction b with
 |nil=>
  intro c a h;rcases a with _|e
  ·exact h
  ·replace h:_=_:=h;subst h;simpa using Se.nil
 |cons y j f=>
  intro c a h;rcases a with _|i
  ·exact h
  ·skip;obtain⟨v,g,rfl,m,r⟩:=h;exact f i r
noncomputable def Oo(T:Tm):List (Int×V)->List (Int×Value)->Prop
 | [],vs=>vs=[]
 |x::xs,vs=>∃v a,vs=(x.1,v)::a∧VR T x.2 v∧Oo T xs a
theorem Oo.za{T T':Tm}(x:jl T T'):∀{l:List (Int×V)}{vs:List (Int×Value)},Oo T l vs->Oo T' l vs:=by
 intro a;induction a with
 |nil=>intro b h;exact h
 |cons f g i=>intro b h;obtain⟨v,c,e,j,m⟩:=h;exact⟨v,c,e,VR.ae x j,i m⟩
noncomputable def Nz(T:Tm)(w:World):List (At×V)->List DictEntry->Prop
 | [],es=>es=[]
 |x::xs,es=>∃v t a,es=⟨PyData.keyHash w.params x.1.str,.str x.1.str t,v⟩::a∧VR T x.2 v∧Nz T w xs a
theorem Nz.za{T T':Tm}{w:World}(x:jl T T'):∀{l:List (At×V)}{vs:List DictEntry},Nz T w l vs->Nz T' w l vs:=by
 intro a;induction a with
 |nil=>intro b h;exact h
 |cons f g i=>intro b h;obtain⟨v,t,c,e,j,m⟩:=h;exact⟨v,t,c,e,VR.ae x j,i m⟩
noncomputable def Fn:Type:=Fin 39
noncomputable def Fn.uj:Fn:=⟨0,Pa rfl⟩
noncomputable def Fn.Sj:Fn:=⟨1,Pa rfl⟩
noncomputable def Fn.Qk:Fn:=⟨2,Pa rfl⟩
noncomputable def Fn.xj:Fn:=⟨3,Pa rfl⟩
noncomputable def Fn.ze:Fn:=⟨4,Pa rfl⟩
noncomputable def Fn.Ii:Fn:=⟨5,Pa rfl⟩
noncomputable def Fn.ji:Fn:=⟨6,Pa rfl⟩
noncomputable def Fn.Lj:Fn:=⟨7,Pa rfl⟩
noncomputable def Fn.Dj:Fn:=⟨8,Pa rfl⟩
noncomputable def Fn.Fi:Fn:=⟨9,Pa rfl⟩
noncomputable def Fn.sj:Fn:=⟨10,Pa rfl⟩
noncomputable def Fn.Pj:Fn:=⟨11,Pa rfl⟩
noncomputable def Fn.Dg:Fn:=⟨12,Pa rfl⟩
noncomputable def Fn.xm:Fn:=⟨13,Pa rfl⟩
noncomputable def Fn.di:Fn:=⟨14,Pa rfl⟩
noncomputable def Fn.Mi:Fn:=⟨15,Pa rfl⟩
noncomputable def Fn.Ij:Fn:=⟨16,Pa rfl⟩
noncomputable def Fn.oh:Fn:=⟨17,Pa rfl⟩
noncomputable def Fn.Yk:Fn:=⟨18,Pa rfl⟩
noncomputable def Fn.Ck:Fn:=⟨19,Pa rfl⟩
noncomputable def Fn.Ui:Fn:=⟨20,Pa rfl⟩
noncomputable def Fn.Gj:Fn:=⟨21,Pa rfl⟩
noncomputable def Fn.el:Fn:=⟨22,Pa rfl⟩
noncomputable def Fn.oi:Fn:=⟨23,Pa rfl⟩
noncomputable def Fn.Xc:Fn:=⟨24,Pa rfl⟩
noncomputable def Fn.Vh:Fn:=⟨25,Pa rfl⟩
noncomputable def Fn.nj:Fn:=⟨26,Pa rfl⟩
noncomputable def Fn.si:Fn:=⟨27,Pa rfl⟩
noncomputable def Fn.Cf:Fn:=⟨28,Pa rfl⟩
noncomputable def Fn.vh:Fn:=⟨29,Pa rfl⟩
noncomputable def Fn.qm:Fn:=⟨30,Pa rfl⟩
noncomputable def Fn.Cm:Fn:=⟨31,Pa rfl⟩
noncomputable def Fn.Fe:Fn:=⟨32,Pa rfl⟩
noncomputable def Fn.zf:Fn:=⟨33,Pa rfl⟩
noncomputable def Fn.fh:Fn:=⟨34,Pa rfl⟩
noncomputable def Fn.gg:Fn:=⟨35,Pa rfl⟩
noncomputable def Fn.ui:Fn:=⟨36,Pa rfl⟩
noncomputable def Fn.pj:Fn:=⟨37,Pa rfl⟩
noncomputable def Fn.RD:Fn:=⟨38,Pa rfl⟩
structure Og where
 prog:Program
 w:World
 K:Frag
 wg:Shared
 cl:Cl->Addr
 fn:Fn->Addr
noncomputable def Rg:List Nat->List (Int×Value)->Prop
 | [],es=>es=[]
 |i::l,es=>∃t a,es=((i:Int),.int i t)::a∧Rg l a
structure xf(l:List Nat)(mask:Nat)(es:Array (Int×Value))(t:SetTable):Prop where
 es:Rg l es.toList
 Jo:t.mask=mask
 place:t.place=l.toArray
 dummies:t.dummies=#[]
 finger:t.finger=0
 yh:l.Pairwise (·<·)
 small:∀i∈l,i≤mask
 Ac:mask<2^20
 Pd:l.length≤mask
 zG:l.length<4000
noncomputable def Kg(G:Og)(T:Tm)(h:Heap)(a:Addr):Lp->Prop
 | .fz b vs=>∃n,h.get? a=some {cls:=.type (if b then "list" else "tuple"),data:=.seq vs.toArray n}
 | .mo (.list l) _=>∃vs n,h.get? a=some {cls:=.type "list",data:=.seq vs.toArray n}∧Se T l vs
 | .mo (.dict kvs) _=>∃cvs,h.DictOf (intKind G.prog G.w) a cvs∧Oo T kvs cvs
 | .mo (.set l m) _=>∃es f t,h.get? a=some {cls:=.type "set",data:=.set es f t}∧xf l m es t
 | .mo (.ib c g) e=>h.get? a=some (instObj (G.cl c) e)∧T e=some (.mi a)∧∃es n,h.get? e=some (dictOf es n)∧Nz T G.w g es
 | .mi _=>∃o,h.get? a=some o
 | .cell v=>h.IsCell a v
 | .Kb o=>h.get? a=some o
theorem Gz{G:Og}{h h':Heap}{a:Addr}{cvs:List (Int×Value)}(x:h.DictOf (intKind G.prog G.w) a cvs)(k:∀o,h.get? a=some o->h'.get? a=some o) : h'.DictOf (intKind G.prog G.w) a cvs:=qh (fun o es b c r=>(Gm o es b (k o c) r)) x
theorem Kg.za{G:Og}{T T':Tm}{h h':Heap}{a:Addr}{e:Lp}(x:Kg G T h a e)(p:jl T T')(g:∀o,h.get? a=some o->h'.get? a=some o)(s:∀m i,e=.mo m i->T i=some (.mi a)->∀o,h.get? i=some o->h'.get? i=some o):Kg G T' h' a e:=by
 induction e with
 |fz b vs=>(refine Aa (fun n f=>?_) x;clear x);exact⟨n,g _ f⟩
 |mi y=>(refine Aa (fun o f=>?_) x;clear x);exact⟨o,g o f⟩
 |cell v=>(refine ya (fun o f q=>?_) x;clear x);exact(pb o (g _ f) q)
 |Kb o=>exact g _ x
 |mo m i=>
  induction m with
  |list l=>(refine pd (fun vs n f r=>?_) x;clear x);exact(ej vs n (g _ f) (r.ae p))
  |dict kvs=>(refine ya (fun cvs f r=>?_) x;clear x);exact(pb cvs (Gz f g) (r.za p))
  |set l m=>(refine qh (fun es u t f r=>?_) x;clear x);exact(Gm es u t (g _ f) r)
  |ib c z=>(refine Nb (fun f q j=>?_) x;clear x;refine pd (fun es n w r=>?_) j;clear j);exact(yc (g _ f) (p _ _ rfl q) (ej es n (s _ _ rfl q _ w) (r.za p)))
theorem Kg.lt{G:Og}{T:Tm}{h:Heap}{a:Addr}{e:Lp}(x:Kg G T h a e):a<h.objs.size:=by
 induction e with
 |fz b vs=>(refine Aa (fun n f=>?_) x;clear x);exact Heap.lt_size f
 |mi y=>(refine Aa (fun o f=>?_) x;clear x);exact Heap.lt_size f
 |cell v=>(refine ya (fun o f p=>?_) x;clear x);exact Heap.lt_size f
 |Kb o=>exact Heap.lt_size x
 |mo m q=>
  induction m with
  |list l=>(refine pd (fun vs n f r=>?_) x;clear x);exact Heap.lt_size f
  |dict kvs=>(refine ya (fun cvs g r=>?_) x;clear x;refine qh (fun o es i f j=>?_) g;clear g);exact Heap.lt_size f
  |set l m=>(refine qh (fun es i t f r=>?_) x;clear x);exact Heap.lt_size f
  |ib c s=>(refine Qa (fun f j=>?_) x;clear x);exact Heap.lt_size f
noncomputable def Lp.AJ:Lp->Bool
 | .fz ..=>true
 |_=>false
structure Ed(G:Og)(T:Tm)(U:Mem)(s:Shared):Prop where
 wi:∀b o,G.wg.heap.get? b=some o->s.heap.get? b=some o
 Vc:∃h tk,s={G.wg with heap:=h,toks:=tk}
 gc:∀a e,T a=some e->(e.AJ=false->G.wg.heap.objs.size≤a)∧a<s.heap.objs.size∧Kg G T s.heap a e
 mem:∀a m,U a=some m->∃dx,T a=some (.mo m dx)
theorem Ed.toks{G:Og}{T:Tm}{U:Mem}{s:Shared}(R:Ed G T U s)(tk:Nat):Ed G T U {s with toks:=tk}:=by refine Lk (fun h t e=>?_) R.Vc;exact⟨R.wi,(Aq s.heap tk (by exact aa e rfl)),R.gc,R.mem⟩
theorem Ed.Ya{G:Og}{T:Tm}{U:Mem}{s:Shared}(R:Ed G T U s){a:Addr}(h:s.heap.objs.size≤a):T a=none:=by
 induction e:T a with
 |none=>rfl
 |some x=>exact absurd (R.gc a x e).2.1 (Nat.not_lt.mpr h)
theorem Ed.keep{G:Og}{T:Tm}{U:Mem}{s:Shared}(R:Ed G T U s){h':Heap}{tk:Nat}(k:∀b o,s.heap.get? b=some o->h'.get? b=some o):Ed G T U {s with heap:=h',toks:=tk}:=by
 refine Lk (fun h t e=>?_) R.Vc;refine⟨fun b o hb=>k b o (R.wi b o hb),(Aq h' tk (by exact aa e rfl)),fun a e f=>?_,R.mem⟩;refine Nb (fun g l i=>?_)<|R.gc a e f
 have:=i.za (h':=h') (jl.refl T) (fun o=>k a o) fun c j c c o=>k j o;exact(yc g this.lt this)
theorem Ed.step{G:Og}{T T':Tm}{U U':Mem}{s:Shared}(R:Ed G T U s){h':Heap}{tk:Nat}(f:Addr)(l:G.wg.heap.objs.size≤f)(n:jl T T')(g:s.heap.objs.size≤h'.objs.size)(c:∀b o,b≠f->s.heap.get? b=some o->h'.get? b=some o)(old:∀a e,T' a=some e->(T a=some e∧a≠f∧T f≠some (.mi a))∨((e.AJ=false->G.wg.heap.objs.size≤a)∧a<h'.objs.size∧Kg G T' h' a e))(p:∀a m,U' a=some m->∃i,T' a=some (.mo m i)):Ed G T' U' {s with heap:=h',toks:=tk}:=by
 refine Lk (fun h t e=>?_) R.Vc;refine⟨fun b o hb=>c b o (fun q=>?_) (R.wi b o hb),(Aq h' tk (by exact aa e rfl)),fun a e u=>?_,p⟩
 ·exact absurd (Heap.lt_size hb) (Nat.not_lt.mpr (q▸l))
 ·rcases old a e u with⟨j,v,w⟩|j
  ·refine Nb (fun x y z=>?_)<|R.gc a e j
   exact(yc x (Nat.lt_of_lt_of_le y g) (z.za n (fun o=>c a o v) fun m i B A o=>c i o fun q=>w (q▸A)))
  ·exact j
theorem Ed.push{G:Og}{T:Tm}{U:Mem}{s:Shared}(R:Ed G T U s){tk:Nat}(o:Obj)(e:Lp)(h:G.wg.heap.objs.size≤s.heap.objs.size)
 (j:Kg G (Ga T s.heap.objs.size (some e)) (s.heap.push o) s.heap.objs.size e) (n:∀x,e≠.mi x):
 Ed G (Ga T s.heap.objs.size (some e)) (match e with| .mo m _=>Ga U s.heap.objs.size (some m)|_=>U) {s with heap:=s.heap.push o,toks:=tk}∧Vd T (Ga T s.heap.objs.size (some e)):=by
 have i:Vd T (Ga T s.heap.objs.size (some e)):=fun b x hs hb=>by refine aa (qa _ _ (fun q=>by rw[q,(R.Ya (tf s.heap.objs.size))]at hb;exact nomatch hb)) ?_;exact hb
 refine⟨R.step s.heap.objs.size h i.f (by simp) (fun b p l hb=>Heap.get?_push_of_some _ hb) (fun a t c=>?_) fun a m c=>?_,i⟩
 ·by_cases q:a=s.heap.objs.size
  ·subst q;rw[da]at c;refine Cb (Bb c) ?_;exact .inr (yc (fun l=>h) (by simp) j)
  ·rw[qa _ _ q]at c;exact .inl (yc c q (fun z=>by rw[(R.Ya (tf s.heap.objs.size))]at z;exact nomatch z))
 ·have old:∀a m,U a=some m->∃f,Ga T s.heap.objs.size (some e) a=some (.mo m f):=fun a m c=>by
   refine Aa (fun f g=>?_)<|R.mem a m c
   exact⟨f,by refine aa (qa _ _ (fun q=>by rw[q,(R.Ya (tf s.heap.objs.size))]at g;exact nomatch g)) ?_;exact g⟩
  cases e with
  |mo m' f=>
   dsimp only at c;by_cases q:a=s.heap.objs.size
   ·subst q;rw[da]at c;refine Cb (Bb c) ?_;exact⟨f,da ..⟩
   ·rw[qa _ _ q]at c;exact old a m c
  |_=>exact old a m c
theorem Ed.Ak{G:Og}{T:Tm}{U:Mem}{s:Shared}(R:Ed G T U s){h':Heap}{tk:Nat}(a:Addr)(e:Lp)(c:Option Lp)(i:T a=some e)(hs:e.Vp=false)(f:∀b o,b≠a->s.heap.get? b=some o->h'.get? b=some o)(g:s.heap.objs.size≤h'.objs.size){U':Mem}(n:∀b m,U' b=some m->∃p,Ga T a c b=some (.mo m p))(t:∀x,c=some x->Kg G (Ga T a c) h' a x):Ed G (Ga T a c) U' {s with heap:=h',toks:=tk}∧Vd T (Ga T a c):=by
 refine Nb (fun h u v=>?_)<|R.gc a e i
 have j:Vd T (Ga T a c):=fun b x l hb=>by refine aa (qa _ _ (fun q=>by rw[q,i]at hb;(replace hb:=Bb hb;subst hb);rw[hs]at l;injection l)) ?_;exact hb
 have h:=h (by induction e<;>first|rfl|injection hs);refine⟨R.step a h j.f g f (fun b x hb=>?_) n,j⟩;by_cases q:b=a
 ·subst q;rw[da]at hb;exact .inr (yc (fun v=>h) (Nat.lt_of_lt_of_le u g) (t x hb))
 ·rw[qa _ _ q]at hb;exact .inl (yc hb q (fun z=>by rw[i]at z;(replace z:=Bb z;subst z);injection hs))
abbrev zc:=Nat->Option V
noncomputable def Ke(l:zc)(i:Nat):Option V:=l i
noncomputable def Ca(l:zc)(i:Nat)(v:V):zc:=fun j=>cond (Nat.beq j i) (some v) (l j)
theorem Qf(l:zc)(i j:Nat)(v:V):Ke (Ca l i v) j=if j=i then some v else Ke l j:=by
 refine(?_:cond (Nat.beq j i) (some v) (l j)=if j=i then some v else l j);induction e:Nat.beq j i with
 |true=>refine aa (if_pos (Nat.eq_of_beq_eq_true e)) ?_;rfl
 |false=>refine aa (if_neg (fun h=>by rw[h]at e;exact absurd (Nat.beq_refl i) (by rw[e];decide))) ?_;rfl
noncomputable def Sq:List (At×V)->At->Option V
 | [],_=>Option.none
 |(j,v)::r,i=>if j=i then some v else Sq r i
noncomputable def So:List (At×V)->At->V->List (At×V)
 | [],i,v=>[(i,v)]
 |(j,w)::r,i,v=>if j=i then(j,v)::r else(j,w)::So r i v
noncomputable def Bd:List (Int×V)->Int->Option V
 | [],_=>Option.none
 |(j,v)::r,i=>if j=i then some v else Bd r i
noncomputable def Ue(kvs:List (Int×V))(i:Int)(v:V):List (Int×V):=if kvs.any (fun p=>decide (p.1=i))=true then kvs.map (fun p=>if p.1=i then(p.1,v)else p)else kvs++[(i,v)]
noncomputable def Vt(kvs:List (Int×V))(i:Int):List (Int×V):=kvs.filter fun p=>decide (p.1≠i)
noncomputable def Gi:Type:=Fin 3
noncomputable def Gi.mask:Gi:=⟨0,Pa rfl⟩
noncomputable def Gi.size:Gi:=⟨1,Pa rfl⟩
noncomputable def Gi.Mt:Gi:=⟨2,Pa rfl⟩
noncomputable def Gi.val(g:Gi):Int:=([4294967295,4294967296,500]:List Int).getD (Fin.val g) 0
noncomputable def Gd:Type:=Fin 3
noncomputable def Gd.Ov:Gd:=⟨0,Pa rfl⟩
noncomputable def Gd.Qz:Gd:=⟨1,Pa rfl⟩
noncomputable def Gd.sD:Gd:=⟨2,Pa rfl⟩
noncomputable def Gd.has(g:Gd)(w:Wd):Bool:=(([[.add,.sub,.mul,.Oy,.and,.eq],[.lj],[.Ib,.branch,.table,.ic]]:List (List Wd)).getD g.val []).any fun x=>decide (x=w)
set_option genCtorIdx false in
inductive Tg where
 |nm (i:Nat)|tp (l:List Tg)
noncomputable def Tg.ctorIdx(x:Tg):Nat:=Tg.casesOn (motive_1:=fun a=>Nat) x (fun a=>0) (fun a=>1)
set_option genCtorIdx false in
mutual
inductive E where
 |var (i:Nat)|int (i:Int)|str (w:Wd)|tt|ff|none|Tj (g:Gi)
 |Ba (es:List E)|xb (Eh:Bool) (es:List E)|dict (es:List E)
 |ma (e:E) (a:At)|Ma (e i:E)|wh (e lo:E)|gr (e hi:E)
 |Fd (op:Operator) (a b:E)|ta (op:CmpOp) (a b:E)|Pg (o1 o2:CmpOp) (a b c:E)
 |and (es:List E)|or (es:List E)|not (e:E)|ite (c a b:E)
 |call (f:Fn) (es:List E)|new (c:Cl) (es:List E)
 |Pd (e:E)|mf (e:E)|Pk (e:E)|xk (e:E)|Nj (e:E)|all (e:E)|max (a b:E)|Th (a b:E)|rr (a b:E)
 |append (o e:E)|Ez (o:E)|Sm (o e:E)|Yl (o e:E)|Bf (o e:E)|Su (o k d:E)
 |Ay (neg:Bool) (e:E) (g:Gd)
 |comp (Eh:Bool) (t:Tg) (it:It) (elt:E)|Jf (Eh:Bool) (t:Tg) (it:It) (c elt:E)
 |Eh (e:E)
inductive It where
 |seq (e:E)|fj (e:E)|zip (a b:E)|range (e:E)
end
noncomputable def E.ctorIdx(x:E):Nat:=E.casesOn (motive_1:=fun a=>Nat) x (fun a=>0) (fun a=>1) (fun a=>2) 3 4 5 (fun a=>6) (fun a=>7) (fun a a=>8) (fun a=>9) (fun a a=>10) (fun a a=>11) (fun a a=>12) (fun a a=>13) (fun a a a=>14) (fun a a a=>15) (fun a a a a a=>16) (fun a=>17) (fun a=>18) (fun a=>19) (fun a a a=>20) (fun a a=>21) (fun a a=>22) (fun a=>23) (fun a=>24) (fun a=>25) (fun a=>26) (fun a=>27) (fun a=>28) (fun a a=>29) (fun a a=>30) (fun a a=>31) (fun a a=>32) (fun a=>33) (fun a a=>34) (fun a a=>35) (fun a a=>36) (fun a a a=>37) (fun a a a=>38) (fun a a a a=>39) (fun a a a a a=>40) (fun a=>41)
noncomputable def It.ctorIdx(x:It):Nat:=It.casesOn (motive_2:=fun a=>Nat) x (fun a=>0) (fun a=>1) (fun a a=>2) (fun a=>3)
set_option genCtorIdx false in
inductive S where
 |Wc (t:Tg) (e:E)|Zf (o:E) (a:At) (e:E)|Ph (o i e:E)|expr (e:E)|ret (e:E)
 |Pc (c:E) (a b:List S)|Ad (t:Tg) (it:It) (body:List S)|bh (c:E) (body:List S)
 |Nc|Hw (body:List S)
noncomputable def S.ctorIdx(x:S):Nat:=S.casesOn (motive_1:=fun a=>Nat) x (fun a a=>0) (fun a a a=>1) (fun a a a=>2) (fun a=>3) (fun a=>4) (fun a a a=>5) (fun a a a=>6) (fun a a=>7) 8 (fun a=>9)
mutual
noncomputable def V.py:V->PyData
 | .none=>.none| .bool b=>.bool b| .int i=>.int i| .wd w=>.str w.str| .gn _=>.none| .Ba l=>.tuple (V.RC l)| .fl l=>.list (V.RC l)| .ref _=>.none
noncomputable def V.RC:List V->List PyData
 | []=>[]
 |x::xs=>V.py x::V.RC xs
end
mutual
noncomputable def V.ok:Nat->V->Bool
 |_,.none=>true
 |_,.bool _=>true
 |_,.int _=>true
 |_,.wd _=>true
 |_,.gn _=>false
 |n,.Ba l=>(match n with|0=>false|m+1=>V.zj m l)
 |n,.fl l=>(match n with|0=>false|m+1=>V.zj m l)
 |_,.ref _=>false
noncomputable def V.zj:Nat->List V->Bool
 |_,[]=>true
 |n,x::xs=>V.ok n x&&V.zj n xs
end
mutual
noncomputable def V.eqv:V->V->Bool
 | .none,b=>(match b with| .none=>true|_=>false)
 | .bool a,b=>(match b with| .bool b=>a==b| .int j=>(if a then 1 else 0)==j|_=>false)
 | .int i,b=>(match b with| .bool b=>i==(if b then 1 else 0)| .int j=>i==j|_=>false)
 | .wd a,b=>(match b with| .wd b=>a==b|_=>false)
 | .gn _,_=>false
 | .Ba a,b=>(match b with| .Ba b=>V.Hy a b|_=>false)
 | .fl a,b=>(match b with| .fl b=>V.Hy a b|_=>false)
 | .ref _,_=>false
noncomputable def V.Hy:List V->List V->Bool
 | [],l=>(match l with| []=>true|_::_=>false)
 |x::xs,l=>(match l with| []=>false|y::ys=>V.eqv x y&&V.Hy xs ys)
end
noncomputable def lv(U:Mem):V->Option (List V)
 | .fl l=>some l
 | .ref a=>match U a with
  |some (.list l)=>some l
  |_=>Option.none
 |_=>Option.none
noncomputable def sv(U:Mem):V->Option (List V)
 | .Ba l=>some l
 |v=>lv U v
abbrev Ac:Nat:=1000000
noncomputable def uk(l:List V)(j:Int):Option V:=if 0≤j then l[j.toNat]? else if -(l.length:Int)≤j then l[(j+l.length).toNat]? else Option.none
noncomputable def dh(a b:V)(P:Int->Int->Prop):Prop:=∃x y,a=.int x∧b=.int y∧P x y
noncomputable def YF(U:Mem)(a b:V)(Q:V->Prop):Prop:=∃x y,lv U a=some x∧lv U b=some y∧(x.length≤Ac∧y.length≤Ac)∧Q (.fl (x++y))
noncomputable def FJ(n:Nat)(b:V)(Q:V->Prop):Prop:=(∃w,b=.wd w∧n≤1000∧Q (.gn (n+16)))∨∃m,b=.gn m∧n≤1000∧m≤1000∧Q (.gn (n+m))
noncomputable def IF(U:Mem)(a b:V)(Q:V->Prop):Prop:=dh a b (fun x y=>Q (.int (x+y)))∨(∃w c,a=.wd w∧b=.wd c∧Q (.gn 32))∨(∃n,a=.gn n∧FJ n b Q)∨YF U a b Q
noncomputable def XF(a b:V)(Q:V->Prop):Prop:=dh a b (fun x y=>((-(2^62)<x∧x<2^62)∨(-(2^62)<y∧y<2^62))∧Q (.int (x*y)))∨∃x n,a=.fl [x]∧b=.int n∧(0≤n∧n≤1000)∧Q (.fl (List.replicate n.toNat x))
noncomputable def Bu(U:Mem)(c:Operator)(a b:V)(Q:V->Prop):Prop:=match c with
 | .Add=>IF U a b Q
 | .Mult=>XF a b Q
 | .Sub=>dh a b fun x y=>Q (.int (x - y))
 | .FloorDiv=>dh a b fun x y=>(0<y∧y<2^30)∧Q (.int (x / y))
 | .Mod=>dh a b fun x y=>0<y∧Q (.int (x%y))
 | .BitXor=>dh a b fun x y=>Q (.int (Builtin.bitXor x y))
 | .BitAnd=>dh a b fun x y=>Q (.int (Builtin.bitAnd x y))
 |_=>False
noncomputable def dF(U:Mem)(a b:V)(Q:Bool->Prop):Prop:=(∃x l,a=.ref x∧b=.fl []∧U x=some (.list l)∧Q l.isEmpty)∨((V.ok 8 a=true∧V.ok 8 b=true)∧Q (V.eqv a b))
noncomputable def AE(U:Mem)(a b:V)(Q:Bool->Prop):Prop:=(∃i x kvs,a=.int i∧b=.ref x∧U x=some (.dict kvs)∧Q (Bd kvs i).isSome)
 ∨(∃i x l m,a=.int i∧b=.ref x∧U x=some (.set l m)∧Q (l.any fun j=>(j:Int)==i))
 ∨∃l,(b=.Ba l∨lv U b=some l)∧V.ok 8 a=true∧V.zj 8 l=true∧Q (l.any fun y=>V.eqv y a)
noncomputable def ro(U:Mem)(c:CmpOp)(a b:V)(Q:Bool->Prop):Prop:=match c with
 | .Eq=>dF U a b Q
 | .NotEq=>dF U a b fun r=>Q (!r)
 | .In=>AE U a b Q
 | .NotIn=>AE U a b fun r=>Q (!r)
 | .Is=>b=.none∧Q (match a with| .none=>true|_=>false)
 | .IsNot=>b=.none∧Q (match a with| .none=>false|_=>true)
 | .Lt=>dh a b fun x y=>Q (decide (x<y))
 | .LtE=>dh a b (fun x y=>Q (decide (x≤y)))∨∃x y l l' m m',a=.ref x∧b=.ref y∧U x=some (.set l l')∧U y=some (.set m m')∧Q (decide (l.length≤m.length)&&l.all fun i=>m.contains i)
 | .Gt=>dh a b fun x y=>Q (decide (y<x))
 | .GtE=>dh a b fun x y=>Q (decide (y≤x))
noncomputable def yg(U:Mem)(a:V)(Q:Bool->Prop):Prop:=match a with
 | .bool b=>Q b
 |a=>match lv U a with
  |some l=>l.length≤Ac∧Q (!l.isEmpty)
  |Option.none=>False
noncomputable def bt(U:Mem)(v:V)(a:At)(Q:V->Prop):Prop:=∃x c b y,v=.ref x∧U x=some (.ib c b)∧Sq b a=some y∧Q y
noncomputable def Xx(U:Mem)(v i:V)(Q:V->Prop):Prop:=∃j,i=.int j∧((∃l y,sv U v=some l∧uk l j=some y∧l.length≤Ac∧Q y)∨∃x kvs y,v=.ref x∧U x=some (.dict kvs)∧Bd kvs j=some y∧Q y)
noncomputable def Ct(U:Mem)(v:V)(a:At)(y:V)(K:Mem->Prop):Prop:=∃x c b,v=.ref x∧U x=some (.ib c b)∧b.length≤100∧K (Ga U x (some (.ib c (So b a y))))
noncomputable def Xp(U:Mem)(v i y:V)(K:Mem->Prop):Prop:=∃x j,v=.ref x∧i=.int j∧((∃l,U x=some (.list l)∧(0≤j∧j<l.length∧l.length≤Ac)∧K (Ga U x (some (.list (l.set j.toNat y)))))∨∃kvs,U x=some (.dict kvs)∧kvs.length≤Ac∧K (Ga U x (some (.dict (Ue kvs j y)))))
noncomputable def Md(U:Mem)(o:MO)(Q:V->Mem->Prop):Prop:=∀a,U a=Option.none->Q (.ref a) (Ga U a (some o))
noncomputable def jh:List V->Option (List Nat)
 | []=>some []
 | .int i::r=>if 0≤i then(jh r).map (i.toNat::·)else Option.none
 |_=>Option.none
noncomputable def Be(x:Nat):List Nat->List Nat
 | []=>[x]
 |y::r=>if x<y then x::y::r else if x=y then y::r else y::Be x r
noncomputable def Di:List V->Option (List Bool)
 | []=>some []
 | .bool b::r=>(Di r).map (b::·)
 |_=>Option.none
noncomputable def Bf(l:List Nat)(m x:Nat):Option (List Nat×Nat):=
 if l.contains x then some (l,m)else
 if m=7 then(if l.length≤3∧x≤7 then some (Be x l,7)else if l=[0,1,2,3]∧x=4 then some ([0,1,2,3,4],31)else Option.none)
 else if m=31∧l.length≤17∧x≤31 then some (Be x l,31)else Option.none
noncomputable def ll:List V->Option (List (Int×V))
 | []=>some []
 | .int i::v::r=>(ll r).map ((i,v)::·)
 |_=>Option.none
noncomputable def Of(kvs:List (Int×V)):List (Int×V):=kvs.foldl (fun acc p=>Ue acc p.1 p.2) []
structure Ln where
 vc:List V
 og:Mem->Prop
noncomputable def kg(U:Mem)(v:V)(Q:Ln->Prop):Prop:=(∃l,v=.fl l∧Q ⟨l,fun b=>True⟩)∨∃a l,v=.ref a∧U a=some (.list l)∧Q ⟨l,fun U=>U a=some (.list l)⟩
noncomputable def Zj(U:Mem)(v:V)(Q:Ln->Prop):Prop:=(∃l,v=.Ba l∧Q ⟨l,fun a=>True⟩)∨kg U v Q
noncomputable def Aj(i:Nat):List V->List V
 | []=>[]
 |x::xs=>.Ba [.int i,x]::Aj (i+1) xs
noncomputable def To:List V->List V->List V
 |x::xs,y::ys=>.Ba [x,y]::To xs ys
 |_,_=>[]
noncomputable def dj(i:Nat):Nat->List V
 |0=>[]
 |n+1=>.int i::dj (i+1) n
noncomputable def aj(c:Mem->Prop)(step:V->zc->Mem->(zc->Mem->Prop)->Prop)(K:zc->Mem->Prop):List V->zc->Mem->Prop
 | [],I,U=>c U∧K I U
 |x::xs,I,U=>c U∧step x I U fun I U=>aj c step K xs I U
noncomputable def bj(c:Mem->Prop)(step:V->Mem->(Option V->Mem->Prop)->Prop)(K:List V->Mem->Prop):List V->List V->Mem->Prop
 | [],acc,U=>c U∧K acc U
 |x::xs,acc,U=>(c U∧acc.length≤Ac)∧step x U fun r U=>bj c step K xs (match r with|some v=>acc++[v]|Option.none=>acc) U
mutual
noncomputable def Oh:Tg->V->Mem->zc->(zc->Prop)->Prop
 | .nm i,v,_,I,K=>K (Ca I i v)
 | .tp ts,v,U,I,K=>match sv U v with
  |some l=>l.length=ts.length∧pq ts l U I K
  |Option.none=>False
noncomputable def pq:List Tg->List V->Mem->zc->(zc->Prop)->Prop
 | [],[],_,I,K=>K I
 |t::ts,x::xs,U,I,K=>Oh t x U I fun I=>pq ts xs U I K
 |_,_,_,_,_=>False
end
theorem cK {K}:Oh (.nm i) v U I K=K (Ca I i v):=rfl
theorem zJ {K}:Oh (.tp ts) v U I K=(match sv U v with
 |some l=>l.length=ts.length∧pq ts l U I K
 |Option.none=>False):=rfl
theorem AK {K}:pq [] [] U I K=K I:=rfl
theorem FE {K}:pq (t::ts) (x::xs) U I K=Oh t x U I fun I=>pq ts xs U I K:=rfl
noncomputable def El(k:Nat)(A:Around):Prop:=A.handled=Option.none∧A.depth+4*k+4≤900∧A.units+40*k+400≤9900
noncomputable def PJ(k:Nat)(A:Around):Prop:=A.handled=Option.none∧A.depth+4*k+6≤900∧A.units+40*k+420≤9900
noncomputable def pe(G:Og)(k:Nat)(f:Fn)(vs:List V)(U:Mem)(Q:V->Mem->Prop):Prop:=
 ∀A T s cvs,PJ k A->G.wg.heap.objs.size≤s.heap.objs.size->Ed G T U s->Se T vs cvs->
  codeAny (model G.prog G.w) A (.call (.ref (G.fn f)) ⟨cvs,[]⟩)
   (fun r s'=>∃v T' U' X,r=.ok (.ret v)∧Vd T T'∧Ed G T' U' s'∧VR T' X v∧Q X U') s
noncomputable def Ht(G:Og)(k:Nat)(f:Fn)(vs:List V)(U:Mem)(Q:V->Mem->Prop):Prop:=match k with
 |0=>False
 |k+1=>pe G k f vs U Q
noncomputable def Mn(c:Cl):Fn:=([.uj,.Sj,.Qk]:List Fn).getD c.val .uj
noncomputable def Tt(U:Mem)(v:V):Prop:=∃a l m,v=.ref a∧U a=some (.set l m)
noncomputable def gp(U:Mem)(v:V):Prop:=∃a l,v=.ref a∧U a=some (.dict l)
mutual
noncomputable def wb(G:Og)(k:Nat)(p:Bool):E->zc->Mem->(V->Mem->Prop)->Prop
 | .var i,I,U,Q=>(match Ke I i with|some x=>Q x U|Option.none=>False)
 | .int i,_,U,Q=>Q (.int i) U
 | .str w,_,U,Q=>Q (.wd w) U
 | .tt,_,U,Q=>Q (.bool true) U
 | .ff,_,U,Q=>Q (.bool false) U
 | .none,_,U,Q=>Q .none U
 | .Tj g,_,U,Q=>Q (.int g.val) U
 | .Ba es,I,U,Q=>gj G k es I U fun vs U=>Q (.Ba vs) U
 | .xb true es,I,U,Q=>gj G k es I U fun vs U=>Q (.fl vs) U
 | .xb false es,I,U,Q=>gj G k es I U fun vs U=>Md U (.list vs) Q
 | .dict es,I,U,Q=>gj G k es I U fun vs U=>∃kvs,ll vs=some kvs∧Md U (.dict (Of kvs)) Q
 | .ma e a,I,U,Q=>wb G k false e I U fun v U=>bt U v a fun y=>Q y U
 | .Ma e i,I,U,Q=>wb G k false e I U fun v U=>wb G k false i I U fun j U=>Xx U v j fun y=>Q y U
 | .wh e B,I,U,Q=>wb G k false e I U fun v U=>wb G k false B I U fun j U=>∃l i,lv U v=some l∧j=.int i∧(0≤i∧l.length≤Ac)∧Q (.fl (l.drop i.toNat)) U
 | .gr e D,I,U,Q=>wb G k false e I U fun v U=>wb G k false D I U fun j U=>∃l i,lv U v=some l∧j=.int i∧(0≤i∧l.length≤Ac)∧Q (.fl (l.take i.toNat)) U
 | .Fd u a b,I,U,Q=>wb G k false a I U fun x U=>wb G k false b I U fun y U=>Bu U u x y fun z=>Q z U
 | .ta u a b,I,U,Q=>wb G k false a I U fun x U=>wb G k false b I U fun y U=>ro U u x y fun r=>Q (.bool r) U
 | .Pg o1 F a b c,I,U,Q=>wb G k false a I U fun x U=>wb G k false b I U fun y U=>ro U o1 x y fun r=>
  if r=true then wb G k false c I U fun z U=>ro U F y z fun r=>Q (.bool r) U else Q (.bool false) U
 | .and es,I,U,Q=>Sf G k p true es I U Q
 | .or es,I,U,Q=>Sf G k p false es I U Q
 | .not e,I,U,Q=>wb G k p e I U fun v U=>yg U v fun b=>Q (.bool (!b)) U
 | .ite c a b,I,U,Q=>p=false∧wb G k true c I U fun v U=>yg U v fun r=>if r=true then wb G k false a I U Q else wb G k false b I U Q
 | .call f es,I,U,Q=>gj G k es I U fun vs U=>Ht G k f vs U Q
 | .new c es,I,U,Q=>gj G k es I U fun vs U=>Md U (.ib c []) fun x U=>Ht G k (Mn c) (x::vs) U fun r U=>(match r with| .none=>Q x U|_=>False)
 | .Pd e,I,U,Q=>wb G k false e I U fun v U=>∃l,sv U v=some l∧l.length≤Ac∧Q (.int l.length) U
 | .mf e,I,U,Q=>wb G k false e I U fun v U=>∃l,lv U v=some l∧l.length≤Ac∧Q (.fl l) U
 | .Pk e,I,U,Q=>wb G k false e I U fun v U=>(∃l s,v=.fl l∧jh l=some s∧(s.length≤4∧∀n∈s,n≤7)∧Md U (.set (s.foldl (fun acc n=>Be n acc) []) 7) Q)
  ∨∃a l m,v=.ref a∧U a=some (.set l m)∧((m=7∧l.length≤4)∨(m=31∧8≤l.length∧l.length≤15))∧Md U (.set l m) Q
 | .xk e,I,U,Q=>wb G k false e I U fun v U=>∃i,v=.int i∧(0≤i∧i<1000000)∧Q (.gn 16) U
 | .Nj e,I,U,Q=>wb G k false e I U fun v U=>∃b,v=.bool b∧Q (.bool true) U
 | .all e,I,U,Q=>wb G k false e I U fun v U=>∃l bs,v=.fl l∧Di l=some bs∧l.length≤Ac∧Q (.bool (bs.all id)) U
 | .max a b,I,U,Q=>wb G k false a I U fun x U=>wb G k false b I U fun y U=>∃i j,x=.int i∧y=.int j∧Q (.int (if i<j then j else i)) U
 | .Th a b,I,U,Q=>wb G k false a I U fun x U=>wb G k false b I U fun y U=>∃ks vs s,lv U x=some ks∧lv U y=some vs∧jh ks=some s∧(s.length≤1000∧vs.length=s.length)∧Md U (.dict (Of ((s.map fun(n:Nat)=>(n:Int)).zip vs))) Q
 | .rr a b,I,U,Q=>wb G k false a I U fun x U=>wb G k false b I U fun y U=>∃l m,lv U x=some l∧lv U y=some m∧(l.length≤Ac∧m.length≤Ac)∧Md U (.list (l++m)) Q
 | .append o e,I,U,Q=>wb G k false o I U fun x U=>(lv U x).isSome=true∧wb G k false e I U fun y U=>∃a l,x=.ref a∧U a=some (.list l)∧l.length≤Ac∧Q .none (Ga U a (some (.list (l++[y]))))
 | .Ez o,I,U,Q=>wb G k false o I U fun x U=>∃a l y,x=.ref a∧U a=some (.list l)∧l.getLast?=some y∧l.length≤Ac∧Q y (Ga U a (some (.list l.dropLast)))
 | .Sm o e,I,U,Q=>wb G k false o I U fun x U=>(lv U x).isSome=true∧wb G k false e I U fun y U=>∃(l:List V)(i:Nat),lv U x=some l∧l.findIdx? (fun z=>V.eqv z y)=some i∧(V.zj 8 l=true∧V.ok 8 y=true∧l.length≤Ac)∧Q (.int i) U
 | .Yl o e,I,U,Q=>wb G k false o I U fun x U=>(lv U x).isSome=true∧wb G k false e I U fun y U=>∃l:List V,lv U x=some l∧(V.zj 8 l=true∧V.ok 8 y=true∧l.length≤Ac)∧Q (.int (l.countP fun z=>V.eqv z y)) U
 | .Bf o e,I,U,Q=>wb G k false o I U fun x U=>Tt U x∧wb G k false e I U fun y U=>∃a i l m l' m',x=.ref a∧y=.int i∧U a=some (.set l m)∧0≤i∧Bf l m i.toNat=some (l',m')∧Q .none (Ga U a (some (.set l' m')))
 | .Su o h y,I,U,Q=>wb G k false o I U fun x U=>gp U x∧wb G k false h I U fun i U=>wb G k false y I U fun y U=>(match x,i with
  | .ref a,.int i=>(match U a with
   |some (.dict kvs)=>kvs.length≤Ac∧(match Bd kvs i with
    |some z=>Q z (Ga U a (some (.dict (Vt kvs i))))
    |Option.none=>Q y U)
   |_=>False)
  |_,_=>False)
 | .Ay A e g,I,U,Q=>wb G k false e I U fun v U=>∃w,v=.wd w∧Q (.bool (g.has w != A)) U
 | .comp Eh t it elt,I,U,Q=>Xm G k it I U fun q U=>
  bj q.og (fun x U K=>Oh t x U I fun I=>wb G k false elt I U fun v U=>K (some v) U)
   (fun l U=>if Eh=true then Q (.fl l) U else Md U (.list l) Q) q.vc [] U
 | .Jf Eh t it c elt,I,U,Q=>Xm G k it I U fun q U=>
  bj q.og (fun x U K=>Oh t x U I fun I=>wb G k true c I U fun v U=>yg U v fun b=>if b=true then wb G k false elt I U fun v U=>K (some v) U else K Option.none U)
   (fun l U=>if Eh=true then Q (.fl l) U else Md U (.list l) Q) q.vc [] U
 | .Eh e,I,U,Q=>p=false∧wb G k false e I U fun v U=>(match v with
  | .ref a=>(match U a with
   |some (.list l)=>Q (.fl l) (Ga U a Option.none)
   |_=>False)
  |_=>False)
noncomputable def gj(G:Og)(k:Nat):List E->zc->Mem->(List V->Mem->Prop)->Prop
 | [],_,U,Q=>Q [] U
 |e::es,I,U,Q=>wb G k false e I U fun v U=>gj G k es I U fun vs U=>Q (v::vs) U
noncomputable def Sf(G:Og)(k:Nat)(c a:Bool):List E->zc->Mem->(V->Mem->Prop)->Prop
 | [],_,U,Q=>c=true∧Q (.bool a) U
 |e::es,I,U,Q=>wb G k c e I U fun v U=>if c=false∧es.isEmpty=true then Q v U else
  yg U v fun b=>if b=a then Sf G k c a es I U Q else Q (if c=true then .bool b else v) U
noncomputable def Xm(G:Og)(k:Nat):It->zc->Mem->(Ln->Mem->Prop)->Prop
 | .seq e,I,U,Q=>wb G k false e I U fun v U=>Zj U v fun c=>Q c U
 | .fj e,I,U,Q=>wb G k false e I U fun v U=>kg U v fun c=>Q ⟨Aj 0 c.vc,c.og⟩ U
 | .zip a b,I,U,Q=>wb G k false a I U fun x U=>wb G k false b I U fun y U=>kg U x fun f=>kg U y fun g=>
  f.vc.length=g.vc.length∧Q ⟨To f.vc g.vc,fun U=>f.og U∧g.og U⟩ U
 | .range e,I,U,Q=>wb G k false e I U fun v U=>(match v with
  | .int n=>(0≤n∧n≤Ac)∧Q ⟨dj 0 n.toNat,fun h=>True⟩ U
  |_=>False)
end
theorem VH:wb G k tst (.var i) I U Q=((match Ke I i with|some x=>Q x U|Option.none=>False)):=rfl
theorem VK:wb G k tst (.int i) I U Q=(Q (.int i) U):=rfl
theorem gL:wb G k tst (.str w) I U Q=(Q (.wd w) U):=rfl
theorem ZK:wb G k tst .tt I U Q=(Q (.bool true) U):=rfl
theorem UK:wb G k tst .ff I U Q=(Q (.bool false) U):=rfl
theorem cL:wb G k tst .none I U Q=(Q .none U):=rfl
theorem jL:wb G k tst (.Tj g) I U Q=(Q (.int g.val) U):=rfl
theorem ax:wb G k tst (.Ba es) I U Q=(gj G k es I U fun vs U=>Q (.Ba vs) U):=rfl
theorem pJ:wb G k tst (.xb true es) I U Q=(gj G k es I U fun vs U=>Q (.fl vs) U):=rfl
theorem pD:wb G k tst (.dict es) I U Q=(gj G k es I U fun vs U=>∃kvs,ll vs=some kvs∧Md U (.dict (Of kvs)) Q):=rfl
theorem RJ:wb G k tst (.ma e a) I U Q=(wb G k false e I U fun v U=>bt U v a fun y=>Q y U):=rfl
theorem OJ:wb G k tst (.Ma e i) I U Q=(wb G k false e I U fun v U=>wb G k false i I U fun j U=>Xx U v j fun y=>Q y U):=rfl
theorem iI {lo}:wb G k tst (.wh e lo) I U Q=(wb G k false e I U fun v U=>wb G k false lo I U fun j U=>∃l i,lv U v=some l∧j=.int i∧(0≤i∧l.length≤Ac)∧Q (.fl (l.drop i.toNat)) U):=rfl
theorem oJ:wb G k tst (.gr e hi) I U Q=(wb G k false e I U fun v U=>wb G k false hi I U fun j U=>∃l i,lv U v=some l∧j=.int i∧(0≤i∧l.length≤Ac)∧Q (.fl (l.take i.toNat)) U):=rfl
theorem cC:wb G k tst (.Fd op a b) I U Q=(wb G k false a I U fun x U=>wb G k false b I U fun y U=>Bu U op x y fun z=>Q z U):=rfl
theorem QK:wb G k tst (.ta op a b) I U Q=(wb G k false a I U fun x U=>wb G k false b I U fun y U=>ro U op x y fun r=>Q (.bool r) U):=rfl
theorem RK:wb G k tst (.Pg o1 o2 a b c) I U Q=(wb G k false a I U fun x U=>wb G k false b I U fun y U=>ro U o1 x y fun r=> if r=true then wb G k false c I U fun z U=>ro U o2 y z fun r=>Q (.bool r) U else Q (.bool false) U):=rfl
theorem lD:wb G k tst (.and es) I U Q=(Sf G k tst true es I U Q):=rfl
theorem MD:wb G k tst (.or es) I U Q=(Sf G k tst false es I U Q):=rfl
theorem oK:wb G k tst (.not e) I U Q=(wb G k tst e I U fun v U=>yg U v fun b=>Q (.bool (!b)) U):=rfl
theorem LL:wb G k tst (.ite c a b) I U Q=(tst=false∧wb G k true c I U fun v U=>yg U v fun r=>if r=true then wb G k false a I U Q else wb G k false b I U Q):=rfl
theorem LJ:wb G k tst (.call f es) I U Q=(gj G k es I U fun vs U=>Ht G k f vs U Q):=rfl
theorem EJ:wb G k tst (.new c es) I U Q=(gj G k es I U fun vs U=>Md U (.ib c []) fun x U=>Ht G k (Mn c) (x::vs) U fun r U=>(match r with| .none=>Q x U|_=>False)):=rfl
theorem EK:wb G k tst (.Pd e) I U Q=(wb G k false e I U fun v U=>∃l,sv U v=some l∧l.length≤Ac∧Q (.int l.length) U):=rfl
theorem gK:wb G k tst (.mf e) I U Q=(wb G k false e I U fun v U=>∃l,lv U v=some l∧l.length≤Ac∧Q (.fl l) U):=rfl
theorem TJ:wb G k tst (.Pk e) I U Q=(wb G k false e I U fun v U=>(∃l b,v=.fl l∧jh l=some b∧(b.length≤4∧∀n∈b,n≤7)∧Md U (.set (b.foldl (fun acc n=>Be n acc) []) 7) Q) ∨∃a l m,v=.ref a∧U a=some (.set l m)∧((m=7∧l.length≤4)∨(m=31∧8≤l.length∧l.length≤15))∧Md U (.set l m) Q):=rfl
theorem aK:wb G k tst (.xk e) I U Q=(wb G k false e I U fun v U=>∃i,v=.int i∧(0≤i∧i<1000000)∧Q (.gn 16) U):=rfl
theorem FH:wb G k tst (.Nj e) I U Q=(wb G k false e I U fun v U=>∃b,v=.bool b∧Q (.bool true) U):=rfl
theorem HJ:wb G k tst (.all e) I U Q=(wb G k false e I U fun v U=>∃l bs,v=.fl l∧Di l=some bs∧l.length≤Ac∧Q (.bool (bs.all id)) U):=rfl
theorem vK:wb G k tst (.max a b) I U Q=(wb G k false a I U fun x U=>wb G k false b I U fun y U=>∃i j,x=.int i∧y=.int j∧Q (.int (if i<j then j else i)) U):=rfl
theorem lI:wb G k tst (.Th a b) I U Q=(wb G k false a I U fun x U=>wb G k false b I U fun y U=>∃ks vs c,lv U x=some ks∧lv U y=some vs∧jh ks=some c∧(c.length≤1000∧vs.length=c.length)∧Md U (.dict (Of ((c.map fun(n:Nat)=>(n:Int)).zip vs))) Q):=rfl
theorem RH:wb G k tst (.rr a b) I U Q=(wb G k false a I U fun x U=>wb G k false b I U fun y U=>∃l m,lv U x=some l∧lv U y=some m∧(l.length≤Ac∧m.length≤Ac)∧Md U (.list (l++m)) Q):=rfl
theorem YI:wb G k tst (.append o e) I U Q=(wb G k false o I U fun x U=>(lv U x).isSome=true∧wb G k false e I U fun y U=>∃a l,x=.ref a∧U a=some (.list l)∧l.length≤Ac∧Q .none (Ga U a (some (.list (l++[y]))))):=rfl
theorem wK:wb G k tst (.Ez o) I U Q=(wb G k false o I U fun x U=>∃a l y,x=.ref a∧U a=some (.list l)∧l.getLast?=some y∧l.length≤Ac∧Q y (Ga U a (some (.list l.dropLast)))):=rfl
theorem qK:wb G k tst (.Sm o e) I U Q=(wb G k false o I U fun x U=>(lv U x).isSome=true∧wb G k false e I U fun y U=>∃(l:List V)(i:Nat),lv U x=some l∧l.findIdx? (fun z=>V.eqv z y)=some i∧(V.zj 8 l=true∧V.ok 8 y=true∧l.length≤Ac)∧Q (.int i) U):=rfl
theorem OK:wb G k tst (.Yl o e) I U Q=(wb G k false o I U fun x U=>(lv U x).isSome=true∧wb G k false e I U fun y U=>∃l:List V,lv U x=some l∧(V.zj 8 l=true∧V.ok 8 y=true∧l.length≤Ac)∧Q (.int (l.countP fun z=>V.eqv z y)) U):=rfl
theorem iJ:wb G k tst (.Bf o e) I U Q=(wb G k false o I U fun x U=>Tt U x∧wb G k false e I U fun y U=>∃a i l m l' m',x=.ref a∧y=.int i∧U a=some (.set l m)∧0≤i∧Bf l m i.toNat=some (l',m')∧Q .none (Ga U a (some (.set l' m')))):=rfl
theorem xI:wb G k tst (.Su o d y) I U Q=(wb G k false o I U fun x U=>gp U x∧wb G k false d I U fun i U=>wb G k false y I U fun y U=>(match x,i with
 | .ref a,.int i=>(match U a with
  |some (.dict kvs)=>kvs.length≤Ac∧(match Bd kvs i with
   |some z=>Q z (Ga U a (some (.dict (Vt kvs i))))
   |Option.none=>Q y U)
  |_=>False)
 |_,_=>False)):=rfl
theorem pF:wb G k tst (.comp Eh t it elt) I U Q=(Xm G k it I U fun a U=> bj a.og (fun x U K=>Oh t x U I fun I=>wb G k false elt I U fun v U=>K (some v) U) (fun l U=>if Eh=true then Q (.fl l) U else Md U (.list l) Q) a.vc [] U):=rfl
theorem UI:wb G k tst (.Jf Eh t it c elt) I U Q=(Xm G k it I U fun a U=> bj a.og (fun x U K=>Oh t x U I fun I=>wb G k true c I U fun v U=>yg U v fun b=>if b=true then wb G k false elt I U fun v U=>K (some v) U else K Option.none U) (fun l U=>if Eh=true then Q (.fl l) U else Md U (.list l) Q) a.vc [] U):=rfl
theorem pK:wb G k tst (.Eh e) I U Q=(tst=false∧wb G k false e I U fun v U=>(match v with
 | .ref a=>(match U a with
  |some (.list l)=>Q (.fl l) (Ga U a Option.none)
  |_=>False)
 |_=>False)):=rfl
theorem ou:gj G k [] I U Q=(Q [] U):=rfl
theorem xi:gj G k (e::es) I U Q=(wb G k false e I U fun v U=>gj G k es I U fun vs U=>Q (v::vs) U):=rfl
theorem bM:Sf G k tst isAnd [] I U Q=(tst=true∧Q (.bool isAnd) U):=rfl
theorem iL:Sf G k tst isAnd (e::es) I U Q=(wb G k tst e I U fun v U=>if tst=false∧es.isEmpty=true then Q v U else yg U v fun b=>if b=isAnd then Sf G k tst isAnd es I U Q else Q (if tst=true then .bool b else v) U):=rfl
theorem cM:Xm G k (.seq e) I U Q=(wb G k false e I U fun v U=>Zj U v fun a=>Q a U):=rfl
theorem aM:Xm G k (.fj e) I U Q=(wb G k false e I U fun v U=>kg U v fun a=>Q ⟨Aj 0 a.vc,a.og⟩ U):=rfl
theorem wL:Xm G k (.zip a b) I U Q=(wb G k false a I U fun x U=>wb G k false b I U fun y U=>kg U x fun c=>kg U y fun e=> c.vc.length=e.vc.length∧Q ⟨To c.vc e.vc,fun U=>c.og U∧e.og U⟩ U):=rfl
theorem ML:Xm G k (.range e) I U Q=(wb G k false e I U fun v U=>(match v with
 | .int n=>(0≤n∧n≤Ac)∧Q ⟨dj 0 n.toNat,fun a=>True⟩ U
 |_=>False)):=rfl
noncomputable def ck(G:Og)(k:Nat)(e:E)(I:zc)(U:Mem)(Q:Bool->Mem->Prop):Prop:=wb G k true e I U fun v U=>yg U v fun b=>Q b U
mutual
noncomputable def OC(G:Og)(k:Nat):S->zc->Mem->(zc->Mem->Prop)->(V->Mem->Prop)->Prop
 | .Wc t e,I,U,Kn,_=>wb G k false e I U fun v U=>Oh t v U I fun I=>Kn I U
 | .Zf o a e,I,U,Kn,_=>wb G k false e I U fun y U=>wb G k false o I U fun x U=>Ct U x a y fun U=>Kn I U
 | .Ph o i e,I,U,Kn,_=>wb G k false e I U fun y U=>wb G k false o I U fun x U=>wb G k false i I U fun j U=>Xp U x j y fun U=>Kn I U
 | .expr e,I,U,Kn,_=>wb G k false e I U fun v U=>(match v with| .none| .bool _| .int _=>Kn I U|_=>False)
 | .ret e,I,U,_,Kr=>wb G k false e I U Kr
 | .Pc c a b,I,U,Kn,Kr=>ck G k c I U fun r U=>if r=true then Ia G k a I U Kn Kr else Ia G k b I U Kn Kr
 | .Ad t it body,I,U,Kn,Kr=>Xm G k it I U fun g U=>
  aj g.og (fun x I U K=>Oh t x U I fun I=>Ia G k body I U K Kr) Kn g.vc I U
 | .bh c body,I,U,Kn,Kr=>∃(f:Nat->zc->Mem->Prop)(n:Nat),f n I U∧∀n I U,f n I U->
  ck G k c I U fun r U=>if r=true then Ia G k body I U (fun I U=>∃m,m<n∧f m I U) Kr else Kn I U
 | .Nc,_,_,_,_=>False
 | .Hw body,I,U,Kn,Kr=>Ia G k body I U Kn Kr
noncomputable def Ia(G:Og)(k:Nat):List S->zc->Mem->(zc->Mem->Prop)->(V->Mem->Prop)->Prop
 | [],I,U,Kn,_=>Kn I U
 |s::ss,I,U,Kn,Kr=>OC G k s I U (fun I U=>Ia G k ss I U Kn Kr) Kr
end
theorem YL:OC G k (.Zf o a e) I U Kn Kr=(wb G k false e I U fun y U=>wb G k false o I U fun x U=>Ct U x a y fun U=>Kn I U):=rfl
theorem GL:OC G k (.Ph o i e) I U Kn Kr=(wb G k false e I U fun y U=>wb G k false o I U fun x U=>wb G k false i I U fun j U=>Xp U x j y fun U=>Kn I U):=rfl
theorem tL:OC G k (.Pc c a b) I U Kn Kr=(ck G k c I U fun r U=>if r=true then Ia G k a I U Kn Kr else Ia G k b I U Kn Kr):=rfl
theorem mK:OC G k (.Ad t it body) I U Kn Kr=(Xm G k it I U fun a U=> aj a.og (fun x I U K=>Oh t x U I fun I=>Ia G k body I U K Kr) Kn a.vc I U):=rfl
theorem yL:OC G k (.bh c body) I U Kn Kr=(∃(a:Nat->zc->Mem->Prop)(n:Nat),a n I U∧∀n I U,a n I U-> ck G k c I U fun r U=>if r=true then Ia G k body I U (fun I U=>∃m,m<n∧a m I U) Kr else Kn I U):=rfl
theorem lL:OC G k .Nc I U Kn Kr=(False):=rfl
theorem ZL:OC G k (.Hw body) I U Kn Kr=(Ia G k body I U Kn Kr):=rfl
theorem mJ:Ia G k [] I U Kn Kr=(Kn I U):=rfl
theorem my:Ia G k (s::ss) I U Kn Kr=(OC G k s I U (fun I U=>Ia G k ss I U Kn Kr) Kr):=rfl
noncomputable def Me:Nat->List V->zc
 |_,[]=>fun a=>Option.none
 |i,x::xs=>fun j=>cond (Nat.beq j i) (some x) (Me (i+1) xs j)
set_option genInjectivity true in
inductive zb where
 |r (n:Nat)|k (n:Nat)
 deriving DecidableEq
noncomputable def zb.v:zb->V
 | .r n=>.Ba [.wd .r,.int n]
 | .k n=>.Ba [.wd .k,.int n]
inductive Ar where
 |add|sub|Oy|and|mul|eq
 deriving DecidableEq
noncomputable def Ar.w:Ar->Wd
 | .add=>.add| .sub=>.sub| .Oy=>.Oy| .and=>.and| .mul=>.mul| .eq=>.eq
set_option genCtorIdx false in
set_option genInjectivity true in
inductive Sa where
 |name|slot|cp (d:Nat) (o:zb)|dr (d n:Nat)|st (a x:Nat) (firm:Bool)|ld (d a:Nat) (firm:Bool)
 |ar (op:Ar) (d a:Nat) (b:zb)|Yh (d:Int) (x:Nat)|Qg (d:Int) (os:List zb)
noncomputable def Sa.ctorIdx(x:Sa):Nat:=Sa.casesOn (motive:=fun a=>Nat) x 0 1 (fun a a=>2) (fun a a=>3) (fun a a a=>4) (fun a a a=>5) (fun a a a a=>6) (fun a a=>7) (fun a a=>8)
noncomputable def Sa.op:Sa->Wd
 | .name=>.name| .slot=>.slot| .cp ..=>.lj| .dr ..=>.Bk| .st ..=>.de| .ld ..=>.load| .ar op ..=>op.w| .Yh ..=>.call| .Qg ..=>.call
noncomputable def Sa.nc:Sa->Int
 | .name=>4| .slot=>5| .cp d _=>d| .dr d _=>d| .st ..=> -1| .ld d ..=>d| .ar _ d ..=>d| .Yh d _=>d| .Qg d _=>d
noncomputable def Sa.args:Sa->List zb
 | .name=>[]| .slot=>[]| .cp _ o=>[o]| .dr _ n=>[.k n]| .st a x _=>[.r a,.r x]| .ld _ a _=>[.r a]| .ar _ _ a b=>[.r a,b]| .Yh _ x=>[.r x]| .Qg _ os=>os
noncomputable def Sa.more:Sa->V
 | .name=>.Ba [.wd .g,.int 0]| .st ..=>.int 4| .ld ..=>.Ba [.int 4,.bool false]| .Yh ..=>.wd .Yh| .Qg ..=>.wd .f|_=>.int 0
noncomputable def Sa.Fq:Sa->Bool
 | .st _ _ f=>f| .ld _ _ f=>f|_=>false
noncomputable def Xl(a:List zb):V:=.fl (a.map zb.v)
noncomputable def Sa.v(i:Sa):V:=.Ba [.wd i.op,.int i.nc,Xl i.args,i.more,.bool i.Fq]
noncomputable def Sa.fs(i:Sa)(a:Int):List (At×V):=[(.op,.wd i.op),(.nc,.int i.nc),(.args,Xl i.args),(.more,i.more),(.Tb,.bool i.Fq),(.line,.int a)]
set_option genCtorIdx false in
inductive En where
 |Ib (n:Nat)|branch (r a b:Nat)|ic (o:Option Nat)
noncomputable def En.ctorIdx(x:En):Nat:=En.casesOn (motive:=fun a=>Nat) x (fun a=>0) (fun a a a=>1) (fun a=>2)
noncomputable def En.op:En->Wd
 | .Ib _=>.Ib| .branch ..=>.branch| .ic _=>.ic
noncomputable def En.args:En->List zb
 | .Ib _=>[]| .branch r _ _=>[.r r]| .ic none=>[]| .ic (some r)=>[.r r]
noncomputable def En.more:En->V
 | .Ib n=>.int n| .branch _ a b=>.Ba [.int a,.int b]| .ic _=>.int 0
noncomputable def En.v(e:En):V:=.Ba [.wd e.op,Xl e.args,e.more]
noncomputable def En.fs(e:En)(a:Int):List (At×V):=[(.op,.wd e.op),(.nc,.int (-1)),(.args,Xl e.args),(.more,e.more),(.Tb,.bool false),(.line,.int a)]
noncomputable def En.Hk:En->List Nat
 | .Ib n=>[n]| .branch _ a b=>[a,b]| .ic _=>[]
structure xd where
 la:List Sa
 en:En
noncomputable def Zd(l:List Sa):V:=.fl (l.map Sa.v)
noncomputable def xd.v(b:xd):V:=.Ba [Zd b.la,b.en.v]
noncomputable def Mb(P:List xd):V:=.fl (P.map xd.v)
noncomputable def Ee(l:List Nat):V:=.fl (l.map fun(n:Nat)=>V.int n)
set_option genCtorIdx false in
inductive Code where
 |ar (op:Ar) (one:Nat) (b:zb)|Yh (one:Nat)|iG (one:Nat) (firm:Bool)|eF (one:Nat) (firm:Bool)|BF (one:Nat)|VC (one:Nat)|NC (one:Nat)|vk|ml|ym|mul (one:Nat)
noncomputable def Code.ctorIdx(x:Code):Nat:=Code.casesOn (motive:=fun a=>Nat) x (fun a a a=>0) (fun a=>1) (fun a a=>2) (fun a a=>3) (fun a=>4) (fun a=>5) (fun a=>6) 7 8 9 (fun a=>10)
noncomputable def Code.la:Code->List Sa
 | .ar c a b=>[.ar c a a b]
 | .Yh a=>[.Yh 7 a]
 | .iG a f=>[.st 4 a f]
 | .eF a f=>[.ld a 4 f]
 | .BF a=>[.st 5 a false]
 | .VC a=>[.ld a 6 false]
 | .NC a=>[.ar .add 6 5 (.k 0),.st 6 a false]
 | .vk=>[.Yh 7 5]
 | .ml=>[.st 4 6 false]
 | .ym=>[.ar .eq 7 5 (.r 6),.Yh (-1) 7]
 | .mul a=>[.ar .mul a a (.k 3)]
noncomputable def Code.ok:Code->Prop
 | .ar c a b=>(c=.add∨c=.sub∨c=.Oy)∧a<3∧((∃n,b=.r n∧n<3)∨∃n,b=.k n∧n<100)
 | .Yh a| .iG a _| .eF a _| .BF a| .VC a| .NC a| .mul a=>a<3
 | .vk| .ml| .ym=>True
noncomputable def va(l:List Code):List Sa:=l.flatMap Code.la
inductive Tl where
 |OB|pA|jC|KJ|AA|VI|add
noncomputable def Tl.Dl:Tl->Sa
 | .OB=>.cp 10 (.r 9)| .pA=>.cp 9 (.r 10)| .jC=>.cp 10 (.k 7)| .KJ=>.cp 0 (.r 9)| .AA=>.cp 10 (.r 0)| .VI=>.cp 9 (.r 9)| .add=>.ar .add 10 10 (.k 1)
noncomputable def dg(o:zb):Prop:=(∃n,o=.r n∧(n<4∨n=8∨n=11∨n=5))∨∃n,o=.k n∧n<40
structure dd where
 yb:List Code
 Sb:Nat->zb
 nc:Int
 tail:List Tl
 Ai:Nat
noncomputable def dd.en(c:dd)(hv:Bool):En:=if c.Ai<2 then .ic (if hv then some (9+c.Ai)else none)else .Ib (3+c.Ai)
noncomputable def dd.Xf(c:dd)(ps:List Nat)(hv:Bool):xd:=⟨va c.yb++[.Qg c.nc (ps.map c.Sb)]++c.tail.map Tl.Dl,c.en hv⟩
structure dd.ok(c:dd)(hv:Bool):Prop where
 yb:∀x∈c.yb,x.ok
 Pd:c.yb.length≤1
 g3:c.Sb 3=.r 8
 g:∀n,n<3->dg (c.Sb n)
 nc:c.nc=9∨(hv=false∧c.nc = -1)
 xJ:c.tail.length≤3
 Ai:c.Ai<4
structure Xb where
 ps:List Nat
 hv:Bool
 ec:List Code
 mc:List Code
 mx:Nat
 bx:Nat
 c3:dd
 c4:dd
 xb:Bool
noncomputable def Xb.gv(D:Xb):Option Nat:=if D.hv then some 10 else none
noncomputable def Xb.b0(D:Xb):xd:=⟨[.name,.slot,.cp 6 (.r 5),.st 5 0 false,.dr 9 1,.cp 10 (.r 1)]++va D.ec++[.ld 11 5 false],.branch 3 1 2⟩
noncomputable def Xb.b1(D:Xb):xd:=⟨va D.mc++[.ar .sub 8 3 (.k 1),.ar .and 7 D.mx (.k 1)],.branch 7 3 4⟩
noncomputable def Xb.b2(D:Xb):xd:=⟨[.cp 10 (.r D.bx)],.ic D.gv⟩
noncomputable def Xb.b6(D:Xb):xd:=⟨if D.xb then [.cp 10 (.r 10)]else [],.ic D.gv⟩
noncomputable def Xb.Yb(D:Xb):List xd:=[D.b0,D.b1,D.b2,D.c3.Xf D.ps D.hv,D.c4.Xf D.ps D.hv,⟨[],.Ib 6⟩,D.b6]
structure Xb.ok(D:Xb):Prop where
 ps:D.ps=[0,1,2,3]∨D.ps=[1,2,3,0]∨D.ps=[2,3,0,1]∨D.ps=[3,0,1,2]
 ec:∀x∈D.ec,x.ok
 fH:D.ec.length≤2
 mc:∀x∈D.mc,x.ok
 vJ:D.mc.length≤1
 mx:D.mx<4
 bx:D.bx<3
 c3:D.c3.ok D.hv
 c4:D.c4.ok D.hv
noncomputable def Zc(U:Mem)(a:Addr)(i:Sa):Prop:=∃b,U a=some (.ib .step (i.fs b))
noncomputable def Wj(U:Mem)(a:Addr)(e:En):Prop:=∃b,U a=some (.ib .step (e.fs b))
noncomputable def Ab(as:List Addr):List V:=as.map V.ref
noncomputable def ye{c e:Type}(R:c->e->Prop):List c->List e->Prop
 | [],[]=>True
 |a::as,b::bs=>R a b∧ye R as bs
 |_,_=>False
structure jd(U:Mem)(b:Addr)(n:Nat)(B:xd):Prop where
 ex:∃sv e as,U b=some (.ib .td [(.Yc,.int n),(.uc,sv),(.We,.ref e)])∧lv U sv=some (Ab as)∧ye (Zc U) as B.la∧Wj U e B.en
noncomputable def Dc(U:Mem):Nat->List Addr->List xd->Prop
 |_,[],[]=>True
 |n,b::bs,B::P=>jd U b n B∧Dc U (n+1) bs P
 |_,_,_=>False
noncomputable def Td(ps:List Nat)(hv:Bool)(Z:Nat)(J:Addr):List (At×V):=
 [(.name,.wd .f),(.params,Ee ps),(.Xk,.bool false),(.slots,.fl [.Ba [.int 4,.int 4]]),(.Ae,.ref J),(.ie,.int Z),(.Xg,.bool hv)]
structure Ce(U:Mem)(F J:Addr)(ps:List Nat)(hv:Bool)(Z:Nat)(bs:List Addr)(P:List xd):Prop where
 f:U F=some (.ib .func (Td ps hv Z J))
 bl:U J=some (.list (Ab bs))
 jc:Dc U 0 bs P
noncomputable def Sub(U U':Mem):Prop:=∀a m,U a=some m->U' a=some m
theorem Sub.refl(U:Mem):Sub U U:=fun a a h=>h
theorem Sub.trans{U U' U'':Mem}(h:Sub U U')(h':Sub U' U''):Sub U U'':=fun a m q=>h' a m (h a m q)
theorem Sub.new{U:Mem}{a:Addr}(h:U a=none)(x:Option MO):Sub U (Ga U a x):=fun b m q=>by
 by_cases e:b=a
 ·subst e;rw[h]at q;injection q
 ·refine aa (qa _ _ e) ?_;exact q
theorem ye.za{f g:Type}{R S:f->g->Prop}(h:∀a b,R a b->S a b):∀{l:List f}{m:List g},ye R l m->ye S l m:=by
 intro e;induction e with
 |nil=>
  intro c h;rcases c with _|⟨i,j⟩
  ·exact trivial
  ·exact h.elim
 |cons n o s=>
  intro c h;rcases c with _|⟨p,q⟩
  ·exact h.elim
  ·obtain⟨a,b⟩:=h;exact⟨h _ _ a,s b⟩
set_option tactic.hygienic true in
theorem Sub.lv{U U':Mem}(h:Sub U U'){v:V}{l:List V}(q:lv U v=some l):lv U' v=some l:=by
 unfold Mine.lv at q ⊢;split at q
 ·exact q
 ·rename_i a;split at q
  ·rename_i m e
   (replace q:=Bb q;subst q)
   exact aa (h a _ e) rfl
  ·injection q
 ·injection q
theorem Zc.za{U U':Mem}(h:Sub U U'){a:Addr}{i:Sa}(q:Zc U a i):Zc U' a i:=Aa (fun b e=>⟨b,h _ _ e⟩) q
theorem Wj.za{U U':Mem}(h:Sub U U'){a:Addr}{i:En}(q:Wj U a i):Wj U' a i:=Aa (fun b e=>⟨b,h _ _ e⟩) q
theorem jd.za{U U':Mem}(h:Sub U U'){b:Addr}{n:Nat}{B:xd}(q:jd U b n B):jd U' b n B:=
 ⟨Df (fun sv e as a c f g=>Jj sv e as (h _ _ a) (h.lv c) (f.za fun i i=>Zc.za h) (g.za h)) q.ex⟩
theorem Dc.za{U U':Mem}(h:Sub U U'):∀{n:Nat}{bs:List Addr}{P:List xd},Dc U n bs P->Dc U' n bs P:=by
 intro e f;induction f generalizing e with
 |nil=>
  intro c h;rcases c with _|⟨g,i⟩
  ·exact trivial
  ·exact h.elim
 |cons j l p=>
  intro c h;rcases c with _|⟨m,o⟩
  ·exact h.elim
  ·obtain⟨a,b⟩:=h;exact⟨a.za h,p b⟩
theorem Ce.za{U U':Mem}(h:Sub U U'){F J:Addr}{ps:List Nat}{hv:Bool}{Z:Nat}{bs:List Addr}{P:List xd}(q:Ce U F J ps hv Z bs P):Ce U' F J ps hv Z bs P:=
 ⟨h _ _ q.f,h _ _ q.bl,q.jc.za h⟩
theorem Dc.Pn{U:Mem}:∀{n i:Nat}{bs:List Addr}{P:List xd}{B:xd},Dc U n bs P->P[i]?=some B->∃b,bs[i]?=some b∧jd U b (n+i) B:=by
 intro n f;induction f generalizing n with
 |zero=>
  intro c a B h e;rcases c with _|⟨b,bs⟩
  ·rcases a with _|⟨g,j⟩
   ·injection e
   ·exact h.elim
  ·rcases a with _|⟨o,P⟩
   ·exact h.elim
   ·obtain⟨h,_⟩:=h;replace e:=Bb e;refine Cb e ?_;exact⟨b,rfl,h⟩
 |succ i p=>
  intro c a B h e;rcases c with _|⟨b,bs⟩
  ·rcases a with _|⟨l,m⟩
   ·injection e
   ·exact h.elim
  ·rcases a with _|⟨o,P⟩
   ·exact h.elim
   ·obtain⟨_,h⟩:=h;refine ya (fun q s t=>?_)<|p (n:=n+1) h (by exact e);exact⟨q,by exact s,by exact show n+(i+1)=n+1+i by omega▸t⟩
theorem Dc.Pd{U:Mem}:∀{n:Nat}{bs:List Addr}{P:List xd},Dc U n bs P->bs.length=P.length:=by
 intro c e;induction e generalizing c with
 |nil=>
  intro a h;rcases a with _|⟨f,g⟩
  ·exact rfl
  ·exact h.elim
 |cons i j o=>
  intro a h;rcases a with _|⟨l,m⟩
  ·exact h.elim
  ·obtain⟨_,b⟩:=h;simp[o b]
theorem ye.Pd{e f:Type}{R:e->f->Prop}:∀{l:List e}{m:List f},ye R l m->l.length=m.length:=by
 intro c;induction c with
 |nil=>
  intro a h;rcases a with _|⟨g,i⟩
  ·exact rfl
  ·exact h.elim
 |cons j n q=>
  intro a h;rcases a with _|⟨o,p⟩
  ·exact h.elim
  ·obtain⟨_,b⟩:=h;simp[q b]
theorem ye.Pn{o n:Type}{R:o->n->Prop}:∀{l:List o}{m:List n}{i:Nat}{y:n},ye R l m->m[i]?=some y->∃x,l[i]?=some x∧R x y:=by
 intro f j;induction j generalizing f with
 |nil=>
  intro g z h e;rcases f with _|⟨p,q⟩
  ·injection e
  ·exact h.elim
 |cons y m s=>
  intro g z h e;rcases f with _|⟨x,l⟩
  ·exact h.elim
  ·rcases g with _|i
   ·obtain⟨h,_⟩:=h;simp at e;subst e;exact⟨x,rfl,h⟩
   ·obtain⟨_,h⟩:=h;refine ya (fun a b c=>?_)<|s h (i:=i) (by exact e);exact⟨a,by exact b,c⟩
theorem ye.append{o p:Type}{R:o->p->Prop}:∀{l l':List o}{m m':List p},ye R l m->ye R l' m'->ye R (l++l') (m++m'):=by
 intro f;induction f with
 |nil=>
  intro g c i h e;rcases c with _|⟨q,s⟩
  ·exact e
  ·exact h.elim
 |cons t u v=>
  intro g c i h e;rcases c with _|⟨j,n⟩
  ·exact h.elim
  ·obtain⟨a,b⟩:=h;exact⟨a,v b e⟩
theorem ye.take{c e:Type}{R:c->e->Prop}:∀{l:List c}{m:List e}(i:Nat),ye R l m->ye R (l.take i) (m.take i)
 |_,_,0,_=>by exact trivial
 | [],[],_+1,_=>by assumption
 |_::_,_::_,i+1,⟨a,b⟩=>⟨a,b.take i⟩
 | [],_::_,_+1,h=>h.elim
 |_::_,[],_+1,h=>h.elim
theorem ye.drop{a c:Type}{R:a->c->Prop}:∀{l:List a}{m:List c}(i:Nat),ye R l m->ye R (l.drop i) (m.drop i)
 |_,_,0,h=>by exact h
 | [],[],_+1,_=>by assumption
 |_::_,_::_,i+1,⟨_,b⟩=>by simpa using b.drop i
 | [],_::_,_+1,h=>h.elim
 |_::_,[],_+1,h=>h.elim
@[elab_as_elim]theorem DI{P:Nat->Prop}{n:Nat}(h:n<3)(a:P 0)(b:P 1)(c:P 2):P n:=by
 rcases n with _|_|_|n
 ·exact a
 ·exact b
 ·exact c
 ·exact absurd h (Nat.not_lt.mpr (Nat.le_add_left 3 n))
@[elab_as_elim]theorem vy{P:Nat->Prop}{n:Nat}(h:n<4)(a:P 0)(b:P 1)(c:P 2)(e:P 3):P n:=by
 rcases n with _|n
 ·exact a
 ·exact DI (P:=fun n=>P (n+1)) (Nat.lt_of_succ_lt_succ h) b c e
@[elab_as_elim]theorem rB{P:Nat->Prop}{n:Nat}(h:n<7)(a:P 0)(b:P 1)(c:P 2)(e:P 3)(f:P 4)(g:P 5)(i:P 6):P n:=by
 rcases n with _|_|_|n
 ·exact a
 ·exact b
 ·exact c
 ·exact vy (P:=fun n=>P (n+3)) (Nat.lt_of_succ_lt_succ (Nat.lt_of_succ_lt_succ (Nat.lt_of_succ_lt_succ h))) e f g i
@[elab_as_elim]theorem oI{P:Nat->Prop}{n:Nat}(h:n<10)(a:P 0)(b:P 1)(c:P 2)(e:P 3)(f:P 4)(g:P 5)(i:P 6)(j:P 7)(l:P 8)(m:P 9):P n:=by
 rcases n with _|_|_|n
 ·exact a
 ·exact b
 ·exact c
 ·exact rB (P:=fun n=>P (n+3)) (Nat.lt_of_succ_lt_succ (Nat.lt_of_succ_lt_succ (Nat.lt_of_succ_lt_succ h))) e f g i j l m
theorem TK{m m' w n:Nat}(e:m'+1=m)(q:2*m+w<n):2*m'+(w+1)<n:=by rw[← e,Nat.mul_succ,Nat.add_assoc,Nat.add_comm 2 w]at q;exact Nat.lt_trans (Nat.add_lt_add_left (Nat.lt_succ_self (w+1)) _) q
theorem nL{N S w n:Nat}(h:S+1≤N)(q:2*(N - S)+w<n):2*(N - (S+1))+(w+1)<n:=
 TK (Nat.succ_pred_eq_of_pos (Nat.sub_pos_of_lt h)) q
noncomputable def Fn.CC:List Str:="__init__"::"__init__"::"__init__"::"followers"::"check_operand"::"wanted_args"::"check_more"::"check_step"::"check_end"::"set_at_ends"::"check_set"::"check_func"::"told_registers"::"is_told"::"leaves_by"::"keeps_slots"::"end_behind"::"is_own_call"::"last_call"::"is_given"::"taken_aside"::"set_params"::"lead_back"::"loop_tails"::"_law_draw"::"_law_row"::"_law_rows"::"_law_handed"::"_law_calling"::"_law_program"::"_law_made"::"_law_read"::"_law_comes_from_slot"::"_law_slot_gets_out"::"_law_place"::"_law_is_led_back"::"_law_result"::"_law_walk"::"law"::[]
noncomputable def Fn.str(f:Fn):Str:=Fn.CC.getD f.val ""
noncomputable def Fn.plain(f:Fn):Bool:=decide (2<f.val)
noncomputable def Cl.str(c:Cl):Str:=(["Step","Block","Func"]:List Str).getD c.val ""
noncomputable def Gi.str(c:Gi):Str:=(["MASK","_law_SIZE","_law_OBJECT"]:List Str).getD (Fin.val c) ""
noncomputable def Gd.str(c:Gd):Str:=(["BINARY","UNARY","ENDS"]:List Str).getD c.val ""
noncomputable def seq(a b:Str):Bool:=decide (a=b)
noncomputable def kf(C:Scope)(n:Str)(k:NameKind):Bool:=match C.names.lookup n with
 |some a=>decide (a=k)
 |none=>false
noncomputable def Jg(C:Scope)(n:Str):Bool:=kf C n .globalImplicit
noncomputable def Nd(n:Str):Bool:=!(n==("__debug__" : Str))
noncomputable def Rl(d:List Str)(C:Scope)(i:Nat)(n:Str):Bool:=(match d[i]? with|some m=>seq m n|none=>false)&&(kf C n .local||kf C n .cell)&&Nd n
noncomputable def Nh(x:Expr):Bool:=!decide (x.ctorIdx=16)
noncomputable def yr(x:Expr):Bool:=decide (x.ctorIdx=7)
noncomputable def Qh(scope C:Scope):Scope:={scope with names:=scope.names.map fun(n,k)=>if(k==.free&&C.kind==.function&&C.names.lookup n==some .cell)then(n,.cell)else(n,k)}
mutual
noncomputable def zv:Tg->List Nat
 | .nm i=>[i]
 | .tp ts=>Yw ts
noncomputable def Yw:List Tg->List Nat
 | []=>[]
 |t::ts=>zv t++Yw ts
end
noncomputable def bH(d:List Str)(scope:Scope)(is:List Nat):Nat->List Str->Bool
 |_,[]=>true
 |i,n::ns=>(!kf scope n .local||is.contains i)&&bH d scope is (i+1) ns
noncomputable def Ys(d:List Str)(t:Tg)(scope C:Scope):Bool:=
 decide (scope.kind=.function)&&decide (C.names.lookup (".0" : Str)=none)&&kf scope ".0" .local&&bH d scope (zv t) 0 d&&(zv t).all (fun i=>match d[i]? with|some n=>kf scope n .local|none=>false)&&scope.names.all fun(n,k)=>
  (match k with
   | .local=>kf scope n .local&&!kf C n .cell
   | .free=>kf C n .cell
   | .globalImplicit=>true
   |_=>false)
theorem Eb{a b:Bool}(h:(a&&b)=true):a=true∧b=true:=(Bool.and_eq_true a b).mp h
theorem Qd{c:Prop}[Decidable c]{f:c->Bool}(H:(if h:c then f h else false)=true):∃h,f h=true:=by
 by_cases h:c
 ·rw[dif_pos h]at H;exact⟨h,H⟩
 ·rw[dif_neg h]at H;exact(Fc H).elim
noncomputable def zl(x:Expr)(K:Str->Pos->Bool):Bool:=if h:x.ctorIdx=23 then Expr.Name.elim (motive_1:=fun a=>Bool) x h K else false
theorem gf{R:Expr->Prop}{x:Expr}{K:Str->Pos->Bool}(H:zl x K=true)(F:∀n p,K n p=true->R (.Name n p)):R x:=
 (Qd H).elim fun h H=>Expr.Name.elim (motive_1:=fun y=>∀h:y.ctorIdx=23,Expr.Name.elim (motive_1:=fun a=>Bool) y h K=true->R y) x h (fun n p a H=>F n p H) h H
noncomputable def Wl(x:Expr)(K:Const->Nat->Pos->Bool):Bool:=if h:x.ctorIdx=19 then Expr.Constant.elim (motive_1:=fun a=>Bool) x h K else false
theorem gh{R:Expr->Prop}{x:Expr}{K:Const->Nat->Pos->Bool}(H:Wl x K=true)(F:∀c k p,K c k p=true->R (.Constant c k p)):R x:=
 (Qd H).elim fun h H=>Expr.Constant.elim (motive_1:=fun y=>∀h:y.ctorIdx=19,Expr.Constant.elim (motive_1:=fun a=>Bool) y h K=true->R y) x h (fun c k p a H=>F c k p H) h H
noncomputable def lF(x:Expr)(K:List Expr->Nat->Pos->Bool):Bool:=if h:x.ctorIdx=25 then Expr.Tuple.elim (motive_1:=fun a=>Bool) x h K else false
theorem Zl{R:Expr->Prop}{x:Expr}{K:List Expr->Nat->Pos->Bool}(H:lF x K=true)(F:∀es k p,K es k p=true->R (.Tuple es k p)):R x:=
 (Qd H).elim fun h H=>Expr.Tuple.elim (motive_1:=fun y=>∀h:y.ctorIdx=25,Expr.Tuple.elim (motive_1:=fun a=>Bool) y h K=true->R y) x h (fun es k p a H=>F es k p H) h H
noncomputable def OF(x:Expr)(K:List Expr->Pos->Bool):Bool:=if h:x.ctorIdx=24 then Expr.List.elim (motive_1:=fun a=>Bool) x h K else false
theorem Fz{R:Expr->Prop}{x:Expr}{K:List Expr->Pos->Bool}(H:OF x K=true)(F:∀es p,K es p=true->R (.List es p)):R x:=
 (Qd H).elim fun h H=>Expr.List.elim (motive_1:=fun y=>∀h:y.ctorIdx=24,Expr.List.elim (motive_1:=fun a=>Bool) y h K=true->R y) x h (fun es p a H=>F es p H) h H
noncomputable def aG(x:Expr)(K:List (Option Expr)->List Expr->Pos->Bool):Bool:=if h:x.ctorIdx=6 then Expr.Dict.elim (motive_1:=fun a=>Bool) x h K else false
theorem Py{R:Expr->Prop}{x:Expr}{K:List (Option Expr)->List Expr->Pos->Bool}(H:aG x K=true)(F:∀ks vs p,K ks vs p=true->R (.Dict ks vs p)):R x:=
 (Qd H).elim fun h H=>Expr.Dict.elim (motive_1:=fun y=>∀h:y.ctorIdx=6,Expr.Dict.elim (motive_1:=fun a=>Bool) y h K=true->R y) x h (fun ks vs p a H=>F ks vs p H) h H
noncomputable def Cx(x:Expr)(K:Expr->Str->Pos->Bool):Bool:=if h:x.ctorIdx=20 then Expr.Attribute.elim (motive_1:=fun a=>Bool) x h K else false
theorem yn{R:Expr->Prop}{x:Expr}{K:Expr->Str->Pos->Bool}(H:Cx x K=true)(F:∀v n p,K v n p=true->R (.Attribute v n p)):R x:=
 (Qd H).elim fun h H=>Expr.Attribute.elim (motive_1:=fun y=>∀h:y.ctorIdx=20,Expr.Attribute.elim (motive_1:=fun a=>Bool) y h K=true->R y) x h (fun v n p a H=>F v n p H) h H
noncomputable def LB(x:Expr)(K:Expr->Expr->Pos->Bool):Bool:=if h:x.ctorIdx=21 then Expr.Subscript.elim (motive_1:=fun a=>Bool) x h K else false
theorem Lm{R:Expr->Prop}{x:Expr}{K:Expr->Expr->Pos->Bool}(H:LB x K=true)(F:∀v s p,K v s p=true->R (.Subscript v s p)):R x:=
 (Qd H).elim fun h H=>Expr.Subscript.elim (motive_1:=fun y=>∀h:y.ctorIdx=21,Expr.Subscript.elim (motive_1:=fun a=>Bool) y h K=true->R y) x h (fun v s p a H=>F v s p H) h H
noncomputable def ow(x:Expr)(K:Option Expr->Option Expr->Option Expr->Pos->Bool):Bool:=if h:x.ctorIdx=26 then Expr.Slice.elim (motive_1:=fun a=>Bool) x h K else false
theorem xq{R:Expr->Prop}{x:Expr}{K:Option Expr->Option Expr->Option Expr->Pos->Bool}(H:ow x K=true)(F:∀l h s p,K l h s p=true->R (.Slice l h s p)):R x:=
 (Qd H).elim fun h H=>Expr.Slice.elim (motive_1:=fun y=>∀h:y.ctorIdx=26,Expr.Slice.elim (motive_1:=fun a=>Bool) y h K=true->R y) x h (fun l h s p a H=>F l h s p H) h H
noncomputable def tG(x:Expr)(K:Expr->Operator->Expr->Pos->Bool):Bool:=if h:x.ctorIdx=2 then Expr.BinOp.elim (motive_1:=fun a=>Bool) x h K else false
theorem Gu{R:Expr->Prop}{x:Expr}{K:Expr->Operator->Expr->Pos->Bool}(H:tG x K=true)(F:∀l o r p,K l o r p=true->R (.BinOp l o r p)):R x:=
 (Qd H).elim fun h H=>Expr.BinOp.elim (motive_1:=fun y=>∀h:y.ctorIdx=2,Expr.BinOp.elim (motive_1:=fun a=>Bool) y h K=true->R y) x h (fun l o r p a H=>F l o r p H) h H
noncomputable def zE(x:Expr)(K:Expr->List CmpOp->List Expr->Pos->Bool):Bool:=if h:x.ctorIdx=15 then Expr.Compare.elim (motive_1:=fun a=>Bool) x h K else false
theorem Cp{R:Expr->Prop}{x:Expr}{K:Expr->List CmpOp->List Expr->Pos->Bool}(H:zE x K=true)(F:∀l a b p,K l a b p=true->R (.Compare l a b p)):R x:=
 (Qd H).elim fun h H=>Expr.Compare.elim (motive_1:=fun y=>∀h:y.ctorIdx=15,Expr.Compare.elim (motive_1:=fun c=>Bool) y h K=true->R y) x h (fun l a b p c H=>F l a b p H) h H
noncomputable def kC(x:Expr)(K:BoolOp->List Expr->Pos->Bool):Bool:=if h:x.ctorIdx=0 then Expr.BoolOp.elim (motive_1:=fun a=>Bool) x h K else false
theorem Av{R:Expr->Prop}{x:Expr}{K:BoolOp->List Expr->Pos->Bool}(H:kC x K=true)(F:∀o xs p,K o xs p=true->R (.BoolOp o xs p)):R x:=
 (Qd H).elim fun h H=>Expr.BoolOp.elim (motive_1:=fun y=>∀h:y.ctorIdx=0,Expr.BoolOp.elim (motive_1:=fun a=>Bool) y h K=true->R y) x h (fun o xs p a H=>F o xs p H) h H
noncomputable def GK(x:Expr)(K:UnaryOp->Expr->Pos->Bool):Bool:=if h:x.ctorIdx=3 then Expr.UnaryOp.elim (motive_1:=fun a=>Bool) x h K else false
theorem Px{R:Expr->Prop}{x:Expr}{K:UnaryOp->Expr->Pos->Bool}(H:GK x K=true)(F:∀o y p,K o y p=true->R (.UnaryOp o y p)):R x:=
 (Qd H).elim fun h H=>Expr.UnaryOp.elim (motive_1:=fun y=>∀h:y.ctorIdx=3,Expr.UnaryOp.elim (motive_1:=fun a=>Bool) y h K=true->R y) x h (fun o y p a H=>F o y p H) h H
noncomputable def nI(x:Expr)(K:Expr->Expr->Expr->Pos->Bool):Bool:=if h:x.ctorIdx=5 then Expr.IfExp.elim (motive_1:=fun a=>Bool) x h K else false
theorem NA{R:Expr->Prop}{x:Expr}{K:Expr->Expr->Expr->Pos->Bool}(H:nI x K=true)(F:∀t y z p,K t y z p=true->R (.IfExp t y z p)):R x:=
 (Qd H).elim fun h H=>Expr.IfExp.elim (motive_1:=fun y=>∀h:y.ctorIdx=5,Expr.IfExp.elim (motive_1:=fun a=>Bool) y h K=true->R y) x h (fun t y z p a H=>F t y z p H) h H
noncomputable def Iu(x:Expr)(K:Expr->List Expr->List Keyword->Pos->Bool):Bool:=if h:x.ctorIdx=16 then Expr.Call.elim (motive_1:=fun a=>Bool) x h K else false
theorem Zk{R:Expr->Prop}{x:Expr}{K:Expr->List Expr->List Keyword->Pos->Bool}(H:Iu x K=true)(F:∀f as ks p,K f as ks p=true->R (.Call f as ks p)):R x:=
 (Qd H).elim fun h H=>Expr.Call.elim (motive_1:=fun y=>∀h:y.ctorIdx=16,Expr.Call.elim (motive_1:=fun a=>Bool) y h K=true->R y) x h (fun f as ks p a H=>F f as ks p H) h H
noncomputable def VA(x:Expr)(K:Expr->List Comprehension->Scope->Pos->Bool):Bool:=if h:x.ctorIdx=8 then Expr.ListComp.elim (motive_1:=fun a=>Bool) x h K else false
theorem Zr{R:Expr->Prop}{x:Expr}{K:Expr->List Comprehension->Scope->Pos->Bool}(H:VA x K=true)(F:∀y a C p,K y a C p=true->R (.ListComp y a C p)):R x:=
 (Qd H).elim fun h H=>Expr.ListComp.elim (motive_1:=fun y=>∀h:y.ctorIdx=8,Expr.ListComp.elim (motive_1:=fun b=>Bool) y h K=true->R y) x h (fun y a C p b H=>F y a C p H) h H
noncomputable def l1{b:Type}(l:List b)(k:b->Bool):Bool:=match l with
 | []=>false
 |a::r=>r.isEmpty&&k a
theorem Vg{b:Type}{R:List b->Prop}{l:List b}{k:b->Bool}(h:l1 l k=true)(f:∀a,k a=true->R [a]):R l:=by
 induction l with
 |nil=>exact(Fc h).elim
 |cons a r=>induction r with
  |nil=>exact f a h
  |cons=>exact(Fc h).elim
noncomputable def l2{b:Type}(l:List b)(k:b->b->Bool):Bool:=match l with
 | []=>false
 |a::r=>l1 r (k a)
theorem Zt{c:Type}{R:List c->Prop}{l:List c}{k:c->c->Bool}(h:l2 l k=true)(f:∀a b,k a b=true->R [a,b]):R l:=by
 induction l with
 |nil=>exact(Fc h).elim
 |cons a r=>exact Vg (R:=fun r=>R (a::r)) h (f a)
noncomputable def l0{a:Type}(l:List a)(k:Bool):Bool:=match l with
 | []=>k
 |_::_=>false
theorem kj{a:Type}{R:List a->Prop}{l:List a}{k:Bool}(h:l0 l k=true)(f:k=true->R []):R l:=by
 induction l with
 |nil=>exact f h
 |cons=>exact(Fc h).elim
noncomputable def o1{b:Type}(l:Option b)(k:b->Bool):Bool:=match l with
 |some a=>k a
 |none=>false
theorem Mw{b:Type}{R:Option b->Prop}{l:Option b}{k:b->Bool}(h:o1 l k=true)(f:∀a,k a=true->R (some a)):R l:=by
 induction l with
 |some a=>exact f a h
 |none=>exact(Fc h).elim
noncomputable def o0{a:Type}(l:Option a)(k:Bool):Bool:=match l with
 |some _=>false
 |none=>k
theorem Js{a:Type}{R:Option a->Prop}{l:Option a}{k:Bool}(h:o0 l k=true)(f:k=true->R none):R l:=by
 induction l with
 |none=>exact f h
 |some=>exact(Fc h).elim
noncomputable def HD{c:Type}[DecidableEq c](a b:c)(k:Bool):Bool:=decide (a=b)&&k
theorem Ti{c:Type}[DecidableEq c]{a b:c}{k:Bool}{R:c->Prop}(h:HD a b k=true)(f:k=true->R b):R a:=by refine aa (Ub (Eb h).1) ?_;exact f (Eb h).2
noncomputable def MG(x:Const)(K:Int->Bool):Bool:=if h:x.ctorIdx=2 then Const.int.elim (motive:=fun a=>Bool) x h K else false
theorem Qu{R:Const->Prop}{x:Const}{K:Int->Bool}(H:MG x K=true)(F:∀j,K j=true->R (.int j)):R x:=
 (Qd H).elim fun h H=>Const.int.elim (motive:=fun y=>∀h:y.ctorIdx=2,Const.int.elim (motive:=fun a=>Bool) y h K=true->R y) x h (fun j a H=>F j H) h H
noncomputable def pI(x:Const)(K:Str->Bool):Bool:=if h:x.ctorIdx=5 then Const.str.elim (motive:=fun a=>Bool) x h K else false
theorem Wz{R:Const->Prop}{x:Const}{K:Str->Bool}(H:pI x K=true)(F:∀j,K j=true->R (.str j)):R x:=
 (Qd H).elim fun h H=>Const.str.elim (motive:=fun y=>∀h:y.ctorIdx=5,Const.str.elim (motive:=fun a=>Bool) y h K=true->R y) x h (fun j a H=>F j H) h H
noncomputable def pB(x:Const)(K:Bool->Bool):Bool:=if h:x.ctorIdx=1 then Const.bool.elim (motive:=fun a=>Bool) x h K else false
theorem Qr{R:Const->Prop}{x:Const}{K:Bool->Bool}(H:pB x K=true)(F:∀j,K j=true->R (.bool j)):R x:=
 (Qd H).elim fun h H=>Const.bool.elim (motive:=fun y=>∀h:y.ctorIdx=1,Const.bool.elim (motive:=fun a=>Bool) y h K=true->R y) x h (fun j a H=>F j H) h H
noncomputable def cG(c:Const):Bool:=decide (c.ctorIdx=0)
theorem zz{R:Const->Prop}{c:Const}(h:cG c=true)(f:R .none):R c:=Const.none.elim (motive:=R) c (Ub h) f
noncomputable def Uw(x:Expr)(o:BoolOp)(k:List Expr->Bool):Bool:=kC x fun a xs b=>HD a o (k xs)
theorem lq{R:Expr->Prop}{x:Expr}{o:BoolOp}{k:List Expr->Bool}(h:Uw x o k=true)(f:∀xs p,k xs=true->R (.BoolOp o xs p)):R x:=
 Av h fun a xs p h=>Ti (R:=fun o=>R (.BoolOp o xs p)) h (f xs p)
noncomputable def sI:Tg->Bool
 | .tp _=>true
 |_=>false
mutual
noncomputable def ak(d:List Str)(C:Scope):Tg->Expr->Bool
 | .nm i,x=>zl x fun n a=>Rl d C i n
 | .tp ts,x=>lF x fun es a a=>qr d C ts es
noncomputable def qr(d:List Str)(C:Scope):List Tg->List Expr->Bool
 | [],[]=>true
 |t::ts,e::es=>ak d C t e&&qr d C ts es
 |_,_=>false
end
noncomputable def eI(C:Scope)(name n:Str):Bool:=seq n name&&(Jg C n&&Nd n)
noncomputable def Lw(C:Scope)(name:Str)(x:Expr)(k:List Expr->Bool):Bool:=Iu x fun f as ks a=>zl f fun n a=>l0 ks (eI C name n&&k as)
noncomputable def Bg(C:Scope)(name:Str)(x:Expr)(k:Expr->Bool):Bool:=Iu x fun f as ks b=>zl f fun n b=>l1 as fun a=>l0 ks (eI C name n&&k a)
noncomputable def Ik(C:Scope)(name:Str)(x:Expr)(k:Expr->Expr->Bool):Bool:=Iu x fun f as ks c=>zl f fun n c=>l2 as fun a b=>l0 ks (eI C name n&&k a b)
noncomputable def nu(name:Str)(x:Expr)(k:Expr->List Expr->Bool):Bool:=Iu x fun f as ks pos=>Cx f fun o n a=>l0 ks (seq n name&&((Nh o&&(a.endLine==pos.line))&&k o as))
noncomputable def cH(d:List Str)(C:Scope)(t:Tg)(x:Expr)(k:Expr->Expr->Expr->List Expr->Scope->Bool):Bool:=VA x fun y a scope b=>l1 a fun g=>HD g.is_async 0 (Ys d t scope C&&((!yr g.iter)&&k y g.iter g.target g.ifs (Qh scope C)))
mutual
noncomputable def Va(d:List Str)(C:Scope):E->Expr->Bool
 | .var i,x=>zl x fun n p=>Rl d C i n
 | .int i,x=>Wl x (fun c p p=>MG c fun j=>decide (i=j))||GK x fun o y p=>HD o .USub (Wl y fun c p p=>MG c fun j=>decide (i = -j))
 | .str w,x=>Wl x fun c p p=>pI c fun s=>seq s w.str
 | .tt,x=>Wl x fun c p p=>pB c fun b=>b
 | .ff,x=>Wl x fun c p p=>pB c fun b=>!b
 | .none,x=>Wl x fun c p p=>cG c
 | .Tj g,x=>zl x fun n p=>seq n g.str&&Jg C n&&Nd n
 | .Ba es,x=>lF x fun xs p p=>decide (es.length<1000)&&Ei d C es xs
 | .xb _ es,x=>OF x fun xs p=>decide (es.length<1000)&&Ei d C es xs
 | .dict es,x=>aG x fun ks vs p=>decide (es.length<20)&&lx d C es ks vs
 | .ma e a,x=>Cx x fun v n p=>seq n a.str&&Nh v&&Va d C e v
 | .Ma e i,x=>LB x fun v s p=>Va d C e v&&Va d C i s
 | .wh e H,x=>LB x fun v s p=>ow s fun l h s p=>o1 l fun l=>o0 h (o0 s (Va d C e v&&Va d C H l))
 | .gr e K,x=>LB x fun v s p=>ow s fun l h s p=>o0 l (o1 h fun h=>o0 s (Va d C e v&&Va d C K h))
 | .Fd D a b,x=>tG x fun l o r p=>decide (D=o)&&Va d C a l&&Va d C b r
 | .ta D a b,x=>zE x fun l B q p=>l1 B fun o=>l1 q fun r=>HD o D (Va d C a l&&Va d C b r)
 | .Pg o1 L a b c,x=>zE x fun l B q p=>l2 B fun M N=>l2 q fun O P=>HD M o1 (HD N L (Va d C a l&&(Va d C b O&&Va d C c P)))
 | .and es,x=>Uw x .And fun xs=>!es.isEmpty&&Ei d C es xs
 | .or es,x=>Uw x .Or fun xs=>!es.isEmpty&&Ei d C es xs
 | .not e,x=>GK x fun o y p=>HD o .Not (Va d C e y)
 | .ite c a b,x=>nI x fun t y z p=>Va d C c t&&Va d C a y&&Va d C b z
 | .call f es,x=>Lw C f.str x fun xs=>f.plain&&(!es.isEmpty&&(decide (es.length<15)&&Ei d C es xs))
 | .new c es,x=>Lw C c.str x fun xs=>!es.isEmpty&&(decide (es.length<15)&&Ei d C es xs)
 | .Pd e,x=>Bg C "len" x fun a=>Va d C e a
 | .mf e,x=>Bg C "list" x fun a=>Va d C e a
 | .Pk e,x=>Bg C "set" x fun a=>Va d C e a
 | .xk e,x=>Bg C "str" x fun a=>Va d C e a
 | .all e,x=>Bg C "all" x fun a=>Va d C e a
 | .Nj e,x=>Ik C "isinstance" x fun a b=>Va d C e a&&zl b fun n p=>seq n "bool"&&Jg C n&&Nd n
 | .max e F,x=>Ik C "max" x fun a b=>Va d C e a&&Va d C F b
 | .Th e F,x=>Bg C "dict" x fun y=>Ik C "zip" y fun a b=>Va d C e a&&Va d C F b
 | .rr a b,x=>tG x fun l o r p=>decide (o=.Add)&&Va d C a l&&Va d C b r
 | .append o e,x=>nu "append" x fun y as=>Va d C o y&&l1 as fun a=>Va d C e a
 | .Ez o,x=>nu "pop" x fun y as=>Va d C o y&&as.isEmpty
 | .Sm o e,x=>nu "index" x fun y as=>Va d C o y&&l1 as fun a=>Va d C e a
 | .Yl o e,x=>nu "count" x fun y as=>Va d C o y&&l1 as fun a=>Va d C e a
 | .Bf o e,x=>nu "add" x fun y as=>Va d C o y&&l1 as fun a=>Va d C e a
 | .Su o k m,x=>nu "pop" x fun y as=>Va d C o y&&l2 as fun a b=>Va d C k a&&Va d C m b
 | .Ay G e g,x=>zE x fun l B q p=>l1 B fun o=>l1 q fun r=>HD o (if G=true then .NotIn else .In) (zl r fun n p=>Va d C e l&&eI C g.str n)
 | .comp _ t it elt,x=>cH d C t x fun y u tg A q=>l0 A (Eo d C it u t&&(ak d q t tg&&Va d q elt y))
 | .Jf _ t it c elt,x=>cH d C t x fun y u tg A q=>l1 A fun f=>Eo d C it u t&&(ak d q t tg&&(Va d q c f&&Va d q elt y))
 | .Eh e,x=>Va d C e x
noncomputable def Ei(d:List Str)(C:Scope):List E->List Expr->Bool
 | [],[]=>true
 |e::es,x::xs=>Va d C e x&&Ei d C es xs
 |_,_=>false
noncomputable def lx(d:List Str)(C:Scope):List E->List (Option Expr)->List Expr->Bool
 | [],[],[]=>true
 |k::v::es,some x::ks,y::vs=>Va d C k x&&Va d C v y&&lx d C es ks vs
 |_,_,_=>false
noncomputable def Eo(d:List Str)(C:Scope):It->Expr->Tg->Bool
 | .seq e,x,_=>Va d C e x
 | .fj e,x,t=>sI t&&Bg C "enumerate" x fun a=>Va d C e a
 | .zip e c,x,t=>sI t&&Ik C "zip" x fun a b=>Va d C e a&&Va d C c b
 | .range e,x,_=>Bg C "range" x fun a=>Va d C e a
end
theorem Rh{a b:Str}(h:seq a b=true):a=b:=Ub h
theorem ip{C:Scope}{name n:Str}(h:eI C name n=true):n=name∧Jg C name=true∧Nd name=true:=by obtain rfl:=Rh (Eb h).1;exact⟨rfl,Eb (Eb h).2⟩
theorem wq{R:Expr->Prop}{C:Scope}{name:Str}{x:Expr}{k:List Expr->Bool}(h:Lw C name x k=true)(f:∀p as pos,Jg C name=true->Nd name=true->k as=true->R (.Call (.Name name p) as [] pos)):R x:=
 Zk h fun g as ks pos h=>gf (R:=fun g=>R (.Call g as ks pos)) h fun n p h=>kj (R:=fun ks=>R (.Call _ as ks pos)) h fun h=>by obtain⟨e,a,b⟩:=ip (Eb h).1;refine aa e ?_;exact f p as pos a b (Eb h).2
section
variable{d:List Str}{C:Scope}{R:Expr->Prop}{x:Expr}
theorem jb{a b:Bool}{R:Prop}(h:(a&&b)=true)(f:a=true->b=true->R):R:=f (Eb h).1 (Eb h).2
theorem sg{name:Str}{k:Expr->Bool}(H:Bg C name x k=true)(F:∀p a pos,Jg C name=true->Nd name=true->k a=true->R (.Call (.Name name p) [a] [] pos)):R x:=
 Zk H fun g as ks pos H=>gf (R:=fun g=>R (.Call g as ks pos)) H fun n p H=>Vg (R:=fun as=>R (.Call (.Name n p) as ks pos)) H fun a H=>kj (R:=fun ks=>R (.Call _ [a] ks pos)) H fun H=>by refine jb H fun b H=>?_;obtain⟨e,c,f⟩:=ip b;refine aa e ?_;exact F p a pos c f H
theorem Wk{name:Str}{k:Expr->Expr->Bool}(H:Ik C name x k=true)(F:∀p a b pos,Jg C name=true->Nd name=true->k a b=true->R (.Call (.Name name p) [a,b] [] pos)):R x:=
 Zk H fun g as ks pos H=>gf (R:=fun g=>R (.Call g as ks pos)) H fun n p H=>Zt (R:=fun as=>R (.Call (.Name n p) as ks pos)) H fun a b H=>kj (R:=fun ks=>R (.Call _ [a,b] ks pos)) H fun H=>by refine jb H fun c H=>?_;obtain⟨e,f,h⟩:=ip c;refine aa e ?_;exact F p a b pos f h H
theorem kq{name:Str}{k:Expr->Bool}{m:List Expr->Bool}(H:nu name x (fun y as=>k y&&m as)=true)(F:∀o a as pos,Nh o=true->(a.endLine==pos.line)=true->k o=true->m as=true->R (.Call (.Attribute o name a) as [] pos)):R x:=
 Zk H fun g as ks pos H=>yn (R:=fun g=>R (.Call g as ks pos)) H fun o n q H=>kj (R:=fun ks=>R (.Call _ as ks pos)) H fun H=>by refine jb H fun c H=>jb H fun b H=>jb b fun b e=>jb H fun f h=>?_;refine aa (Rh c) ?_;exact F o q as pos b e f h
theorem il{name:Str}{k m:Expr->Bool}(H:nu name x (fun y as=>k y&&l1 as m)=true)(F:∀o b a pos,Nh o=true->(b.endLine==pos.line)=true->k o=true->m a=true->R (.Call (.Attribute o name b) [a] [] pos)):R x:=
 kq H fun o q as pos c e f H=>Vg (R:=fun as=>R (.Call _ as _ pos)) H fun a g=>F o q a pos c e f g
theorem vD{e:CmpOp}{a b:E}(H:Va d C (.ta e a b) x=true)(F:∀l r p,Va d C a l=true->Va d C b r=true->R (.Compare l [e] [r] p)):R x:=
 Cp H fun l f c p H=>Vg (R:=fun f=>R (.Compare l f c p)) H fun o H=>Vg (R:=fun c=>R (.Compare l [o] c p)) H fun r H=>Ti (R:=fun o=>R (.Compare l [o] [r] p)) H fun H=>jb H (F l r p)
theorem oB{o1 h:CmpOp}{a b c:E}(H:Va d C (.Pg o1 h a b c) x=true)(F:∀l e f p,Va d C a l=true->Va d C b e=true->Va d C c f=true->R (.Compare l [o1,h] [e,f] p)):R x:=
 Cp H fun l i g p H=>Zt (R:=fun i=>R (.Compare l i g p)) H fun m j H=>Zt (R:=fun g=>R (.Compare l [m,j] g p)) H fun e f H=>Ti (R:=fun o=>R (.Compare l [o,j] [e,f] p)) H fun H=>
  Ti (R:=fun o=>R (.Compare l [o1,o] [e,f] p)) H fun H=>jb H fun n H=>jb H (F l e f p n)
theorem UD{a:Bool}{e:E}{g:Gd}(H:Va d C (.Ay a e g) x=true)(F:∀l q p,Va d C e l=true->Jg C g.str=true->Nd g.str=true->R (.Compare l [if a=true then .NotIn else .In] [.Name g.str q] p)):R x:=
 Cp H fun l c b p H=>Vg (R:=fun c=>R (.Compare l c b p)) H fun o H=>Vg (R:=fun b=>R (.Compare l [o] b p)) H fun r H=>Ti (R:=fun o=>R (.Compare l [o] [r] p)) H fun H=>gf (R:=fun r=>R (.Compare l _ [r] p)) H fun n q H=>by refine jb H fun f H=>?_;obtain⟨e,h,i⟩:=ip H;refine aa e ?_;exact F l q p f h i
theorem rE{e:E}(H:Va d C (.not e) x=true)(F:∀y p,Va d C e y=true->R (.UnaryOp .Not y p)):R x:=
 Px H fun o y p H=>Ti (R:=fun o=>R (.UnaryOp o y p)) H (F y p)
theorem qE{c a b:E}(H:Va d C (.ite c a b) x=true)(F:∀t y z p,Va d C c t=true->Va d C a y=true->Va d C b z=true->R (.IfExp t y z p)):R x:=
 NA H fun t y z p H=>jb H fun H e=>jb H fun f g=>F t y z p f g e
theorem gF{i:Int}(H:Va d C (.int i) x=true)(F:∀k p,R (.Constant (.int i) k p))(a:∀j k p q,i = -j->R (.UnaryOp .USub (.Constant (.int j) k p) q)):R x:=
 ((Bool.or_eq_true ..).mp H).elim (fun H=>gh H fun c k p H=>Qu (R:=fun c=>R (.Constant c k p)) H fun j H=>Ub H▸F k p)
  fun H=>Px H fun o y q H=>Ti (R:=fun o=>R (.UnaryOp o y q)) H fun H=>gh (R:=fun y=>R (.UnaryOp _ y q)) H fun c k p H=>Qu (R:=fun c=>R (.UnaryOp _ (.Constant c k p) q)) H fun j H=>a j k p q (Ub H)
theorem Vy{e a:E}(H:Va d C (.wh e a) x=true)(F:∀v l q p,(Va d C e v&&Va d C a l)=true->R (.Subscript v (.Slice (some l) none none q) p)):R x:=
 Lm H fun v s p H=>xq (R:=fun s=>R (.Subscript v s p)) H fun l h s q H=>Mw (R:=fun l=>R (.Subscript v (.Slice l h s q) p)) H fun l H=>Js (R:=fun h=>R (.Subscript v (.Slice (some l) h s q) p)) H fun H=>
  Js (R:=fun s=>R (.Subscript v (.Slice (some l) none s q) p)) H fun H=>F v l q p H
theorem OD{e a:E}(H:Va d C (.gr e a) x=true)(F:∀v l q p,(Va d C e v&&Va d C a l)=true->R (.Subscript v (.Slice none (some l) none q) p)):R x:=
 Lm H fun v s p H=>xq (R:=fun s=>R (.Subscript v s p)) H fun l h s q H=>Js (R:=fun l=>R (.Subscript v (.Slice l h s q) p)) H fun H=>Mw (R:=fun h=>R (.Subscript v (.Slice none h s q) p)) H fun h H=>
  Js (R:=fun s=>R (.Subscript v (.Slice none (some h) s q) p)) H fun H=>F v h q p H
theorem Om{t:Tg}{k:Expr->Expr->Expr->List Expr->Scope->Bool}(H:cH d C t x k=true)(F:∀y tg b c scope pos,Ys d t scope C=true->yr b=false->k y b tg c (Qh scope C)=true->R (.ListComp y [⟨tg,b,c,0⟩] scope pos)):R x:=
 Zr H fun y e scope pos H=>Vg (R:=fun e=>R (.ListComp y e scope pos)) H fun g H=>by obtain⟨tg,b,c,a⟩:=g;refine Ti (R:=fun a=>R (.ListComp y [⟨tg,b,c,a⟩] scope pos)) H fun H=>jb H fun f H=>jb H fun h H=>?_;exact F y tg b c scope pos f ((Bool.not_eq_true' _).mp h) H
end
noncomputable def Dn(x:Expr):Bool:=decide (x.ctorIdx=8)||(decide (x.ctorIdx=9)||decide (x.ctorIdx=10))
noncomputable def RB(C:Scope)(b a:Expr):Bool:=!Dn a||VA a fun c c s p=>zl b fun t tp=>kf C t .local&&(decide (tp.line=p.line)&&!(s.names.any fun(n,k)=>n==t&&(k==.local||k==.cell)))
noncomputable def Pw(e:E):Bool:=!decide (e.ctorIdx=(E.Eh .tt).ctorIdx)
noncomputable def DF(b a:Expr):Bool:=!decide (b.ctorIdx=25)||(!decide (a.ctorIdx=25)||lF a fun vs c c=>!(vs.all (constantsAlone 8))||vs.all (foldedForSure 8))
noncomputable def mF(x:Stmt)(K:List Expr->Expr->Pos->Bool):Bool:=if h:x.ctorIdx=5 then Stmt.Assign.elim (motive_2:=fun a=>Bool) x h K else false
theorem Tp{R:Stmt->Prop}{x:Stmt}{K:List Expr->Expr->Pos->Bool}(H:mF x K=true)(F:∀ts v p,K ts v p=true->R (.Assign ts v p)):R x:=
 (Qd H).elim fun h H=>Stmt.Assign.elim (motive_2:=fun y=>∀h:y.ctorIdx=5,Stmt.Assign.elim (motive_2:=fun a=>Bool) y h K=true->R y) x h (fun ts v p a H=>F ts v p H) h H
noncomputable def PF(x:Stmt)(K:Expr->Pos->Bool):Bool:=if h:x.ctorIdx=24 then Stmt.Expr.elim (motive_2:=fun a=>Bool) x h K else false
theorem yy{R:Stmt->Prop}{x:Stmt}{K:Expr->Pos->Bool}(H:PF x K=true)(F:∀v p,K v p=true->R (.Expr v p)):R x:=
 (Qd H).elim fun h H=>Stmt.Expr.elim (motive_2:=fun y=>∀h:y.ctorIdx=24,Stmt.Expr.elim (motive_2:=fun a=>Bool) y h K=true->R y) x h (fun v p a H=>F v p H) h H
noncomputable def sJ(x:Stmt)(K:Option Expr->Pos->Bool):Bool:=if h:x.ctorIdx=3 then Stmt.Return.elim (motive_2:=fun a=>Bool) x h K else false
theorem iB{R:Stmt->Prop}{x:Stmt}{K:Option Expr->Pos->Bool}(H:sJ x K=true)(F:∀v p,K v p=true->R (.Return v p)):R x:=
 (Qd H).elim fun h H=>Stmt.Return.elim (motive_2:=fun y=>∀h:y.ctorIdx=3,Stmt.Return.elim (motive_2:=fun a=>Bool) y h K=true->R y) x h (fun v p a H=>F v p H) h H
noncomputable def EI(x:Stmt)(K:Expr->List Stmt->List Stmt->Pos->Bool):Bool:=if h:x.ctorIdx=12 then Stmt.If.elim (motive_2:=fun a=>Bool) x h K else false
theorem KC{R:Stmt->Prop}{x:Stmt}{K:Expr->List Stmt->List Stmt->Pos->Bool}(H:EI x K=true)(F:∀t y z p,K t y z p=true->R (.If t y z p)):R x:=
 (Qd H).elim fun h H=>Stmt.If.elim (motive_2:=fun y=>∀h:y.ctorIdx=12,Stmt.If.elim (motive_2:=fun a=>Bool) y h K=true->R y) x h (fun t y z p a H=>F t y z p H) h H
noncomputable def HF(x:Stmt)(K:Expr->Expr->List Stmt->List Stmt->Pos->Bool):Bool:=if h:x.ctorIdx=9 then Stmt.For.elim (motive_2:=fun a=>Bool) x h K else false
theorem Iz{R:Stmt->Prop}{x:Stmt}{K:Expr->Expr->List Stmt->List Stmt->Pos->Bool}(H:HF x K=true)(F:∀tg it b o p,K tg it b o p=true->R (.For tg it b o p)):R x:=
 (Qd H).elim fun h H=>Stmt.For.elim (motive_2:=fun y=>∀h:y.ctorIdx=9,Stmt.For.elim (motive_2:=fun a=>Bool) y h K=true->R y) x h (fun tg it b o p a H=>F tg it b o p H) h H
noncomputable def Rx(x:Stmt)(K:Expr->List Stmt->List Stmt->Pos->Bool):Bool:=if h:x.ctorIdx=11 then Stmt.While.elim (motive_2:=fun a=>Bool) x h K else false
theorem iv{R:Stmt->Prop}{x:Stmt}{K:Expr->List Stmt->List Stmt->Pos->Bool}(H:Rx x K=true)(F:∀t b o p,K t b o p=true->R (.While t b o p)):R x:=
 (Qd H).elim fun h H=>Stmt.While.elim (motive_2:=fun y=>∀h:y.ctorIdx=11,Stmt.While.elim (motive_2:=fun a=>Bool) y h K=true->R y) x h (fun t b o p a H=>F t b o p H) h H
noncomputable def ED(x:Stmt)(K:Option Expr->Option Expr->Pos->Bool):Bool:=if h:x.ctorIdx=16 then Stmt.Raise.elim (motive_2:=fun a=>Bool) x h K else false
noncomputable def jG(x:Stmt)(K:List Stmt->List ExceptHandler->List Stmt->List Stmt->Pos->Bool):Bool:=if h:x.ctorIdx=17 then Stmt.Try.elim (motive_2:=fun a=>Bool) x h K else false
theorem cz{R:Stmt->Prop}{x:Stmt}{K:List Stmt->List ExceptHandler->List Stmt->List Stmt->Pos->Bool}(H:jG x K=true)(F:∀b hs o g p,K b hs o g p=true->R (.Try b hs o g p)):R x:=
 (Qd H).elim fun h H=>Stmt.Try.elim (motive_2:=fun y=>∀h:y.ctorIdx=17,Stmt.Try.elim (motive_2:=fun a=>Bool) y h K=true->R y) x h (fun b hs o g p a H=>F b hs o g p H) h H
mutual
noncomputable def wI(d:List Str)(C:Scope):S->Stmt->Bool
 | .Wc t e,x=>mF x fun ts v f=>l1 ts fun tg=>Pw e&&(ak d C t tg&&(Va d C e v&&(RB C tg v&&DF tg v)))
 | .Zf o a e,x=>mF x fun ts v f=>l1 ts fun tg=>Cx tg fun y n f=>seq n a.str&&((!Dn v)&&(Va d C o y&&Va d C e v))
 | .Ph o i e,x=>mF x fun ts v f=>l1 ts fun tg=>LB tg fun y j f=>(!Dn v)&&(Va d C o y&&(Va d C i j&&Va d C e v))
 | .expr e,x=>PF x fun v f=>(!Dn v)&&Va d C e v
 | .ret e,x=>sJ x fun v f=>o1 v fun v=>Va d C e v
 | .Pc c a b,x=>EI x fun t y z f=>Va d C c t&&(wm d C a y&&wm d C b z)
 | .Ad t it body,x=>HF x fun tg l b o f=>l0 o (Eo d C it l t&&((!yr l)&&(ak d C t tg&&wm d C body b)))
 | .bh c body,x=>Rx x fun t b o f=>l0 o (Va d C c t&&wm d C body b)
 | .Nc,x=>ED x fun f f f=>true
 | .Hw body,x=>jG x fun b h o g f=>l0 o (l0 g ((!h.isEmpty)&&wm d C body b))
noncomputable def wm(d:List Str)(C:Scope):List S->List Stmt->Bool
 | [],[]=>true
 |s::ss,x::xs=>wI d C s x&&wm d C ss xs
 |_,_=>false
end
structure Hd(C:Scope)(env:Env):Prop where
 scope:env.scope=C
 kind:C.kind=.function
 globals:env.globals=mainGlobals
 builtins:env.builtins=builtinsNs
structure MC(G:Og)(T:Tm)(d:List Str)(env:Env)(cs:List (Str×Addr))(I:zc)(h:Heap):Prop where
 ns:∃m,h.Ns env.locals m∧∀i x n,Ke I i=some x->d[i]?=some n->cs.lookup n=none->env.scope.names.lookup n=some .local->∃v,m n=some v∧VR T x v
 cell:∀i x n c,Ke I i=some x->d[i]?=some n->cs.lookup n=some c->∃v,T c=some (.cell (some v))∧VR T x v
 lo:G.wg.heap.objs.size≤env.locals
 af:T env.locals=none
 sub:∀n c,env.cells.lookup n=some c->cs.lookup n=some c
 has:∀n,env.scope.names.lookup n=some .cell->∃c,env.cells.lookup n=some c
 I:∀n,env.scope.names.lookup n=some .local->cs.lookup n=none
 cells:∀n c,cs.lookup n=some c->∃v,T c=some (.cell v)
 inj:∀n n' c,cs.lookup n=some c->cs.lookup n'=some c->n=n'
 nd:d.Nodup
 tp:env.scope.names.lookup (".0" : Str)=none->∀n c,cs.lookup n=some c->env.scope.names.lookup n=some .cell
structure Ec(G:Og)(T:Tm)(d:List Str)(env:Env)(cs:List (Str×Addr))(I:zc)(U:Mem)(s:Shared):Prop where
 M:Ed G T U s
 F:MC G T d env cs I s.heap
theorem MC.lt{G:Og}{T:Tm}{d:List Str}{env:Env}{cs:List (Str×Addr)}{I:zc}{h:Heap}(F:MC G T d env cs I h):env.locals<h.objs.size:=
 ya (fun a b a=>b.lt) F.ns
theorem Hm{h h':Heap}{a:Addr}{m:Str->Option Value}(k:∀o,h.get? a=some o->h'.get? a=some o)(x:h.Ns a m):h'.Ns a m:=
 qh (fun o es b c r=>(Gm o es b (k _ c) r)) x
theorem Mr{h:Heap}{a:Addr}{m m':Str->Option Value}(x:h.Ns a m)(y:h.Ns a m'):m=m':=by
 (refine Df (fun o es l e f g r=>?_) x;clear x)
 (refine Df (fun p i j b c g r'=>?_) y;clear y)
 rw[e]at b;(replace b:=Bb b;subst b);rw[f]at c;cases c;funext n;exact Cb (r n) (Cb (r' n) rfl)
theorem MC.za{G:Og}{T T':Tm}{d:List Str}{env:Env}{cs:List (Str×Addr)}{I:zc}{h h':Heap}(F:MC G T d env cs I h)(g:jl T T')(l:∀m,h.Ns env.locals m->h'.Ns env.locals m)(o:T' env.locals=none)(j:∀n c v,cs.lookup n=some c->T c=some (.cell v)->T' c=some (.cell v)) : MC G T' d env cs I h':=by
 refine ya (fun m p q=>?_) F.ns;refine⟨(pb m (l _ p) (fun i x n a b c f=>?_)),fun i x n c a b f=>?_,F.lo,o,F.sub,F.has,F.I,fun n c e=>?_,F.inj,F.nd,F.tp⟩
 ·refine ya (fun v e w=>?_)<|q i x n a b c f;exact(pb v e (w.ae g))
 ·refine ya (fun v e w=>?_)<|F.cell i x n c a b f;exact(pb v (j n c _ f e) (w.ae g))
 ·refine Aa (fun v w=>?_)<|F.cells n c e;exact⟨v,j n c v e w⟩
variable{G:Og}{k m n i j m' Z:Nat}{d:List Str}{C scope:Scope}{I:zc}{U U' U0:Mem}{T T':Tm}{env:Env}{cs:List (Str×Addr)}{s:Shared}{A:Around}{ss body:List S}{Kn:zc->Mem->Prop}{Kr Q:V->Mem->Prop}{h' h:Heap}{a x W z TI TO i1 i2 F J:Addr}{M:Model}{pos p:Pos}{e elt:E}{xs:Array Value}{l vs todo:List V}{es:List E}{c:dd}{X y Y:V}{K:Value->Shared->Prop}{t:Tg}{u:Value}{l' ps:List Nat}{P:List xd}{kvs:List (Int×V)}{cvs:List (Int×Value)}{it:It}{O bs:List Addr}{target tg:Expr}{D:Xb}{Eh hv:Bool}{B:xd}{ks:List Int}
theorem Ec.toks(R:Ec G T d env cs I U s)(tk:Nat):Ec G T d env cs I U {s with toks:=tk}:=⟨R.M.toks tk,R.F⟩
theorem Ec.hz(R:Ec G T d env cs I U s):G.wg.heap.objs.size≤s.heap.objs.size:=Nat.le_of_lt (Nat.lt_of_le_of_lt R.F.lo R.F.lt)
theorem Ec.push(R:Ec G T d env cs I U s)(tk:Nat)(o:Obj)(e:Lp)
 (f:Kg G (Ga T s.heap.objs.size (some e)) (s.heap.push o) s.heap.objs.size e) (g:∀x,e≠.mi x) :
 Ec G (Ga T s.heap.objs.size (some e)) d env cs I (match e with| .mo m _=>Ga U s.heap.objs.size (some m)|_=>U) {s with heap:=s.heap.push o,toks:=tk}∧Vd T (Ga T s.heap.objs.size (some e)):=by
 refine Qa (fun a b=>?_)<|R.M.push (tk:=tk) o e R.hz f g
 refine⟨⟨a,R.F.za b.f (fun i=>Hm fun j=>Heap.get?_push_of_some o) ?_ fun n c v i h=>?_⟩,b⟩
 ·refine aa (qa _ _ (Nat.ne_of_lt R.F.lt)) ?_;exact R.F.af
 ·refine aa (qa _ _ (fun q=>by rw[q,(R.M.Ya (tf s.heap.objs.size))]at h;exact nomatch h)) ?_;exact h
theorem Ec.Ak(R:Ec G T d env cs I U s)(tk:Nat)(a:Addr)(m:MO)(g:Addr)(e:Option Lp)(f:T a=some (.mo m g))(hs:Heap.SameBut a s.heap h')(j:∀b m,U' b=some m->∃g,Ga T a e b=some (.mo m g))(l:∀x,e=some x->Kg G (Ga T a e) h' a x):Ec G (Ga T a e) d env cs I U' {s with heap:=h',toks:=tk}∧Vd T (Ga T a e):=by
 have i:a≠env.locals:=fun q=>by rw[q,R.F.af]at f;injection f
 refine Qa (fun x y=>?_)<|R.M.Ak (tk:=tk) a _ e f rfl (fun b o hb=>hs.extBut b o hb) (Nat.le_of_eq hs.1.symm) j l
 refine⟨⟨x,R.F.za y.f (fun p=>Hm fun o=>hs.extBut _ o i.symm) ?_ fun n c v p h=>?_⟩,y⟩
 ·refine aa (qa _ _ i.symm) ?_;exact R.F.af
 ·refine aa (qa _ _ (fun q=>by rw[q,f]at h;(replace h:=Bb h;cases h))) ?_;exact h
theorem Ec.keep(R:Ec G T d env cs I U s)(tk:Nat)(k:∀b o,s.heap.get? b=some o->h'.get? b=some o):Ec G T d env cs I U {s with heap:=h',toks:=tk}:=
 ⟨R.M.keep k,R.F.za (jl.refl T) (fun a=>Hm fun o=>k _ o) R.F.af fun a a a a h=>h⟩
theorem Ec.Uv(R:Ec G T d env cs I U s)(a:Addr)(e:Lp)(p:G.wg.heap.objs.size≤a)(i:T a=none)(t:a≠env.locals)(o:Kg G (Ga T a (some e)) s.heap a e) :
 Ec G (Ga T a (some e)) d env cs I (match e with| .mo m _=>Ga U a (some m)|_=>U) s∧Vd T (Ga T a (some e)):=by
 have j:Vd T (Ga T a (some e)):=fun b x hs hb=>by refine aa (qa _ _ (fun q=>by rw[q,i]at hb;exact nomatch hb)) ?_;exact hb
 refine⟨⟨⟨R.M.wi,R.M.Vc,fun b x hb=>?_,fun b m hb=>?_⟩,R.F.za j.f (fun f h=>h) ?_ fun n c v f h=>?_⟩,j⟩
 ·by_cases q:b=a
  ·subst q;rw[da]at hb;refine Cb (Bb hb) ?_;exact(yc (fun f=>p) o.lt o)
  ·rw[qa _ _ q]at hb;refine Nb (fun u w y=>?_)<|R.M.gc b x hb
   exact(yc u w (y.za j.f (fun f h=>h) fun f f f f f h=>h))
 ·have old:∀b m,U b=some m->∃g,Ga T a (some e) b=some (.mo m g):=fun b m hb=>by
   refine Aa (fun g l=>?_)<|R.M.mem b m hb
   exact⟨g,by refine aa (qa _ _ (fun q=>by rw[q,i]at l;exact nomatch l)) ?_;exact l⟩
  cases e with
  |mo m' g=>
   dsimp only at hb;by_cases q:b=a
   ·subst q;rw[da]at hb;refine Cb (Bb hb) ?_;exact⟨g,da ..⟩
   ·rw[qa _ _ q]at hb;exact old b m hb
  |_=>exact old b m hb
 ·refine aa (qa _ _ (fun q=>t q.symm)) ?_;exact R.F.af
 ·refine aa (qa _ _ (fun q=>by rw[q,i]at h;exact nomatch h)) ?_;exact h
noncomputable def um(h:Heap)(L:Addr):List (Addr×Obj):=(List.range h.objs.size).filterMap fun a=>if a=L then none else(h.get? a).map fun o=>(a,o)
theorem Wi{L:Addr}{o:Obj}:(a,o)∈um h L↔a≠L∧h.get? a=some o:=by
 unfold um;simp only[List.mem_filterMap,List.mem_range];constructor
 ·(intro c;(refine ya (fun b j e=>?_) c;clear c))
  split at e
  ·exact nomatch e
  ·rename_i hb;refine ya (fun l g e=>?_)<|Option.map_eq_some_iff.mp e
   cases e;exact⟨hb,g⟩
 ·(intro c;(refine Qa (fun i f=>?_) c;clear c))
  exact(pb a (Heap.lt_size f) (by refine aa (if_neg i) (aa f ?_);rfl))
noncomputable def qn:Heap:={objs:=#[]}
theorem Vl(a:Addr):qn.get? a=none:=by rfl
theorem Rm(h:Heap)(L:Addr):News qn L h (um h L):=fun p a=>(yc ((Wi.mp a).2) ((Wi.mp a).1) (Vl _))
theorem CF{L:Addr}{m:Str->Option Value}(x:h.Ns L m):Fr qn L h m:=⟨x,fun b o e=>(by rw[Vl]at e;injection e),Nat.zero_le _⟩
theorem Ec.grown(R:Ec G T d env cs I U s){m:Str->Option Value}(w:s.heap.Ns env.locals m)(tk:Nat)(o:Obj)(e:Lp)(F:Fr qn env.locals h' m)(N:News qn env.locals h' ((s.heap.objs.size,o)::um s.heap env.locals))(y:Kg G (Ga T s.heap.objs.size (some e)) h' s.heap.objs.size e)(H:∀x,e≠.mi x)(A:∀m j,e≠.mo m j) : Ec G (Ga T s.heap.objs.size (some e)) d env cs I U {s with heap:=h',toks:=tk}∧Vd T (Ga T s.heap.objs.size (some e)):=by
 have l:=R.M.Ya (tf s.heap.objs.size);have g:∀b o,b≠env.locals->s.heap.get? b=some o->h'.get? b=some o:=fun b o hb B=>(N (b,o) (.tail _ (Wi.mpr ⟨hb,B⟩))).1;have i:s.heap.objs.size<h'.objs.size:=Heap.lt_size (N _ (.head _)).1;have p:Vd T (Ga T s.heap.objs.size (some e)):=fun b x hs hb=>by refine aa (qa _ _ (fun q=>by rw[q,l]at hb;injection hb)) ?_;exact hb
 refine⟨⟨R.M.step env.locals R.F.lo p.f (Nat.le_of_lt i) g (fun a x f=>?_) fun a m' f=>?_,R.F.za p.f (fun m' t=>Mr w t▸F.ns) ?_ fun n c v D h=>?_⟩,p⟩
 ·by_cases q:a=s.heap.objs.size
  ·subst q;rw[da]at f;refine Cb (Bb f) ?_;exact .inr (yc (fun D=>R.hz) i y)
  ·rw[qa _ _ q]at f;exact .inl (yc f (fun z=>(by rw[z,R.F.af]at f;injection f)) (fun z=>(by rw[R.F.af]at z;injection z)))
 ·refine Aa (fun j u=>?_)<|R.M.mem a m' f
  exact⟨j,by refine aa (qa _ _ (fun q=>by rw[q,l]at u;injection u)) ?_;exact u⟩
 ·refine aa (qa _ _ (Nat.ne_of_lt R.F.lt)) ?_;exact R.F.af
 ·refine aa (qa _ _ (fun q=>by rw[q,l]at h;injection h)) ?_;exact h
theorem Pm{f e:MO}{g:Addr}(R:Ed G T U s)(l:T a=some (.mo f g)) : ∀b m,Ga U a (some e) b=some m->∃i,Ga T a (some (.mo e g)) b=some (.mo m i):=by
 intro b m h;by_cases q:b=a
 ·subst q;rw[da]at h;(replace h:=Bb h;subst h);exact⟨g,da ..⟩
 ·rw[qa _ _ q]at h;refine Aa (fun c j=>?_)<|R.mem b m h;exact⟨c,by exact qa _ _ q▸j⟩
noncomputable def Vb{a b:Type}(G:Og)(T:Tm)(d:List Str)(env:Env)(cs:List (Str×Addr))(I:zc)(R:Tm->b->a->Prop)(Q:b->Mem->Prop)(v:a)(s':Shared):Prop:=
 ∃T' U' X,Vd T T'∧Ec G T' d env cs I U' s'∧R T' X v∧Q X U'
noncomputable def WG{a b:Type}(G:Og)(k:Nat)(d:List Str)(C:Scope)(R:Tm->b->a->Prop)(t:Env->Sem a)(I:zc)(U:Mem)(Q:b->Mem->Prop):Prop:=
 ∀A T env cs s,El k A->Hd C env->Ec G T d env cs I U s->wpAny (model G.prog G.w) A (t env) (Vb G T d env cs I R Q) (fun c c=>False) s
abbrev WE (G:Og) (k:Nat) (d:List Str) (C:Scope) (x:Expr) (I:zc) (U:Mem) (Q:V->Mem->Prop):Prop:=WG G k d C VR (eval x) I U Q
theorem Vb.xh{b a:Type}{R:Tm->a->b->Prop}{Q:a->Mem->Prop}{X:a}{v:b}{s':Shared}(c:Vd T T')(e:Ec G T' d env cs I U' s')(h:R T' X v)(q:Q X U') : Vb G T d env cs I R Q v s':=(Jj T' U' X c e h q)
theorem Vb.ext{g i:Type}{R:Tm->i->g->Prop}{Q:i->Mem->Prop}{v:g}{s':Shared}(j:Vd T T')(h:Vb G T' d env cs I R Q v s'):Vb G T d env cs I R Q v s':=by
 (refine Df (fun f U' X a b c e=>?_) h;clear h);exact(Jj f U' X (j.trans a) b c e)
theorem Oa{g j:Type}{R:Tm->j->g->Prop}{P:j->Mem->Prop}{t:Sem g}{K:g->Shared->Prop}{E:Value->Shared->Prop}(h:wpAny M A t (Vb G T d env cs I R P) (fun i i=>False) s)(k:∀T' U' X v s',Vd T T'->Ec G T' d env cs I U' s'->R T' X v->P X U'->K v s'):wpAny M A t K E s:=
 wpAny_mono h (fun v s' h=>Df (fun T' U' X a b c f=>k T' U' X v s' a b c f) h) fun i i e=>e.elim
structure Og.Ok(G:Og):Prop where
 Uq:G.K.In G.wg.heap
 dH:∃p loose mg mb,TopRead p loose mg mb G.wg.heap
 GC:∀f:Fn,f.plain=true->nsIn G.K mainGlobals f.str=some (some (.ref (G.fn f)))
 kB:∀c:Cl,nsIn G.K mainGlobals c.str=some (some (.ref (G.cl c)))
 fC:∀g:Gi,∃t,nsIn G.K mainGlobals g.str=some (some (.int g.val t))
 uA:∀g:Gd,∃a es n,nsIn G.K mainGlobals g.str=some (some (.ref a))∧G.K.lookup a=some ⟨.type "dict",none,.dict es n,#[]⟩∧KeysLit G.w.params es.toList∧(a==sysModules)=false∧
  ∀w:Wd,∃r,nsIn G.K a w.str=some r∧r.isSome=g.has w
 aI:∀n∈(["len","list","set","str","all","isinstance","max","dict","zip","enumerate","range","bool"]:List Str),nsIn G.K mainGlobals n=some none
 EA:∀f:Fn,keepIn G.K (.ref (G.fn f))=true
 tA:∀c:Cl,keepIn G.K (.ref (G.cl c))=true
 zA:∀c:Cl,makesIn G.K (G.cl c)=true
 aB:∀c:Cl,findIn G.K (.ref (G.cl c)) "__init__" = some (some (.ref (G.fn (Mn c))))
 Mx:∀c:Cl,typeIn G.K (.ref (G.fn (Mn c)))=some (.type "function")
 FF:∀c:Cl,findIn G.K (.ref (G.cl c)) "__getattribute__" = some (some (.builtin "object.__getattribute__"))∧findIn G.K (.ref (G.cl c)) "__getattr__" = some none
 Kw:∀c:Cl,hasDictIn G.K (G.cl c)=true
 iq:∀(c:Cl)(a:At),findIn G.K (.ref (G.cl c)) a.str=some none
 bC:∀c:Cl,findIn G.K (.ref (G.cl c)) "__setattr__" = some (some (.builtin "object.__setattr__"))∧plainOver G.K (G.cl c)=true
theorem Ec.Uq(a:G.Ok)(R:Ec G T d env cs I U s):G.K.In s.heap:=a.Uq.keeps R.M.wi
theorem Ed.Uq(a:G.Ok)(R:Ed G T U s):G.K.In s.heap:=a.Uq.keeps R.wi
theorem Ed.dE(b:G.Ok)(R:Ed G T U s):s.heap.NoLimit:=sF (fun a a a a t=>t.nolimit.keeps R.wi) b.dH
set_option tactic.hygienic true in
theorem gd{n:Str}{a:NameKind}(h:kf C n a=true):C.names.lookup n=some a:=by
 unfold kf at h;split at h
 ·rename_i b e;refine aa e ?_;simpa using h
 ·exact(Fc h).elim
theorem Mh{n:Str}(h:Nd n=true):(n==("__debug__" : Str))=false:=by simpa[Nd]using h
theorem Hd.zo(e:Hd C env):env.scope.kind=.function:=e.scope▸e.kind
theorem Hd.kindOf(e:Hd C env)(n:Str):env.kindOf n=C.names.lookup n:=by(rewrite[Env.kindOf];exact aa e.scope rfl)
theorem VR.AH:∀{x:V}{v:Value},VR T x v->handedIn v=true
 | .none,_,h=>by replace h:_=_:=h;subst h;rfl
 | .bool _,_,h=>by replace h:_=_:=h;subst h;rfl
 | .int _,_,h=>by(refine Aa (fun t b=>?_) h;clear h;subst b);rfl
 | .wd _,_,h=>by(refine Aa (fun t b=>?_) h;clear h;subst b);rfl
 | .gn _,_,h=>by(refine pd (fun x t a c=>?_) h;clear h;subst a);rfl
 | .Ba _,_,h=>by(refine pd (fun x t a c=>?_) h;clear h;subst a);rfl
 | .fl _,_,h=>by(refine pd (fun x t a c=>?_) h;clear h;subst a);rfl
 | .ref _,_,h=>by replace h:_=_:=h;subst h;rfl
theorem MC.xK{x:V}{n:Str}{j:NameKind}(b:Hd C env)(F:MC G T d env cs I s.heap)(o:Ke I i=some x)(p:d[i]?=some n)(f:C.names.lookup n=some j)(t:j=.local∨j=.cell){E:Value->Shared->Prop}{Q:Value->Shared->Prop}(u:∀a e,T a=some e->Kg G T s.heap a e)(h:∀v,VR T x v->Q v s):wpAny M A (loadName env n) Q E s:=by
 have g:=b.kindOf n;rcases t with rfl|rfl
 ·refine ya (fun m w y=>?_) F.ns;refine ya (fun v hv l=>?_)<|y i x n o p (F.I n (by refine aa b.scope ?_;exact f)) (by refine aa b.scope ?_;exact f)
  exact wpAny_loadName_local b.zo (g.trans f) w hv (h v l)
 ·refine Aa (fun c q=>?_)<|F.has n (by refine aa b.scope ?_;exact f)
  refine ya (fun v hv l=>?_)<|F.cell i x n c o p (F.sub n c q)
  exact wpAny_loadName_cell b.zo (g.trans f) q (u c _ hv) (h v l)
set_option tactic.hygienic true in
theorem JH{n:Str}(c:Rl d C i n=true)(h:wb G k false (.var i) I U Q):WE G k d C (.Name n pos) I U Q:=by
 intro A T env cs s y l R;unfold Rl at c;simp only[Bool.and_eq_true,Bool.or_eq_true]at c
 (refine Qa (fun b o=>?_) c;clear c;refine Qa (fun g p=>?_) b;clear b)
 have t:d[i]?=some n:=by
  split at g
  ·rename_i m e;exact aa e (aa (Rh g) rfl)
  ·exact(Fc g).elim
 rw[VH]at h;split at h
 ·rename_i x u;refine wpAny_Name ?_ (Mh o);have j:∃f,C.names.lookup n=some f∧(f=.local∨f=.cell):=p.elim (fun q=>⟨_,gd q,.inl rfl⟩) fun q=>⟨_,gd q,.inr rfl⟩;refine ya (fun f j w=>?_) j;exact R.F.xK l u t j w (fun a e q=>(R.M.gc a e q).2.2) fun v hv=>Vb.xh (Vd.refl T) R hv h
 ·exact h.elim
theorem oj(c:G.Ok)(a:Hd C env)(R:Ec G T d env cs I U s){n:Str}{v:Value}(e:Jg C n=true)(f:Nd n=true)(hv:nsIn G.K mainGlobals n=some (some v)){E:Value->Shared->Prop}{Q:Value->Shared->Prop}(q:Q v s):wpAny M A (eval (.Name n pos) env) Q E s:=by refine sF (fun p b mg mb t=>?_) c.dH;refine Name_function_global a.zo ((a.kindOf n).trans (gd e)) (loadGlobal_global (mg:=mg) ?_ (mg_of c.Uq t.g hv) q) (Mh f);refine aa a.globals ?_;exact t.g.keeps R.M.wi
theorem eg(b:G.Ok)(a:Hd C env)(R:Ec G T d env cs I U s){n:Str}{v:Value}(e:Jg C n=true)(f:Nd n=true)(g:n∈(["len","list","set","str","all","isinstance","max","dict","zip","enumerate","range","bool"]:List Str))(hv:bootBuiltins n=some v)(h:n≠"__name__"){E:Value->Shared->Prop}{Q:Value->Shared->Prop}(q:Q v s):wpAny M A (eval (.Name n pos) env) Q E s:=by
 refine sF (fun p c mg mb t=>?_) b.dH;refine Name_function_global a.zo ((a.kindOf n).trans (gd e)) (loadGlobal_builtin (mg:=mg) (mb:=mb) ?_ (mg_none_of b.Uq t.g (b.aI n g)) ?_ ((t.builtins n h).trans hv) q) (Mh f)
 ·refine aa a.globals ?_;exact t.g.keeps R.M.wi
 ·refine aa a.builtins ?_;exact t.b.keeps R.M.wi
theorem BD(c:G.Ok){g:Gi}{n:Str}(b:(seq n g.str&&Jg C n&&Nd n)=true)(h:Q (.int g.val) U):WE G k d C (.Name n pos) I U Q:=by
 intro A T env cs s m f R;simp only[Bool.and_eq_true]at b
 (refine Qa (fun a i=>?_) b;clear b;refine Qa (fun j l=>?_) a;clear a)
 refine Aa (fun t e=>?_)<|c.fC g
 rw[← Rh j]at e;exact oj c f R l i e (Vb.xh (Vd.refl T) R (by exact⟨t,rfl⟩) h)
theorem QG{i:Int}{a:Nat}(h:Q (.int i) U):WE G k d C (.Constant (.int i) a pos) I U Q:=fun A T env cs s b b R=>
 wpAny_Constant_int (Vb.xh (Vd.refl T) (R.toks _) (by exact⟨_,rfl⟩) h)
theorem MH{w:Wd}{a:Nat}(h:Q (.wd w) U):WE G k d C (.Constant (.str w.str) a pos) I U Q:=fun A T env cs s b b R=>
 wpAny_Constant_str (Vb.xh (Vd.refl T) (R.toks _) (by exact⟨_,rfl⟩) h)
theorem px{b:Bool}{a:Nat}(h:Q (.bool b) U):WE G k d C (.Constant (.bool b) a pos) I U Q:=fun A T env cs s c c R=>
 wpAny_Constant_bool (Vb.xh (Vd.refl T) R (by exact rfl) h)
theorem CE{a:Nat}(h:Q .none U):WE G k d C (.Constant .none a pos) I U Q:=fun A T env cs s b b R=>
 wpAny_Constant_none (Vb.xh (Vd.refl T) R (by exact rfl) h)
theorem SH{j:Int}{a:Nat}(h:Q (.int (-j)) U):WE G k d C (.UnaryOp .USub (.Constant (.int j) a p) pos) I U Q:=fun A T env cs s b b R=>by refine wpAny_UnaryOp (wpAny_Constant_int (PySem.P.neg_int ?_));exact Vb.xh (Vd.refl T) (R.toks _) (by exact⟨_,rfl⟩) h
abbrev WB (G:Og) (k:Nat) (d:List Str) (C:Scope) (x:Expr) (I:zc) (U:Mem) (Q:Bool->Mem->Prop):Prop:=WG G k d C (fun ζ(b:Bool) v=>v=b) (fun env=>isTrue x env (eval x env)) I U Q
noncomputable def fc(G:Og)(d:List Str)(e:E):Prop:=∀k C x I U,Va d C e x=true->
 (∀Q,wb G k false e I U Q->WE G k d C x I U Q)∧(∀Q,ck G k e I U Q->WB G k d C x I U Q)
theorem Ws(e:E){v:Expr}:Va d C e (.Starred v p)=false:=by apply E.rec (motive_1:=fun e=>Va d C e (.Starred v p)=false) (motive_2:=fun a=>True) (motive_3:=fun a=>True) (t:=e)<;>intros<;>first|exact trivial|rfl|assumption
theorem ue{x:Expr}{xs:List Expr}(h:Va d C e x=true)(env:Env):starEach (x::xs) env=(false,eval x env)::starEach xs env:=by
 cases x with
 |Starred v p=>rw[Ws e]at h;exact(Fc h).elim
 |_=>rfl
theorem Um:∀{es:List E}{xs:List Expr}{U:Mem}{Q:List V->Mem->Prop}(pos:Pos),(∀e∈es,fc G d e)->Ei d C es xs=true->gj G k es I U Q-> WG G k d C (fun T l vs=>Se T l vs∧l.length=es.length) (fun env=>spliced (backTo pos (starEach xs env))) I U Q:=by
 intro c;induction c with
 |nil=>
  intro a U Q pos H b h;rcases a with _|⟨m,n⟩
  ·exact fun A T env cs s q q R=>wpAny_items_nil (Vb.xh (Vd.refl T) R ⟨.nil,rfl⟩ (by rw[ou]at h;exact h))
  ·injection b
 |cons e es t=>
  intro a U Q pos H b h;rcases a with _|⟨x,xs⟩
  ·injection b
  ·exact fun A T env cs s o p R=>by replace b:=Eb b;refine wpAny_items_cons ?_ (ue b.1 env);refine Oa ((H e (.head _) k C x I U b.1).1 _ h A T env cs s o p R) fun T' U' X v s' u w hv y=>?_;refine Oa (t pos (fun e z=>H e (.tail _ z)) b.2 y A T' env cs s' o p w) fun B U'' Y vs D f i g j=>?_;exact Vb.xh (u.trans f) i ⟨.cons (hv.za f) g.1,by simp[g.2]⟩ j
theorem Yn(n:Nat)(h:n<1000):n≤sizeLine:=by unfold sizeLine;exact Nat.le_of_lt (Nat.lt_of_lt_of_le (by assumption) (Pa rfl))
theorem Vm:Ac+Ac≤sizeLine:=by unfold sizeLine;decide
theorem xt(R:Ec G T d env cs I U s)(tk:Nat)(b:Bool){vs:List Value}(h:Se T l vs) : ∃T',Vd T T'∧Ec G T' d env cs I U {s with heap:=s.heap.push {cls:=.type (if b then "list" else "tuple"),data:=.seq vs.toArray},toks:=tk}∧ VR T' (if b then .fl l else .Ba l) (.ref s.heap.objs.size):=by
 refine Qa (fun a c=>?_)<|R.push tk {cls:=.type (if b then "list" else "tuple"),data:=.seq vs.toArray} (.fz b vs) ⟨0,Heap.get?_push_size _ rfl⟩ (fun x q=>by injection q)
 refine(cc _ c a ?_);induction b
 ·simp only[Bool.false_eq_true,if_false];exact(qf _ vs rfl (da ..) (h.za c))
 ·simp only[if_true];exact(qf _ vs rfl (da ..) (h.za c))
theorem LH{xs:List Expr}{a:Nat}(H:∀e∈es,fc G d e)(c:(decide (es.length<1000)&&Ei d C es xs)=true)(h:gj G k es I U fun vs U=>Q (.Ba vs) U):WE G k d C (.Tuple xs a pos) I U Q:=fun A T env cs s i j R=>by
 rw[Bool.and_eq_true]at c;refine wpAny_Tuple (Oa (Um pos H c.2 h A T env cs s i j R) fun T' U' X vs s' l m ⟨b,n⟩ o=>?_);refine Pb (fun p f g hv=>?_)<|xt m s'.toks false b
 exact⟨Yn _ (by refine aa b.length (aa n ?_);exact Ub c.1),Vb.xh (l.trans f) g hv o⟩
theorem qD{xs:List Expr}(H:∀e∈es,fc G d e)(b:(decide (es.length<1000)&&Ei d C es xs)=true)(h:gj G k es I U fun vs U=>Q (.fl vs) U):WE G k d C (.List xs pos) I U Q:=fun A T env cs s g i R=>by
 rw[Bool.and_eq_true]at b;refine wpAny_List (Oa (Um pos H b.2 h A T env cs s g i R) fun T' U' X vs s' j l ⟨a,m⟩ n=>?_);refine Pb (fun o c f hv=>?_)<|xt l s'.toks true a
 exact⟨Yn _ (by refine aa a.length (aa m ?_);exact Ub b.1),Vb.xh (j.trans c) f hv n⟩
theorem tw(R:Ec G T d env cs I U s)(tk:Nat)(o:Obj)(m:MO)(i:∀c f,m≠.ib c f)(g:Kg G (Ga T s.heap.objs.size (some (.mo m 0))) (s.heap.push o) s.heap.objs.size (.mo m 0))(h:Md U m Q){v:Value}(hv:v=.ref s.heap.objs.size) : Vb G T d env cs I VR Q v {s with heap:=s.heap.push o,toks:=tk}:=by
 subst hv;refine Qa (fun a c=>?_)<|R.push tk o (.mo m 0) g (fun x q=>by injection q)
 refine Vb.xh c a (by exact rfl) (h _ ?_);induction e:U s.heap.objs.size with
 |none=>rfl
 |some m'=>refine Aa (fun j b=>?_)<|R.M.mem _ _ e;rw[R.M.Ya (tf _)]at b;injection b
theorem uF{xs:List Expr}(H:∀e∈es,fc G d e)(c:(decide (es.length<1000)&&Ei d C es xs)=true)(h:gj G k es I U fun vs U=>Md U (.list vs) Q):WE G k d C (.List xs pos) I U Q:=fun A T env cs s i j R=>by rw[Bool.and_eq_true]at c;refine wpAny_List (Oa (Um pos H c.2 h A T env cs s i j R) fun T' U' X vs s' l f ⟨a,m⟩ n=>?_);refine⟨Yn _ (by refine aa a.length (aa m ?_);exact Ub c.1),?_⟩;refine Vb.ext l (tw f s'.toks _ (.list X) (fun g g q=>by injection q) (ej vs 0 (Heap.get?_push_size _ rfl) ?_) n rfl);refine a.za fun b e g hb=>?_;refine aa (qa _ _ (fun q=>by rw[q,f.M.Ya (tf _)]at hb;exact nomatch hb)) ?_;exact hb
theorem Zm{v:Expr}{n:Str}{a:Sem Value}(h:Nh v=true):attributeBase v n env a=a:=by cases v<;>first|rfl|exact(Fc h).elim
theorem At.Em(a b:At)(h:a.str=b.str):a=b:=by have q:=(by decide +kernel:∀a b:Fin 16,(!decide (At.str a=At.str b)||decide (a=b))=true) a b;rw[decide_eq_true h]at q;exact Ub q
theorem Jx{w:World}:∀{i:List (At×V)}{es:List DictEntry}{a:At}{y:V},Nz T w i es->Sq i a=some y->∃v,getL a.str es=some (some v)∧VR T y v:=by
 intro e;induction e with
 |nil=>intro f a y c h;injection h
 |cons g i l=>
  intro f a y c h;obtain⟨b,x⟩:=g;obtain⟨v,t,m,rfl,n,r⟩:=c;replace h:(if b=a then some x else Sq i a)=some y:=h;by_cases q:b=a
  ·subst q;rw[if_pos rfl]at h;(replace h:=Bb h;subst h);refine(pb v ?_ n);simp[getL,Value.isStr]
  ·rw[if_neg q]at h;refine ya (fun u j o=>?_)<|l r h
   refine(pb u ?_ o);simp only[getL,Value.isStr,List.find?_cons,((beq_eq_false_iff_ne.mpr fun z=>q (At.Em _ _ z)):(b.str==a.str)=false),List.any_cons,DictEntry.refKey]at j ⊢;exact j
theorem Lz{c:Cl}{b:List (At×V)}{e:Addr}(h:Kg G T s.heap x (.mo (.ib c b) e)) : ∃es n,InstAt s.heap x (instObj (G.cl c) e) (G.cl c) (some (dictOf es n))∧Nz T G.w b es:=by
 (refine Nb (fun f i a=>?_) h;clear h;refine pd (fun es n g r=>?_) a;clear a)
 exact(ej es n ⟨f,rfl,rfl,g⟩ r)
theorem wB(e:G.Ok)(R:Ec G T d env cs I U s){v:Value}{a:At}{g:Bool}(hv:VR T X v){Q:V->Prop}(h:bt U X a Q){E:Value->Shared->Prop}(q:∀y u,VR T y u->Q y->K u {s with toks:=s.toks+1}):wpAny (model G.prog G.w) A (getAttr v a.str g) K E s:=by
 refine NG (fun x c p y i j l h=>?_) h;rw[i]at hv;refine aa (show v=.ref x from hv) ?_;refine Aa (fun t m=>?_)<|R.M.mem _ _ j
 refine pd (fun es n b r=>?_)<|Lz (R.M.gc _ _ m).2.2
 refine ya (fun u o f=>?_)<|Jx r l
 exact get_value (R.Uq e) b (e.FF c).1 (findObj_own (e.Kw c) (e.iq c a) rfl o) f.AH (q y u f h)
theorem oD(g:G.Ok){a:At}{v:Expr}{n:Str}(H:fc G d e)(c:(seq n a.str&&Nh v&&Va d C e v)=true)(h:wb G k false e I U fun v U=>bt U v a fun y=>Q y U):WE G k d C (.Attribute v n pos) I U Q:=fun A T env cs s i j R=>by
 simp only[Bool.and_eq_true]at c
 (refine Qa (fun b l=>?_) c;clear c;refine Qa (fun m o=>?_) b;clear b)
 refine aa (Rh m) ?_;refine Attribute_any_ ?_ (by(rewrite[arm_eval_Attribute];exact aa (Zm o) rfl));refine Oa ((H k C v I U l).1 _ h A T env cs s i j R) fun T' U' X u s' p f q t=>?_;exact wB g f q t fun y w x z=>Vb.xh p (f.toks _) x z
set_option tactic.hygienic true in
theorem Cc(R:Ed G T U s){v:Value}(hv:VR T X v)(h:lv U X=some l) : ∃a vs n,v=.ref a∧s.heap.get? a=some {cls:=.type "list",data:=.seq vs.toArray n}∧Se T l vs:=by
 unfold lv at h;split at h
 ·rw[← Bb h]
  (refine Cd (fun a vs b e r=>?_) hv;clear hv;refine aa b ?_)
  refine Aa (fun n c=>?_)<|(R.gc _ _ e).2.2
  exact(zi a vs n rfl c r)
 ·split at h
  ·rename_i a _ l' f;refine Cb (Bb h) ?_;refine Aa (fun i g=>?_)<|R.mem _ _ f
   refine pd (fun vs n c r=>?_)<|(R.gc _ _ g).2.2
   exact(zi a vs n hv c r)
  ·injection h
 ·injection h
theorem Qn(R:Ed G T U s){v:Value}(hv:VR T (.Ba l) v) : ∃a vs n,v=.ref a∧s.heap.get? a=some {cls:=.type "tuple",data:=.seq vs.toArray n}∧Se T l vs:=by
 (refine Cd (fun a vs b c r=>?_) hv;clear hv;subst b)
 refine Aa (fun n e=>?_)<|(R.gc _ _ c).2.2
 exact(zi a vs n rfl e r)
theorem Wb{vs:List Value}(b:h.get? a=some {cls:=.type "list",data:=.seq vs.toArray n}):h.IsList a vs.toArray:=(cc _ b rfl (Ks n rfl))
theorem Bm{vs:List Value}(b:h.get? a=some {cls:=.type "tuple",data:=.seq vs.toArray n}):IsTup h a vs.toArray:=(cc _ b rfl (Ks n rfl))
theorem Mp{vs:List Value}(b:h.get? a=some {cls:=.type "tuple",data:=.seq vs.toArray n}):h.IsTuple a vs.toArray:=(cc _ b rfl (Ks n rfl))
theorem qB{j:Int}(h:uk l j=some y)(hb:l.length≤Ac) : -(2^63)≤j∧j<2^63:=by
 unfold uk at h;split at h
 ·rename_i a;have:j.toNat<l.length:=(Ro h).1;lia
 ·split at h
  ·rename_i a c;have b:l.length≤1000000:=hb;omega
  ·exact nomatch h
theorem jF(R:Ec G T d env cs I U s){v:Value}{j:Int}{t:Tok}{h c:Expr}(hv:VR T X v)(z:sv U X=some l)(p:uk l j=some y)(hb:l.length≤Ac)(hs:∀o i,subscripted c false o i=operate [o,i] (getItem o i)){E:Value->Shared->Prop}(q:∀u,VR T y u->K u s):wpAny (model G.prog G.w) A (subscriptTail h c v (.int j t)) K E s:=by
 have e:=qB p hb;have key:∀{vs:List Value},Se T l vs->∃u,VR T y u∧((0≤j∧vs[j.toNat]?=some u)∨(j<0∧ -(vs.length:Int)≤j∧vs[(j+vs.length).toNat]?=some u)):=by
  intro vs r;have B:=r.length;unfold uk at p;split at p
  ·rename_i g;refine ya (fun u a b=>?_)<|r.Pn p
   exact(pb u b (.inl ⟨g,a⟩))
  ·split at p
   ·rename_i g F;refine ya (fun u a b=>?_)<|r.Pn p
    exact(pb u b (.inr (yc (by exact Int.not_le.mp (by assumption)) (by lia) (by exact B▸a))))
   ·exact nomatch p
 have xb:∀{a:Addr}{vs:List Value}{n:Nat},s.heap.get? a=some {cls:=.type "list",data:=.seq vs.toArray n}->Se T l vs->wpAny (model G.prog G.w) A (subscriptTail h c (.ref a) (.int j t)) K E s:=by
  intro a vs n w r;refine ya (fun u D f=>?_)<|key r;have x:=Wb w;rcases f with⟨g,f⟩|⟨g,F,f⟩
  ·exact tail_any x.typeIs slot_list_getitem.lookup (wpAny_getItem_list x g e.2 (by simpa using f) (q u D)) (hs _ _)
  ·exact tail_any x.typeIs slot_list_getitem.lookup (wpAny_getItem_list_neg x g (by exact F) e.1 (by simpa using f) (q u D)) (hs _ _)
 cases X with
 |Ba l'=>
  replace z:=Bb z;subst z
  (refine ve (fun a vs n m w r=>?_)<|Qn R.M hv;refine aa m ?_)
  refine ya (fun u D f=>?_)<|key r
  have x:=Bm w;rcases f with⟨g,f⟩|⟨g,F,f⟩
  ·refine item_tupleT (j:=j.toNat) x e.1 e.2 ?_ f (q u D) (hs _ _);have H:j<vs.length:=by refine Cb (Int.toNat_of_nonneg g) ?_;exact Int.ofNat_lt.mpr (Ro f).1
   refine(?_:(if(decide (0≤if j<0 then j+(vs.length:Int)else j)&&decide ((if j<0 then j+(vs.length:Int)else j)<(vs.length:Int)))=true then some (if j<0 then j+(vs.length:Int)else j).toNat else none)=_);refine aa (if_neg (Int.not_lt.mpr g)) (aa (decide_eq_true g) (aa (decide_eq_true H) ?_));rfl
  ·refine item_tupleT (j:=(j+vs.length).toNat) x e.1 e.2 ?_ f (q u D) (hs _ _);have L:0≤j+vs.length:=by refine Cb (Int.sub_neg _ _) ?_;exact Int.sub_nonneg_of_le F
   have H:j+vs.length<vs.length:=by refine Cb (Int.toNat_of_nonneg L) ?_;exact Int.ofNat_lt.mpr (Ro f).1
   refine(?_:(if(decide (0≤if j<0 then j+(vs.length:Int)else j)&&decide ((if j<0 then j+(vs.length:Int)else j)<(vs.length:Int)))=true then some (if j<0 then j+(vs.length:Int)else j).toNat else none)=_);refine aa (if_pos g) (aa (decide_eq_true L) (aa (decide_eq_true H) ?_));rfl
 |fl l'=>
  (refine ve (fun a vs n m w r=>?_)<|Cc R.M hv z;subst m)
  exact xb w r
 |ref M=>
  (refine ve (fun a vs n m w r=>?_)<|Cc R.M hv z;subst m)
  exact xb w r
 |_=>exact nomatch z
theorem rp:∀{kvs:List (Int×V)}{cvs:List (Int×Value)}{j:Int}{y:V},Oo T kvs cvs->Bd kvs j=some y->∃v,valueAt cvs j=some v∧VR T y v:=by
 intro e;induction e with
 |nil=>intro f j y c h;injection h
 |cons g kvs l=>
  intro f j y c h;obtain⟨i,x⟩:=g;obtain⟨v,cvs,rfl,m,r⟩:=c;replace h:(if i=j then some x else Bd kvs j)=some y:=h;by_cases q:i=j
  ·subst q;rw[if_pos rfl]at h;rw[← Bb h];exact⟨v,by simp[valueAt],m⟩
  ·rw[if_neg q]at h;refine ya (fun u a b=>?_)<|l r h
   exact⟨u,by simp only[valueAt,List.find?_cons,decide_eq_false q]at a ⊢;exact a,b⟩
theorem Ep:∀{kvs:List (Int×V)}{cvs:List (Int×Value)}{j:Int},Oo T kvs cvs->Bd kvs j=none->valueAt cvs j=none:=by
 intro c;induction c with
 |nil=>intro e j h b;replace h:_=_:=h;rw[h];rfl
 |cons f kvs g=>
  intro e j h b;obtain⟨i,x⟩:=f;obtain⟨v,cvs,rfl,l,r⟩:=h;replace b:(if i=j then some x else Bd kvs j)=none:=b;by_cases q:i=j
  ·subst q;rw[if_pos rfl]at b;injection b
  ·rw[if_neg q]at b;have a:=g r b;simp only[valueAt,List.find?_cons,decide_eq_false q]at a ⊢;exact a
theorem vd{i:Int}{v:Value}(h:VR T (.int i) v):∃t,v=.int i t:=h
theorem rD(R:Ec G T d env cs I U s){a:V}{v i:Value}{c b:Expr}(hv:VR T X v)(n:VR T a i){Q:V->Prop}(h:Xx U X a Q)(hs:∀o i,subscripted b false o i=operate [o,i] (getItem o i)){E:Value->Shared->Prop}(q:∀y u tk,VR T y u->Q y->K u {s with toks:=tk}):wpAny (model G.prog G.w) A (subscriptTail c b v i) K E s:=by
 refine ya (fun j w h=>?_) h;rw[w]at n
 (refine Aa (fun t e=>?_)<|vd n;refine aa e ?_)
 rcases h with h|h
 ·refine Ig (fun l y z f hb h=>?_) h;exact jF R hv z f hb hs fun u g=>q y u _ g h
 ·refine Df (fun x kvs y m B f h=>?_) h;rw[m]at hv;refine aa (show v=.ref x from hv) ?_;refine Aa (fun L D=>?_)<|R.M.mem _ _ B
  refine ya (fun cvs p F=>?_)<|(R.M.gc _ _ D).2.2
  refine ya (fun u g H=>?_)<|rp F f
  exact tail_any p.typeIs slot_dict_getitem.lookup (wpAny_getItem_of (intKind_is G.prog G.w j t) p.mapOf g (q y u _ H h)) (hs _ _)
theorem Cz(e:E){l u st:Option Expr}:Va d C e (.Slice l u st p)=false:=by apply E.rec (motive_1:=fun e=>Va d C e (.Slice l u st p)=false) (motive_2:=fun a=>True) (motive_3:=fun a=>True) (t:=e)<;>intros<;>first|exact trivial|rfl|assumption
theorem Sp{x:Expr}(h:Va d C e x=true)(o i:Value):subscripted x false o i=operate [o,i] (getItem o i):=by
 cases x with
 |Slice l u st p=>rw[Cz e]at h;injection h
 |_=>rfl
theorem wG{i:E}{v j:Expr}(H:fc G d e)(m:fc G d i)(c:(Va d C e v&&Va d C i j)=true)(h:wb G k false e I U fun v U=>wb G k false i I U fun j U=>Xx U v j fun y=>Q y U):WE G k d C (.Subscript v j pos) I U Q:=fun A T env cs s g l R=>by rw[Bool.and_eq_true]at c;refine Subscript_ (Oa ((H k C v I U c.1).1 _ h A T env cs s g l R) fun T' U' X u s' n o p q=>?_);refine Oa ((m k C j I U' c.2).1 _ q A T' env cs s' g l o) fun t U'' Y w x a b B f=>?_;exact rD b (p.za a) B f (Sp c.2) fun y z tk D F=>Vb.xh (n.trans a) (b.toks tk) D F
theorem mB(R:Ec G T d env cs I U s)(tk:Nat)(o:Obj)(e:o.isFreed=false):∃T',Vd T T'∧Ec G T' d env cs I U {s with heap:=s.heap.push o,toks:=tk}∧(∀a,T' a=T a∨a=s.heap.objs.size):=by
 refine Qa (fun a c=>?_)<|R.push tk o (.Kb o) (Heap.get?_push_size _ e) (fun x q=>by injection q)
 refine⟨_,c,a,fun b=>?_⟩;by_cases q:b=s.heap.objs.size
 ·exact .inr q
 ·exact .inl (qa _ _ q)
theorem LF{x:Int}(h:0≤x)(n:Nat):max 0 (min x (n:Int))=((min x.toNat n:Nat):Int):=by obtain⟨m,rfl⟩:=Int.eq_ofNat_of_zero_le h;refine aa (Int.toNat_natCast _) (aa (Lean.Omega.Int.ofNat_min _ _) ?_);exact Int.max_eq_right (Int.le_min.mpr ⟨vo _,vo _⟩)
theorem uy{vs:List Value}{x:Int}(h:0≤x):slicePick vs.toArray (some x) none none=(vs.drop x.toNat).toArray:=by
 have e:sliceBounds (some x) none none vs.toArray.size=(((min x.toNat vs.toArray.size:Nat):Int),((vs.toArray.size:Nat):Int),1):=by simp only[sliceBounds,Option.getD_none,show(1:Int) > 0 by decide,if_true,if_neg (show ¬(x<0) by exact Int.not_lt.mpr (by assumption))];congr 1;exact LF h _
 refine aa (kmk_pick_nat _ e) ?_;exact aa List.size_toArray (aa (kmk_drop_min _ _) (aa (List.take_of_length_le (by rw[List.length_drop];exact Nat.sub_le_sub_left (Nat.min_le_left _ _) _)) rfl))
theorem vz{vs:List Value}{y:Int}(h:0≤y):slicePick vs.toArray none (some y) none=(vs.take y.toNat).toArray:=by
 have e:sliceBounds none (some y) none vs.toArray.size=(((0:Nat):Int),((min y.toNat vs.toArray.size:Nat):Int),1):=by simp only[sliceBounds,Option.getD_none,show(1:Int) > 0 by decide,if_true,if_neg (show ¬(y<0) by exact Int.not_lt.mpr (by assumption))];congr 1;congr 1;exact LF h _
 refine aa (kmk_pick_nat _ e) ?_;exact aa List.drop_zero (aa (Nat.sub_zero _) (aa List.size_toArray (aa (kmk_take_min _ _) rfl)))
theorem ri(h:n≤Ac):n≤sizeLine:=by unfold sizeLine;have:n≤1000000:=h;exact bc (by assumption) (Pa rfl)
theorem Gr(R:Ec G T d env cs I U s){v e f:Value}{B D:Option Int}{c b:Expr}(hv:VR T X v)(F:lv U X=some l)(hb:l.length≤Ac)(pl:IsPart e B)(M:IsPart f D)(hs:∀o i,subscripted b false o i=operate [i,o] (getItem o i)){l':List V}(N:∀vs,Se T l vs->∃g,slicePick vs.toArray B D none=g.toArray∧Se T l' g){E:Value->Shared->Prop}(q:∀T' u h,Vd T T'->Ec G T' d env cs I U {s with heap:=h}->VR T' (.fl l') u->K u {s with heap:=h}) : wpAny (model G.prog G.w) A (subscriptTail c b v (.ref s.heap.objs.size)) K E {s with heap:=s.heap.push {cls:=.type "slice",data:=.fields #[e,f,.none]}}:=by
 refine Pb (fun T' j H Y=>?_)<|mB R s.toks {cls:=.type "slice",data:=.fields #[e,f,.none]} rfl
 (refine ve (fun a vs n m p r=>?_)<|Cc H.M (hv.za j) F;subst m)
 refine ve (fun a' t n' ev w r'=>?_)<|Cc R.M hv F
 cases ev;have O:t=vs:=by have L:=Heap.get?_push_of_some (h:=s.heap) {cls:=.type "slice",data:=.fields #[e,f,.none]} w;rw[p]at L;have:=Bb L;simp only[Obj.mk.injEq,Data.seq.injEq]at this;exact(List.toArray_inj this.2.2.1.1).symm
 subst O;refine ya (fun g P Q=>?_)<|N _ r'
 refine tail_any (Wb p).typeIs slot_list_getitem.lookup (wpAny_getItem_list_slice (Wb p) (.new _ e f .none) pl M .none (by nofun) ?_ ?_) (hs _ _)
 ·refine aa P ?_;refine Pb (fun x y z W=>?_)<|xt H s.toks true (Q.za j)
  exact q x _ _ (j.trans y) z W
 ·refine aa List.size_toArray (aa r'.length ?_);exact ri hb
theorem RA{c:E}{v j:Expr}(H:fc G d e)(x:fc G d c)(f:(Va d C e v&&Va d C c j)=true)(h:wb G k false (.wh e c) I U Q):WE G k d C (.Subscript v (.Slice (some j) none none p) pos) I U Q:=fun A T env cs s n o R=>by
 rw[Bool.and_eq_true]at f;refine Subscript_ (Oa ((H k C v I U f.1).1 _ h A T env cs s n o R) fun T' U' X u s' y B D F=>?_);refine wpAny_Slice (Oa ((x k C j I U' f.2).1 _ F A T' env cs s' n o B) fun K U'' Y w L b g q a=>?_);refine Ig (fun l j M e hb a=>?_) a
 ·rw[e]at q
  (refine Aa (fun t i=>?_)<|vd q;refine aa i ?_)
  refine wpAny_pure (wpAny_pure ?_);refine Gr g (D.za b) M hb.2 (.int j t) .none (fun N N=>rfl) (fun vs r=>⟨_,uy hb.1,r.drop _⟩) fun T3 z W m O P=>?_;exact Vb.xh ((y.trans b).trans m) O P a
theorem xG{c:E}{v j:Expr}(H:fc G d e)(x:fc G d c)(f:(Va d C e v&&Va d C c j)=true)(h:wb G k false (.gr e c) I U Q):WE G k d C (.Subscript v (.Slice none (some j) none p) pos) I U Q:=fun A T env cs s n o R=>by
 rw[Bool.and_eq_true]at f;refine Subscript_ (Oa ((H k C v I U f.1).1 _ h A T env cs s n o R) fun T' U' X u s' y B D F=>?_);refine wpAny_Slice (wpAny_pure (Oa ((x k C j I U' f.2).1 _ F A T' env cs s' n o B) fun K U'' Y w L b g q a=>?_));refine Ig (fun l j M e hb a=>?_) a
 ·rw[e]at q
  (refine Aa (fun t i=>?_)<|vd q;refine aa i ?_)
  refine wpAny_pure ?_;refine Gr g (D.za b) M hb.2 .none (.int j t) (fun N N=>rfl) (fun vs r=>⟨_,vz hb.1,r.take _⟩) fun T3 z W m O P=>?_;exact Vb.xh ((y.trans b).trans m) O P a
theorem Je{R:Ec G T d env cs I U s}{i:Int}{t:Tok}{tk:Nat}(h:Q (.int i) U):Vb G T d env cs I VR Q (.int i t) {s with toks:=tk}:=
 Vb.xh (Vd.refl T) (R.toks tk) (by exact⟨_,rfl⟩) h
theorem gu{R:Ec G T d env cs I U s}{x:Str}{t:Tok}{tk:Nat}(a:x.length≤n)(h:Q (.gn n) U):Vb G T d env cs I VR Q (.str x t) {s with toks:=tk}:=
 Vb.xh (Vd.refl T) (R.toks tk) (by exact(ej _ _ rfl a)) h
theorem Wd.Pd:∀w:Wd,w.str.length≤16:=(by decide +kernel:∀w:Fin 25,(Wd.str w).length≤16)
theorem Oq(x y:Str):(x++y).length=x.length+y.length:=PySem.strLen_append x y
theorem lB(v:Value):∀n,List.foldl (fun b c=>b++c) (#[]:Array Value) (List.replicate n #[v])=(List.replicate n v).toArray:=by
 have key:∀(n:Nat)(a:List Value),List.foldl (fun b c=>b++c) a.toArray (List.replicate n #[v])=(a++List.replicate n v).toArray:=by
  intro n;induction n with
  |zero=>intro a;simp
  |succ n e=>intro a;refine aa List.replicate_succ (aa List.foldl_cons (aa (show a.toArray++#[v]=(a++[v]).toArray by simp) (aa (e _) ?_)));simp[List.replicate_succ]
 intro n;simpa using key n []
theorem Wq{x:V}{v:Value}(h:VR T x v):∀n,Se T (List.replicate n x) (List.replicate n v):=by
 intro a;induction a with
 |zero=>exact .nil
 |succ n b=>refine aa List.replicate_succ (aa List.replicate_succ ?_);exact .cons h (b)
theorem IB(R:Ec G T d env cs I U s){v:Value}{x y:List V}(l:VR T X u)(hv:VR T Y v)(o:lv U X=some x)(p:lv U Y=some y)(hb:x.length≤Ac∧y.length≤Ac)(h:Q (.fl (x++y)) U):wpAny (model G.prog G.w) A (binaryOp .Add u v) (Vb G T d env cs I VR Q) (fun q q=>False) s:=by
 (refine ve (fun a vs n c i r=>?_)<|Cc R.M l o;refine aa c ?_)
 (refine ve (fun b f m c e j=>?_)<|Cc R.M hv p;refine aa c ?_)
 have g:vs.toArray.size+f.toArray.size≤sizeLine:=by refine aa List.size_toArray (aa List.size_toArray (aa r.length (aa j.length ?_)));have:=Vm;lia
 refine concat_meets (pb _ i rfl) (pb _ e rfl) noFill_list_add seq_list_add PySem.F.slot_list_add PySem.F.entry_list_add (PySem.F.args_list_add_2 _ _) (list_addW a b vs.toArray f.toArray n m none none #[] #[] g) (yc i e ?_);refine aa (by simp:vs.toArray++f.toArray=(vs++f).toArray) ?_;refine Pb (fun T' t w z=>?_)<|xt R s.toks true (r.append j)
 exact Vb.xh t w z h
theorem kA(R:Ec G T d env cs I U s){v:Value}{x y:List V}(p:VR T X u)(hv:VR T Y v)(t:lv U X=some x)(w:lv U Y=some y)(hb:x.length≤Ac∧y.length≤Ac)(h:Md U (.list (x++y)) Q):wpAny (model G.prog G.w) A (binaryOp .Add u v) (Vb G T d env cs I VR Q) (fun i i=>False) s:=by
 (refine ve (fun a vs n c l r=>?_)<|Cc R.M p t;refine aa c ?_)
 (refine ve (fun b f m c g o=>?_)<|Cc R.M hv w;refine aa c ?_)
 have j:vs.toArray.size+f.toArray.size≤sizeLine:=by refine aa List.size_toArray (aa List.size_toArray (aa r.length (aa o.length ?_)));have:=Vm;lia
 have e:vs.toArray++f.toArray=(vs++f).toArray:=by simp
 refine concat_meets (pb _ l rfl) (pb _ g rfl) noFill_list_add seq_list_add PySem.F.slot_list_add PySem.F.entry_list_add (PySem.F.args_list_add_2 _ _) (list_addW a b vs.toArray f.toArray n m none none #[] #[] j) (yc l g ?_);refine aa e ?_;refine tw R s.toks _ (.list (x++y)) (fun i i q=>by injection q) (ej (vs++f) 0 (Heap.get?_push_size _ rfl) ?_) h rfl;refine(r.append o).za fun b e i hb=>?_;refine aa (qa _ _ (fun q=>by rw[q,R.M.Ya (tf _)]at hb;injection hb)) ?_;exact hb
theorem zH{o:Operator}{a b:E}{l r:Expr}(B:fc G d a)(D:fc G d b)(n:(decide (o=.Add)&&Va d C a l&&Va d C b r)=true)(h:wb G k false a I U fun x U=>wb G k false b I U fun y U=>∃l m,lv U x=some l∧lv U y=some m∧(l.length≤Ac∧m.length≤Ac)∧Md U (.list (l++m)) Q):WE G k d C (.BinOp l o r pos) I U Q:=fun A T env cs s w z R=>by
 simp only[Bool.and_eq_true,decide_eq_true_eq]at n
 (refine Qa (fun f F=>?_) n;clear n;refine Qa (fun g H=>?_) f;clear f;refine aa g ?_)
 refine wpAny_BinOp (Oa ((B k C l I U H).1 _ h A T env cs s w z R) fun T' U' X u s' K L M N=>?_);refine Oa ((D k C r I U' F).1 _ N A T' env cs s' w z L) fun q U'' Y v O i t hv c=>?_;refine wpAny_mono (Q:=Vb G q d env cs I VR Q) (E:=fun j j=>False) ?_ (fun j j p=>p.ext (K.trans i)) fun j j e=>e;exact Ig (fun x y P W hb c=>kA t (M.za i) hv P W hb c) c
theorem Kl{P:Int->Int->Prop}{v:Value}{a:Value->Value->Prop}(f:VR T X u)(hv:VR T Y v)(h:dh X Y P)(q:∀x y t b,P x y->a (.int x t) (.int y b)):a u v:=by
 refine Cd (fun x y c e h=>?_) h;rw[c]at f;rw[e]at hv;refine Aa (fun t c=>?_)<|vd f
 refine Aa (fun b e=>?_)<|vd hv
 refine aa c (aa e ?_);exact q x y t b h
theorem gD(R:Ec G T d env cs I U s){v:Value}(a:VR T X u)(hv:VR T Y v)(h:YF U X Y fun z=>Q z U):wpAny (model G.prog G.w) A (binaryOp .Add u v) (Vb G T d env cs I VR Q) (fun b b=>False) s:=by exact Ig (fun x y c e hb h=>IB R a hv c e hb h) h
theorem UE(R:Ec G T d env cs I U s){x:V}{n:Int}{v:Value}(f:VR T (.fl [x]) u)(hv:VR T (.int n) v)(p:0≤n∧n≤1000)(h:Q (.fl (List.replicate n.toNat x)) U):wpAny (model G.prog G.w) A (binaryOp .Mult u v) (Vb G T d env cs I VR Q) (fun b b=>False) s:=by
 refine Aa (fun t e=>?_)<|vd hv
 refine aa e ?_;clear e hv;refine ve (fun a vs m e g r=>?_)<|Cc R.M f rfl
 refine aa e ?_;clear e f;refine Cd (fun v c e l r=>?_) r;rw[e,show c=[] from r]at g;refine ya (fun m' i b=>?_) R.F.ns;refine mul_list (CF i) (Rm _ _) g (by lia) (by lia) (by simp;lia) fun h' F N=>?_;rw[show(if([v]:List Value).toArray.isEmpty=true then 0 else n.toNat)=n.toNat from rfl,lB]at N;refine Qa (fun o j=>?_)<|R.grown i s.toks _ (.fz true (List.replicate n.toNat v)) F N ⟨0,(N _ (.head _)).1⟩ (fun b q=>by exact nomatch q) (fun b b q=>by exact nomatch q)
 exact Vb.xh (X:=.fl (List.replicate n.toNat x)) j o (by exact qf _ _ rfl (da ..) ((Wq l _).za j)) h
theorem ME(R:Ec G T d env cs I U s){v:Value}(a:VR T X u)(hv:VR T Y v)(h:XF X Y fun z=>Q z U):wpAny (model G.prog G.w) A (binaryOp .Mult u v) (Vb G T d env cs I VR Q) (fun b b=>False) s:=by
 rcases h with h|h
 ·apply Kl a hv h;intro x y t g h;refine PySem.P.mul_int (Je (R:=R) h.2) ?_;rcases h.1 with q|q
  ·exact .of_left (intBits_le_64 (by lia) (by lia))
  ·exact .of_right (intBits_le_64 (by lia) (by lia))
 ·refine Ig (fun x n c e f h=>?_) h;rw[c]at a;rw[e]at hv;exact UE R a hv f h
theorem LD(R:Ec G T d env cs I U s){v:Value}(a:VR T X u)(hv:VR T Y v)(h:IF U X Y fun z=>Q z U):wpAny (model G.prog G.w) A (binaryOp .Add u v) (Vb G T d env cs I VR Q) (fun g g=>False) s:=by
 have st:∀{x y:Str}{t b:Tok}{n m:Nat},x.length≤n->y.length≤m->n≤1000->m≤1000->Q (.gn (n+m)) U->wpAny (model G.prog G.w) A (binaryOp .Add (.str x t) (.str y b)) (Vb G T d env cs I VR Q) (fun g g=>False) s:=fun o p F H h=>by
  refine PyProof.Rows.add_str (fun b tk=>gu (R:=R) ?_ h) ?_
  ·refine aa (Oq _ _) ?_;exact Nat.add_le_add o p
  ·unfold sizeLine;lia
 rcases h with h|h|h|h
 ·apply Kl a hv h;exact fun x y t b h=>PySem.P.add_int (Je (R:=R) h)
 ·refine Cd (fun w q i c h=>?_) h;rw[i]at a;rw[c]at hv;refine Aa (fun t e=>?_) a;refine Aa (fun b f=>?_) hv;refine aa e (aa f ?_);exact st (Wd.Pd w) (Wd.Pd q) (Pa rfl) (Pa rfl) h
 ·refine ya (fun n i h=>?_) h;rw[i]at a;refine pd (fun x t e l=>?_) a;refine aa e ?_;rcases h with h|h
  ·refine Pb (fun w c j h=>?_) h;rw[c]at hv;refine Aa (fun b f=>?_) hv;refine aa f ?_;exact st l (Wd.Pd w) j (Pa rfl) h
  ·refine eh (fun m c j B h=>?_) h;rw[c]at hv;refine pd (fun y b f D=>?_) hv;refine aa f ?_;exact st l D j B h
 ·exact gD R a hv h
theorem YE(f:El k A)(R:Ec G T d env cs I U s){c:Operator}{v:Value}(a:VR T X u)(hv:VR T Y v)(h:Bu U c X Y fun z=>Q z U) : wpAny (model G.prog G.w) A (binaryOp c u v) (Vb G T d env cs I VR Q) (fun e e=>False) s:=by
 cases c with
 |Sub=>apply Kl a hv h;exact fun x y t b h=>PySem.P.sub_int (Je (R:=R) h)
 |FloorDiv=>apply Kl a hv h;intro x y t b h;refine floordiv_int (Int.ne_of_gt h.1.1) (Je (R:=R) ?_) (.inl (PyProof.noPylong_small (Int.ofNat_lt.mp (by rw[Int.natAbs_of_nonneg (Int.le_of_lt h.1.1)];exact Int.lt_of_lt_of_le h.1.2 (by decide)))));refine aa (Int.fdiv_eq_ediv_of_nonneg _ (Int.le_of_lt h.1.1)) ?_;exact h.2
 |Mod=>apply Kl a hv h;intro x y t b h;refine mod_int' (Int.ne_of_gt h.1) (Je (R:=R) ?_);refine aa (Int.fmod_eq_emod_of_nonneg _ (Int.le_of_lt h.1)) ?_;exact h.2
 |BitXor=>apply Kl a hv h;exact fun x y t b h=>xor_int (Je (R:=R) h)
 |BitAnd=>apply Kl a hv h;exact fun x y t b h=>and_int (Je (R:=R) h)
 |Mult=>exact ME R a hv h
 |Add=>exact LD R a hv h
 |_=>cases h
theorem TG{t o:Operator}{a b:E}{l r:Expr}(B:fc G d a)(D:fc G d b)(i:(decide (t=o)&&Va d C a l&&Va d C b r)=true)(h:wb G k false a I U fun x U=>wb G k false b I U fun y U=>Bu U t x y fun z=>Q z U):WE G k d C (.BinOp l o r pos) I U Q:=fun A T env cs s j w R=>by
 simp only[Bool.and_eq_true,decide_eq_true_eq]at i
 (refine Qa (fun c F=>?_) i;clear i;refine Qa (fun f H=>?_) c;clear c;subst f)
 refine wpAny_BinOp (Oa ((B k C l I U H).1 _ h A T env cs s j w R) fun T' U' X u s' K L M N=>?_);refine Oa ((D k C r I U' F).1 _ N A T' env cs s' j w L) fun O U'' Y v P g m hv n=>?_;exact wpAny_mono (YE j m (M.za g) hv n) (fun q q p=>p.ext (K.trans g)) fun q q e=>e
theorem Wd.Em(a b:Wd)(h:a.str=b.str):a=b:=by have q:=(by decide +kernel:∀a b:Fin 25,(!decide (Wd.str a=Wd.str b)||decide (a=b))=true) a b;rw[decide_eq_true h]at q;exact Ub q
theorem Wd.beq(a b:Wd):(a.str==b.str)=decide (a=b):=by
 by_cases h:a=b
 ·subst h;simp
 ·refine aa (decide_eq_false h) ?_;exact beq_eq_false_iff_ne.mpr fun q=>h (Wd.Em a b q)
theorem Wd.ok:∀w:Wd,PyData.strOk w.str=true:=(by decide +kernel:∀w:Fin 25,PyData.strOk (Wd.str w)=true)
mutual
theorem V.Oz:∀(n:Nat)(x:V),V.ok n x=true->x.py.canLay0=true∧x.py.depth≤n
 |_,.none,_=>⟨rfl,Nat.zero_le _⟩
 |_,.bool _,_=>⟨rfl,Nat.zero_le _⟩
 |_,.int _,_=>⟨rfl,Nat.zero_le _⟩
 |_,.wd w,_=>⟨Wd.ok w,Nat.zero_le _⟩
 |0,.Ba _,h=>(Fc h).elim
 |0,.fl _,h=>(Fc h).elim
 |n+1,.Ba l,h=>⟨(V.Qs n l h).1,Nat.succ_le_succ (V.Qs n l h).2⟩
 |n+1,.fl l,h=>⟨(V.Qs n l h).1,Nat.succ_le_succ (V.Qs n l h).2⟩
 |_,.gn _,h=>(Fc h).elim
 |_,.ref _,h=>(Fc h).elim
theorem V.Qs:∀(n:Nat)(l:List V),V.zj n l=true->PyData.canLayAll0 (V.RC l)=true∧PyData.depthAll (V.RC l)≤n
 |_,[],_=>⟨rfl,Nat.zero_le _⟩
 |n,x::xs,h=>by have a:=V.Oz n x (Eb h).1;have b:=V.Qs n xs (Eb h).2;refine⟨?_,Nat.max_le.mpr ⟨a.2,b.2⟩⟩;refine(?_:(_&&_)=true);refine aa a.1 (aa b.1 ?_);rfl
end
mutual
theorem V.Xn:∀(n m:Nat)(x y:V),V.ok n x=true->V.ok m y=true->PyData.eqv x.py y.py=V.eqv x y
 |0,_,.Ba _,_,h,_=>(Fc h).elim
 |0,_,.fl _,_,h,_=>(Fc h).elim
 |_,_,.gn _,_,h,_=>(Fc h).elim
 |_,_,.ref _,_,h,_=>(Fc h).elim
 |_,m,.none,y,_,h=>by cases y<;>first|rfl|exact(Fc h).elim
 |_,m,.bool a,y,_,h=>by cases y<;>first|rfl|exact(Fc h).elim
 |_,m,.int a,y,_,h=>by cases y<;>first|rfl|exact(Fc h).elim
 |_,m,.wd a,y,_,h=>by cases y<;>first|exact Wd.beq a _|rfl|exact(Fc h).elim
 |n+1,m,.Ba l,y,h,h'=>by
  cases y with
  |Ba l'=>cases m with
   |zero=>exact(Fc h').elim
   |succ m=>exact V.Wt n m l l' h h'
  |_=>first|rfl|exact(Fc h').elim
 |n+1,m,.fl l,y,h,h'=>by
  cases y with
  |fl l'=>cases m with
   |zero=>exact(Fc h').elim
   |succ m=>exact V.Wt n m l l' h h'
  |_=>first|rfl|exact(Fc h').elim
theorem V.Wt:∀(n m:Nat)(x y:List V),V.zj n x=true->V.zj m y=true->PyData.eqvAll (V.RC x) (V.RC y)=V.Hy x y
 |_,_,[],[],_,_=>rfl
 |_,_,[],_::_,_,_=>rfl
 |_,_,_::_,[],_,_=>rfl
 |n,m,x::xs,y::ys,h,h'=>by refine(?_:(_&&_)=(_&&_));exact aa (V.Xn n m x y (Eb h).1 (Eb h').1) (aa (V.Wt n m xs ys (Eb h).2 (Eb h').2) rfl)
end
mutual
theorem VR.Sg(R:Ed G T U s):∀(n:Nat)(x:V)(v:Value),VR T x v->V.ok n x=true->∃as,Reads s.heap v x.py as
 |_,.none,_,h,_=>by replace h:_=_:=h;subst h;exact⟨_,Reads.none⟩
 |_,.bool b,_,h,_=>by replace h:_=_:=h;subst h;exact⟨_,Reads.bool b⟩
 |_,.int i,_,h,_=>by(refine Aa (fun t c=>?_) h;clear h;subst c);exact⟨_,Reads.int i t⟩
 |_,.wd w,_,h,_=>by(refine Aa (fun t c=>?_) h;clear h;subst c);exact⟨_,Reads.str w.str t⟩
 |0,.Ba l,_,_,h=>(Fc h).elim
 |0,.fl l,_,_,h=>(Fc h).elim
 |n,.gn _,_,_,h=>(Fc h).elim
 |n,.ref _,_,_,h=>(Fc h).elim
 |n+1,.Ba l,v,h,ho=>by
  (refine Cd (fun a vs e f r=>?_) h;clear h;subst e)
  refine Aa (fun m g=>?_)<|(R.gc _ _ f).2.2
  refine Aa (fun as q=>?_)<|Se.Sg R n l vs r (by exact ho)
  exact⟨_,reads_tuple_at g rfl rfl (by exact q)⟩
 |n+1,.fl l,v,h,ho=>by
  (refine Cd (fun a vs e f r=>?_) h;clear h;subst e)
  refine Aa (fun m g=>?_)<|(R.gc _ _ f).2.2
  refine Aa (fun as q=>?_)<|Se.Sg R n l vs r (by exact ho)
  exact⟨_,reads_list_at g rfl rfl (by exact q)⟩
theorem Se.Sg(R:Ed G T U s):∀(n:Nat)(l:List V)(vs:List Value),Se T l vs->V.zj n l=true->∃as,ReadsAll s.heap vs (V.RC l) as
 |_,[],_,h,_=>by replace h:_=_:=h;subst h;exact⟨_,ReadsAll.nil⟩
 |n,x::xs,_,h,c=>by
  (refine Cd (fun v e f g i=>?_) h;clear h;subst f)
  replace c:=Eb c;refine Aa (fun as a=>?_)<|VR.Sg R n x v g c.1
  refine Aa (fun bs b=>?_)<|Se.Sg R n xs e i c.2
  exact⟨_,ReadsAll.cons a b⟩
end
theorem Rk{x:V}(h:V.ok 8 x=true):SeqAt.shaped x.py=true:=by have l:=V.Oz 8 x h;unfold SeqAt.shaped;refine aa l.1 ?_;exact decide_eq_true (bc l.2 (by exact Pa rfl))
theorem El.units(a:El k A):A.units+64<cLine:=by have:=a.2.2;unfold cLine;lia
theorem Gs(h:U x=some (.list l)):lv U (.ref x)=some l:=by refine(?_:(match U x with|some (.list l)=>some l|_=>Option.none)=some l);exact aa h rfl
theorem OI(g:El k A)(R:Ed G T U s){v:Value}(i:VR T X u)(hv:VR T Y v){Q:Bool->Prop}(h:dF U X Y Q){E:Value->Shared->Prop}(q:∀b,Q b->K (.bool b) s) : wpAny (model G.prog G.w) A (compareOp .Eq u v) K E s:=by
 rcases h with h|h
 ·refine Ig (fun x l z B D h=>?_) h;rw[z]at i;rw[B]at hv;refine ve (fun a vs n F f r=>?_)<|Cc R (X:=.ref x) (l:=l) i (Gs D)
  refine ve (fun b t m H c L=>?_)<|Cc R (X:=.fl []) hv rfl
  refine aa F (aa H ?_);rw[show t=[] from L]at c;cases l with
  |nil=>rw[show vs=[] from r]at f;exact(SeqAt.RcAt.lists (e:=fun o=>true) (Wb f) (Wb c) rfl (by have:=g.2.2;unfold cLine;lia) (fun j M o=>by cases M)) _ _ _ _ (q _ (by exact h))
  |cons y P=>
   (refine Cd (fun w t p o o=>?_) r;clear r;rw[p]at f)
   exact(SeqAt.RcAt.lists_lengths (Wb f) (Wb c) (bne_iff_ne.mpr (by nofun)) (by have:=g.2.2;unfold cLine;lia)) _ _ _ _ (q _ (by exact h))
 ·refine Aa (fun as N=>?_)<|VR.Sg R 8 _ _ i h.1.1
  refine Aa (fun bs O=>?_)<|VR.Sg R 8 _ _ hv h.1.2
  exact eq_dataH N O (Rk h.1.1) (Rk h.1.2) g.units (by exact V.Xn 8 8 X Y h.1.1 h.1.2▸q _ h.2)
theorem NJ(g:El k A)(R:Ed G T U s){v:Value}(i:VR T X u)(hv:VR T Y v){Q:Bool->Prop}(h:dF U X Y fun r=>Q (!r)){E:Value->Shared->Prop}(q:∀b,Q b->K (.bool b) s) : wpAny (model G.prog G.w) A (compareOp .NotEq u v) K E s:=by
 rcases h with h|h
 ·refine Ig (fun x l z B D h=>?_) h;rw[z]at i;rw[B]at hv;refine ve (fun a vs n F f r=>?_)<|Cc R (X:=.ref x) (l:=l) i (Gs D)
  refine ve (fun b t m H c L=>?_)<|Cc R (X:=.fl []) hv rfl
  refine aa F (aa H ?_);rw[show t=[] from L]at c;cases l with
  |nil=>rw[show vs=[] from r]at f;exact(SeqAt.RcNeAt.lists (e:=fun o=>true) (Wb f) (Wb c) rfl (by have:=g.2.2;unfold cLine;lia) (fun j M o=>by cases M)) _ _ _ _ (q _ (by exact h))
  |cons y P=>
   (refine Cd (fun w t p o o=>?_) r;clear r;rw[p]at f)
   exact(SeqAt.RcNeAt.lists_lengths (Wb f) (Wb c) (bne_iff_ne.mpr (by nofun)) (by have:=g.2.2;unfold cLine;lia)) _ _ _ _ (q _ (by exact h))
 ·refine Aa (fun as N=>?_)<|VR.Sg R 8 _ _ i h.1.1
  refine Aa (fun bs O=>?_)<|VR.Sg R 8 _ _ hv h.1.2
  exact ne_dataH N O (Rk h.1.1) (Rk h.1.2) g.units (by exact V.Xn 8 8 X Y h.1.1 h.1.2▸q _ h.2)
theorem Ll(h:i<2^60):hashInt (i:Int)=i:=by
 unfold hashInt rawHash;have e:(((i:Int).natAbs%(2^61 - 1:Nat):Nat):Int)=i:=by exact aa (Int.natAbs_natCast _) (aa (Nat.mod_eq_of_lt (by exact bc (by assumption) (Pa rfl))) rfl)
 have a:((i:Int).natAbs:Int)%((2^61 - 1:Nat):Int)=i:=by exact e
 have b:¬((i:Int)<0):=by exact Ub rfl
 have c:((i:Int)==-1)=false:=beq_eq_false_iff_ne.mpr (by exact Ub rfl);simp only[a,b,if_false,c,Bool.false_eq_true]
theorem jf:∀{l:List Nat}{es:List (Int×Value)},Rg l es->es.length=l.length:=by
 intro a;induction a with
 |nil=>intro b h;replace h:_=_:=h;subst h;rfl
 |cons c l e=>intro b h;obtain⟨_,f,h,r⟩:=h;subst h;simp[e r]
theorem Gk:∀{l:List Nat}{es:List (Int×Value)},Rg l es->(∀i∈l,i<2^60)->ElemsOf (intKind G.prog G.w) es:=by
 intro a;induction a with
 |nil=>intro b h hb;replace h:_=_:=h;rw[h];exact fun n h=>nomatch h
 |cons i l f=>
  intro b h hb;obtain⟨t,g,h,r⟩:=h;rw[h];intro e c;rcases pg c with rfl|c
  ·exact⟨(pb (i:Int) (by simp[intKind,Value.isInt]) (by simp[intKind,Ll (hb i (.head _))])),rfl⟩
  ·exact f r (fun j m=>hb j (.tail _ m)) e c
theorem Hr:∀{l:List Nat}{es:List (Int×Value)}(k:Int),Rg l es->((l.any fun j=>(j:Int)==k)=true↔∃e∈es,Value.isInt k e.2=true):=by
 intro a;induction a with
 |nil=>intro b k h;replace h:_=_:=h;rw[h];exact Ub rfl
 |cons i l c=>intro b k h;obtain⟨t,f,h,r⟩:=h;rw[h];simp only[List.any_cons,Bool.or_eq_true,(c k r),List.mem_cons,exists_eq_or_imp];simp[Value.isInt]
theorem sh{l:List Nat}{a:Nat}{es:Array (Int×Value)}{c:Nat}{t:SetTable}(f:h.get? a=some {cls:=.type "set",data:=.set es c t})(b:xf l m es t) : h.SetOf (intKind G.prog G.w) a (fun k=>l.any fun j=>(j:Int)==k) l.length:=by
 refine(nB _ es c t f (yc rfl rfl rfl) rfl (Gk b.es (fun i g=>?_)) (fun k=>Hr k b.es) ?_ ?_ (by exact(jf b.es)))
 ·have:=b.small i g;have:=b.Ac;exact Nat.lt_of_le_of_lt (by assumption) (Nat.lt_of_lt_of_le (by assumption) (Pa rfl))
 ·have:=b.zG;have:es.size=l.length:=by exact(jf b.es)
  unfold scanBound;lia
 ·have e:es.size=l.length:=by exact(jf b.es)
  simp only[SetTable.fits,SetTable.fill,b.place,b.dummies,b.Jo,List.size_toArray,Bool.and_eq_true,beq_iff_eq,decide_eq_true_eq];have:=b.Pd;exact⟨e.symm,by exact this⟩
theorem ki(c:G.Ok)(f:G.wg.heap.objs.size≤a):(a==sysModules)=false:=by refine sF (fun p b mg mb t=>?_) c.dH;have e:=t.g.lt;refine beq_eq_false_iff_ne.mpr fun q=>?_;unfold sysModules at q;unfold mainGlobals at e;lia
theorem ot(c:V.ok 8 X=true):∀l:List V,V.zj 8 l=true->((V.RC l).any fun y=>PyData.eqv y X.py)=l.any fun y=>V.eqv y X:=by
 intro l;induction l with
 |nil=>exact fun f=>rfl
 |cons y b e=>intro a;replace a:=Eb a;refine(?_:(PyData.eqv y.py X.py||(V.RC b).any fun y=>PyData.eqv y X.py)=(V.eqv y X||b.any fun y=>V.eqv y X));exact aa (e a.2) (aa (V.Xn 8 8 y X a.1 c) rfl)
theorem dI(W:G.Ok)(hA:El k A)(R:Ed G T U s){v:Value}(z:VR T X u)(hv:VR T Y v){Q:Bool->Prop}(h:AE U X Y Q){E:Value->Shared->Prop}(q:∀b tk,Q b->K (.bool b) {s with toks:=tk}) : wpAny (model G.prog G.w) A (compareOp .In u v) K E s:=by
 have f:∀c e:Nat,c≤8->A.units+1+min e c<cLine:=fun c e F=>by have:=hA.2.2;have:=Nat.min_le_right e c;unfold cLine;lia
 rcases h with h|h|h
 ·refine Df (fun i x kvs H L M h=>?_) h;rw[H]at z;rw[L]at hv
  (refine Aa (fun t g=>?_)<|vd z;refine aa g (aa (show v=.ref x from hv) ?_))
  refine Aa (fun dx F=>?_)<|R.mem _ _ M
  (refine Nb (fun g1 g2 B=>?_)<|R.gc _ _ F;refine ya (fun cvs hD O=>?_) B;clear B)
  refine wpAny_in_of (intKind_is G.prog G.w i t) (ki W (g1 rfl)) hD.mapOf (q _ _ ?_);cases e:Bd kvs i with
  |some y=>refine ya (fun w hw ζ=>?_)<|rp O e;refine aa hw ?_;rw[e]at h;exact h
  |none=>refine aa (Ep O e) ?_;rw[e]at h;exact h
 ·refine NG (fun i x l m H L M h=>?_) h;rw[H]at z;rw[L]at hv
  (refine Aa (fun t g=>?_)<|vd z;refine aa g (aa (show v=.ref x from hv) ?_))
  refine Aa (fun dx F=>?_)<|R.mem _ _ M
  refine qh (fun es ep tt D ok=>?_)<|(R.gc _ _ F).2.2
  exact wpAny_inSet_of (intKind_is G.prog G.w i t) rfl (sh D ok) (q _ _ h)
 ·refine eh (fun l hl j p h=>?_) h;refine Aa (fun bs P=>?_)<|VR.Sg R 8 _ _ z j
  rcases hl with e|e
  ·rw[e]at hv
   (refine ve (fun a vs n o D r=>?_)<|Qn R hv;refine aa o ?_)
   refine Aa (fun as N=>?_)<|Se.Sg R 8 _ _ r p
   exact SeqAt.in_tuple_reads (reads_tuple_at D rfl rfl (by exact N)) P (V.Qs 8 l p).1 (V.Oz 8 X j).1 (f _ _ (V.Oz 8 X j).2) (by refine aa (ot j l p) ?_;exact q _ s.toks h)
  ·(refine ve (fun a vs n o D r=>?_)<|Cc R hv e;refine aa o ?_)
   refine Aa (fun as N=>?_)<|Se.Sg R 8 _ _ r p
   exact SeqAt.in_list_reads (reads_list_at D rfl rfl (by exact N)) P (V.Qs 8 l p).1 (V.Oz 8 X j).1 (f _ _ (V.Oz 8 X j).2) (by refine aa (ot j l p) ?_;exact q _ s.toks h)
theorem Kt:entryFor table "set.__le__" = some Builtin.«frozenset.__le__»:=
 entryFor_alias (id':="frozenset.__le__") (by kernel_rfl) rfl (by decide +kernel) (by kernel_rfl)
theorem nq{E:Value->Shared->Prop}{e a:Type}(p:e->Bool)(b g:a)(f:e->a->Sem (ForInStep a)) : ∀(l:List e){Q:a->Shared->Prop},(∀x∈l,∀Q:ForInStep a->Shared->Prop,Q (if p x=true then .done g else .yield b) s->wpAny M A (f x b) Q E s)->Q (if l.any p=true then g else b) s->wpAny M A (forIn l b f) Q E s:=by
 intro l;induction l with
 |nil=>intro Q _ q;exact wpAny_pure (by exact q)
 |cons x xs i=>
  intro Q h q;rewrite[List.forIn_cons];refine wpAny_bind (h x (.head _) _ ?_);by_cases c:p x=true
  ·refine aa (if_pos c) ?_;exact wpAny_pure (by simpa[c]using q)
  ·refine aa (if_neg c) ?_;exact i (fun y j=>h y (.tail _ j)) (by simpa[c]using q)
theorem ay{i:Int}{t:Tok}{E:Value->Shared->Prop}{Q:Bool->Shared->Prop}(q:Q true s):wpAny M A (Builtin.Frozenset.quietEq (.int i t)) Q E s:=wpAny_pure q
theorem rj:∀{l:List Nat}{es:List (Int×Value)},Rg l es->∀e∈es,∃i t,i∈l∧e=((i:Int),.int i t)
 | [],es,h,e,c=>by replace h:es=[]:=h;subst h;exact nomatch c
 |i::l,_,⟨t,es',h,r⟩,e,c=>by
  rw[h]at *;clear h;rcases pg c with rfl|c
  ·exact⟨i,t,.head _,rfl⟩
  ·refine pd (fun j u a b=>?_)<|rj r e c;exact⟨j,u,.tail _ a,b⟩
theorem az(p:Nat->Bool):∀{l:List Nat}{es:List (Int×Value)},Rg l es->(es.any fun e=>p e.1.toNat)=l.any p:=by
 intro a;induction a with
 |nil=>intro b h;replace h:_=_:=h;refine aa h ?_;rfl
 |cons i l c=>intro b h;obtain⟨t,f,h,r⟩:=h;refine aa h ?_;simp[c r]
theorem Rf{l:List Nat}{es:Array (Int×Value)}{t:SetTable}(a:xf l m es t):t.fits es.size=true:=by
 have b:=jf a.es;have e:es.size=l.length:=by exact b
 simp only[SetTable.fits,SetTable.fill,a.place,a.dummies,a.Jo,List.size_toArray,Bool.and_eq_true,beq_iff_eq,decide_eq_true_eq];have:=a.Pd;exact⟨e.symm,by exact this⟩
theorem pz{id:String}{b:Addr}{l:List Nat}{es n:Array (Int×Value)}{H z:Nat}{t K:SetTable}(w:s.heap.get? a=some {cls:=.type "set",data:=.set es H t})(c:xf l m es t)(o:s.heap.get? b=some {cls:=.type "set",data:=.set n z K})(f:xf l' m' n K){E:Value->Shared->Prop}{Q:Bool->Shared->Prop}(q:Q (decide (l.length≤l'.length)&&l.all fun i=>l'.contains i) s) : wpAny (model G.prog G.w) A (Builtin.Frozenset.subsetOf id a b) Q E s:=by
 have L:es.size=l.length:=by simpa using jf c.es
 refine wpAny_bind (wpAny_bind (wpAny_setEntries_of w rfl (Rf c) (wpAny_pure ?_)));refine wpAny_bind (wpAny_bind (wpAny_setEntries_of o rfl (Rf f) (wpAny_pure ?_)));refine aa L (aa (by simpa using jf f.es:n.size=l'.length) ?_);by_cases g:l.length > l'.length
 ·refine aa (if_pos g) ?_;refine wpAny_pure ?_;rw[decide_eq_false (by exact Nat.not_le.mpr (by assumption))]at q;simpa using q
 refine aa (if_neg g) ?_;rw[decide_eq_true (by exact Nat.not_lt.mp (by assumption))]at q;refine wpAny_bind (wpAny_setEpoch_of w rfl (Rf c) ?_);refine wpAny_bind ?_;refine wpAny_bind (wpAny_setEntries_of w rfl (Rf c) ?_);refine wpAny_bind (wpAny_setEntries_of o rfl (Rf f) ?_);refine wpAny_bind (nq (fun M=>false) (none,()) (none,()) _ _ (fun e p Q v=>?_) ?_)
 ·have N:∃i t,e.2=.int i t:=by
   rcases List.mem_append.mp p with p|p
   ·refine pd (fun i u M h=>?_)<|rj c.es e p;exact⟨_,u,by exact aa h rfl⟩
   ·refine pd (fun i u M h=>?_)<|rj f.es e p;exact⟨_,u,by exact aa h rfl⟩
  (refine Lk (fun i u h=>?_) N;clear N)
  obtain⟨X,Y⟩:=e;subst h;exact wpAny_bind (ay (wpAny_pure (by exact v)))
 ·refine aa (ite_self _) ?_;refine wpAny_pure ?_;refine wpAny_bind (nq (fun e:Int×Value=>!l'.contains e.1.toNat) (none,()) (some false,()) _ _ (fun e p Q v=>?_) ?_)
  ·(refine pd (fun i u P B=>?_)<|rj c.es e p;subst B)
   refine wpAny_bind (wpAny_holding ?_);have R:((i:Nat):Int)=(intKind G.prog G.w).hash (i:Int):=by have:=c.small i P;have:=c.Ac;simp[intKind,Ll (show i<2^60 by exact Nat.lt_of_le_of_lt (by assumption) (Nat.lt_of_lt_of_le (by assumption) (Pa rfl)))]
   have O:=wpAny_setFind_of (A:=A) (E:=E) (intKind_is G.prog G.w (i:Int) u) rfl (sh (G:=G) o f) (Q:=fun r s'=>wpAny (model G.prog G.w) A (if r.isNone=true then pure (ForInStep.done (some false,()))else do
    Builtin.Frozenset.unchanged id a H
    pure (ForInStep.yield (none,()))) Q E s') (fun r D=>?_)
   ·rw[← R]at O;exact O
   have F:(l'.any fun j=>(j:Int)==(i:Int))=l'.contains i:=by
    rewrite[Bool.eq_iff_iff];simp only[List.any_eq_true,beq_iff_eq,List.contains_iff_mem];constructor
    ·(intro y;(refine ya (fun x T e=>?_) y;clear y));refine aa (show i=x by lia) ?_;exact T
    ·intro h;exact⟨i,h,rfl⟩
   rw[F]at D;simp only[Int.toNat_natCast,Bool.not_eq_true']at v;induction r with
   |none=>
    have:l'.contains i=false:=by exact D.symm
    rw[this]at v;exact wpAny_pure (by exact v)
   |some j=>
    have:l'.contains i=true:=by exact D.symm
    rw[this]at v;refine wpAny_bind (wpAny_bind (wpAny_setEpoch_of w rfl (Rf c) ?_));simp only[bne_self_eq_false,Bool.false_eq_true,if_false];exact wpAny_pure (wpAny_pure (by exact v))
  ·have F:(es.toList.any fun e=>!l'.contains e.1.toNat)=!(l.all fun i=>l'.contains i):=by
    refine aa (az (fun i=>!l'.contains i) c.es) ?_;induction l with
    |nil=>rfl
    |cons x xs W=>clear q L g W c w;generalize x::xs=l;induction l<;>simp_all [Bool.not_and]
   refine aa F ?_;induction hb:(l.all fun i=>l'.contains i)
   ·rw[hb]at q;exact wpAny_pure q
   ·rw[hb]at q;exact wpAny_pure q
theorem nF(args:Args):Builtin.«frozenset.__le__» args=(do
 let(self,other) ← Builtin.Frozenset.slot1 "__le__" args
 if !(← Builtin.Frozenset.isAnySet other)then rule s!"frozenset.{"__le__"}.declined";return ← ret .notImplemented
 let id:=s!"frozenset.{"__le__"}";let v ← Builtin.Frozenset.addrOf self;let w ← Builtin.Frozenset.addrOf other;let _n ← Builtin.Frozenset.sizeOf v;let _m ← Builtin.Frozenset.sizeOf w
 ret (.bool (← Builtin.Frozenset.subsetOf id v w))):=rfl
theorem lC(p:El k A){b:Addr}{l:List Nat}{es f:Array (Int×Value)}{u n:Nat}{t o:SetTable}(g:s.heap.get? a=some {cls:=.type "set",data:=.set es u t})(j:xf l m es t)(c:s.heap.get? b=some {cls:=.type "set",data:=.set f n o})(e:xf l' m' f o){E:Value->Shared->Prop}{Q:Value->Shared->Prop}(q:Q (.bool (decide (l.length≤l'.length)&&l.all fun i=>l'.contains i)) s) : wpAny (model G.prog G.w) A (compareOp .LtE (.ref a) (.ref b)) Q E s:=by refine(?_:wpAny _ _ (richCompare .LtE (.ref a) (.ref b)) _ _ _);refine wpAny_richCompare_same_room (((sh (G:=G) g j).typeIs):s.TypeIs (.ref a) "set") (((sh (G:=G) c e).typeIs):s.TypeIs (.ref b) "set") F.slot_set_le (wpAny_call_entry F.slot_set_le (((sh (G:=G) g j).typeIs):s.TypeIs (.ref a) "set") Kt ?_ (F.args_set_le_2 _ _)) (by have:=p.units;exact Nat.lt_of_le_of_lt (pn _ _) (by assumption));refine aa (nF _) ?_;unfold Builtin.Frozenset.slot1 slotArgs;simp only[List.isEmpty_nil,Bool.not_true,Bool.false_eq_true,↓reduceIte,bind_assoc];refine wpAny_bind (wpAny_pure (wpAny_bind (wpAny_pure ?_)));refine wpAny_bind (wpAny_bind (wpAny_isInstance (((sh (G:=G) c e).typeIs):s.TypeIs (.ref b) "set") (b:=true) sub_set_self ?_));refine wpAny_pure ?_;refine wpAny_bind (wpAny_pure (wpAny_bind (wpAny_pure ?_)));refine wpAny_bind (wpAny_bind (wpAny_setEntries_of g rfl (Rf j) (wpAny_pure ?_)));refine wpAny_bind (wpAny_bind (wpAny_setEntries_of c rfl (Rf e) (wpAny_pure ?_)));refine wpAny_bind (pz g j c e ?_);exact wpAny_pure ⟨_,rfl,(fun h=>by exact nomatch h),q⟩
theorem FA(W:G.Ok)(hA:El k A)(R:Ed G T U s){v:Value}(z:VR T X u)(hv:VR T Y v){Q:Bool->Prop}(h:AE U X Y fun r=>Q (!r)){E:Value->Shared->Prop}(q:∀b tk,Q b->K (.bool b) {s with toks:=tk}) : wpAny (model G.prog G.w) A (compareOp .NotIn u v) K E s:=by
 have f:∀c e:Nat,c≤8->A.units+1+min e c<cLine:=fun c e F=>by have:=hA.2.2;have:=Nat.min_le_right e c;unfold cLine;lia
 rcases h with h|h|h
 ·refine Df (fun i x kvs H L M h=>?_) h;rw[H]at z;rw[L]at hv
  (refine Aa (fun t g=>?_)<|vd z;refine aa g (aa (show v=.ref x from hv) ?_))
  refine Aa (fun dx F=>?_)<|R.mem _ _ M
  (refine Nb (fun g1 g2 B=>?_)<|R.gc _ _ F;refine ya (fun cvs hD O=>?_) B;clear B)
  refine wpAny_notIn_of (intKind_is G.prog G.w i t) (ki W (g1 rfl)) hD.mapOf (q _ _ ?_);cases e:Bd kvs i with
  |some y=>refine ya (fun w hw ζ=>?_)<|rp O e;refine aa hw ?_;rw[e]at h;exact h
  |none=>refine aa (Ep O e) ?_;rw[e]at h;exact h
 ·refine NG (fun i x l m H L M h=>?_) h;rw[H]at z;rw[L]at hv
  (refine Aa (fun t g=>?_)<|vd z;refine aa g (aa (show v=.ref x from hv) ?_))
  refine Aa (fun dx F=>?_)<|R.mem _ _ M
  refine qh (fun es ep tt D ok=>?_)<|(R.gc _ _ F).2.2
  exact wpAny_notInSet_of (intKind_is G.prog G.w i t) rfl (sh D ok) (q _ _ h)
 ·refine eh (fun l hl j p h=>?_) h;refine Aa (fun bs P=>?_)<|VR.Sg R 8 _ _ z j
  rcases hl with e|e
  ·rw[e]at hv
   (refine ve (fun a vs n o D r=>?_)<|Qn R hv;refine aa o ?_)
   refine Aa (fun as N=>?_)<|Se.Sg R 8 _ _ r p
   exact SeqAt.notIn_tuple_reads (reads_tuple_at D rfl rfl (by exact N)) P (V.Qs 8 l p).1 (V.Oz 8 X j).1 (f _ _ (V.Oz 8 X j).2) (by refine aa (ot j l p) ?_;exact q _ s.toks h)
  ·(refine ve (fun a vs n o D r=>?_)<|Cc R hv e;refine aa o ?_)
   refine Aa (fun as N=>?_)<|Se.Sg R 8 _ _ r p
   exact SeqAt.notIn_list_reads (reads_list_at D rfl rfl (by exact N)) P (V.Qs 8 l p).1 (V.Oz 8 X j).1 (f _ _ (V.Oz 8 X j).2) (by refine aa (ot j l p) ?_;exact q _ s.toks h)
theorem VR.TF:∀{X:V}{v:Value},VR T X v->(v==.none)=(match X with| .none=>true|_=>false)
 | .none,_,h=>by replace h:_=_:=h;refine aa h ?_;rfl
 | .bool _,_,h=>by replace h:_=_:=h;refine aa h ?_;rfl
 | .int _,_,h=>by(refine Aa (fun t b=>?_) h;clear h;refine aa b ?_);rfl
 | .wd _,_,h=>by(refine Aa (fun t b=>?_) h;clear h;refine aa b ?_);rfl
 | .gn _,_,h=>by(refine pd (fun x t a c=>?_) h;clear h;refine aa a ?_);rfl
 | .Ba _,_,h=>by(refine pd (fun x t a c=>?_) h;clear h;refine aa a ?_);rfl
 | .fl _,_,h=>by(refine pd (fun x t a c=>?_) h;clear h;refine aa a ?_);rfl
 | .ref _,_,h=>by replace h:_=_:=h;refine aa h ?_;rfl
theorem Jn(p:G.Ok)(g:El k A)(R:Ed G T U s){i:CmpOp}{v:Value}(c:VR T X u)(hv:VR T Y v){Q:Bool->Prop}(h:ro U i X Y Q){E:Value->Shared->Prop}(q:∀b tk,Q b->K (.bool b) {s with toks:=tk}) : wpAny (model G.prog G.w) A (compareOp i u v) K E s:=by
 induction i with
 |Eq=>exact OI g R c hv h fun b hb=>q b s.toks hb
 |NotEq=>exact NJ g R c hv h fun b hb=>q b s.toks hb
 |In=>exact dI p g R c hv h q
 |NotIn=>exact FA p g R c hv h q
 |Is=>rw[h.1]at hv;refine aa (show v=.none from hv) ?_;refine is_none (q _ s.toks ?_);refine aa c.TF ?_;have h:=h.2;cases X<;>exact h
 |IsNot=>rw[h.1]at hv;refine aa (show v=.none from hv) ?_;refine isNot_none (q _ s.toks ?_);refine aa c.TF ?_;have h:=h.2;cases X<;>exact h
 |Lt=>
  refine Cd (fun x y e f h=>?_) h;rw[e]at c;rw[f]at hv
  (refine Aa (fun t a=>?_)<|vd c;refine aa a ?_)
  (refine Aa (fun j a=>?_)<|vd hv;refine aa a ?_)
  exact PySem.P.lt_int (q _ s.toks h)
 |Gt=>
  refine Cd (fun x y e f h=>?_) h;rw[e]at c;rw[f]at hv
  (refine Aa (fun t a=>?_)<|vd c;refine aa a ?_)
  (refine Aa (fun j a=>?_)<|vd hv;refine aa a ?_)
  exact PySem.P.gt_int (q _ s.toks h)
 |GtE=>
  refine Cd (fun x y e f h=>?_) h;rw[e]at c;rw[f]at hv
  (refine Aa (fun t a=>?_)<|vd c;refine aa a ?_)
  (refine Aa (fun j a=>?_)<|vd hv;refine aa a ?_)
  exact PySem.P.ge_int (q _ s.toks h)
 |LtE=>
  rcases h with h|h
  ·refine Cd (fun x y e f h=>?_) h;rw[e]at c;rw[f]at hv
   (refine Aa (fun t a=>?_)<|vd c;refine aa a ?_)
   (refine Aa (fun j a=>?_)<|vd hv;refine aa a ?_)
   exact PySem.P.le_int (q _ s.toks h)
  ·obtain⟨x,y,l,l',m,m',e,f,w,z,h⟩:=h;rw[e]at c;rw[f]at hv;refine aa (show u=.ref x from c) (aa (show v=.ref y from hv) ?_);refine Aa (fun O B=>?_)<|R.mem _ _ w;refine Aa (fun P D=>?_)<|R.mem _ _ z;refine qh (fun es W tt F H=>?_)<|(R.gc _ _ B).2.2;refine qh (fun L M N n o=>?_)<|(R.gc _ _ D).2.2;exact lC g F H n o (q _ s.toks h)
noncomputable def kp:Expr->Bool
 | .UnaryOp .Not _ _| .BoolOp ..| .IfExp ..| .Compare ..=>false
 |_=>true
theorem Nv{x:Expr}{a:Sem Value}(h:kp x=true):isTrue x env a=(do let v ← a;standAt x.pos;holding [v] (truthy v)):=by
 cases x with
 |UnaryOp b y p=>induction b<;>first|rfl|exact(Fc h).elim
 |_=>first|rfl|exact(Fc h).elim
theorem VG(R:Ed G T U s){v:Value}(hv:VR T X v)(h:lv U X=some l):∃a vs,v=.ref a∧s.heap.IsList a vs.toArray∧Se T l vs:=by
 refine ve (fun a vs n e b r=>?_)<|Cc R hv h
 exact⟨a,vs,e,Wb b,r⟩
set_option tactic.hygienic true in
theorem Nx(R:Ed G T U s){v:Value}(hv:VR T X v){Q:Bool->Prop}(h:yg U X Q){K:Bool->Shared->Prop}{E:Value->Shared->Prop}(q:∀b tk,Q b->K b {s with toks:=tk}) : wpAny (model G.prog G.w) A (truthy v) K E s:=by
 unfold yg at h;split at h
 ·replace hv:_=_:=hv;refine aa hv ?_;exact wpAny_truthy_bool (q _ s.toks h)
 ·split at h
  ·rename_i l f
   (refine Cd (fun a vs e g r=>?_)<|VG R hv f;refine aa e ?_)
   have c:=r.length;refine wpAny_truthy_list g (by refine aa List.size_toArray (aa c ?_);lia) (q _ _ ?_);have:vs.toArray.isEmpty=l.isEmpty:=by cases l<;>cases vs<;>simp_all
   refine aa this ?_;exact h.2
  ·exact h.elim
theorem IJ{x:Expr}{Q:Bool->Mem->Prop}(c:kp x=true)(h:WE G k d C x I U fun v U=>yg U v fun b=>Q b U):WB G k d C x I U Q:=fun A T env cs s e f R=>by refine wpAny_isTrue_value ?_ (Nv c);refine Oa (h A T env cs s e f R) fun T' U' X v s' g a hv i=>?_;exact Nx a.M hv i fun b tk hb=>Vb.xh g (a.toks tk) rfl hb
theorem Bc(H:∀k C x I U,Va d C e x=true->kp x=true∧∀Q,wb G k false e I U Q->WE G k d C x I U Q)(b:∀k I U Q,wb G k true e I U Q=wb G k false e I U Q):fc G d e:=
 fun k C x I U a=>⟨fun Q h=>(H k C x I U a).2 Q h,fun Q h=>IJ (H k C x I U a).1 ((H k C x I U a).2 _ (by rw[ck,b]at h;exact h))⟩
theorem wF(e:E){l:List Expr}{u:Nat}:Va d C e (.Set l u p)=false:=by apply E.rec (motive_1:=fun e=>Va d C e (.Set l u p)=false) (motive_2:=fun a=>True) (motive_3:=fun a=>True) (t:=e)<;>intros<;>first|exact trivial|rfl|assumption
theorem Qt{x:Expr}{a:CmpOp}(h:Va d C e x=true):behindInMarks a x=false:=by
 cases x with
 |Set l u p=>rw[wF e]at h;exact(Fc h).elim
 |_=>rfl
theorem HG(w:G.Ok){D:CmpOp}{a b:E}(y:fc G d a)(z:fc G d b):fc G d (.ta D a b):=fun k C x I U F=>by
 apply vD F;intro l r pos B j
 ·refine⟨fun Q h A T env cs s f i R=>?_,fun Q h A T env cs s f i R=>?_⟩
  ·skip;refine wpAny_Compare1 (Oa ((y k C l I U B).1 _ h A T env cs s f i R) fun T' U' X u s' m n o p=>?_) (Qt j);refine Oa ((z k C r I U' j).1 _ p A T' env cs s' f i n) fun q U'' Y v t c e hv g=>?_;exact Jn w f e.M (o.za c) hv g fun b tk hb=>Vb.xh (m.trans c) (e.toks tk) (by exact rfl) hb
  ·skip;refine wpAny_isTrue_Compare1 (Oa ((y k C l I U B).1 _ h A T env cs s f i R) fun T' U' X u s' m n o p=>?_) (Qt j);refine Oa ((z k C r I U' j).1 _ p A T' env cs s' f i n) fun q U'' Y v t c e hv g=>?_;refine Jn w f e.M (o.za c) hv g fun b tk hb=>?_;exact wpAny_truthy_bool (Vb.xh (m.trans c) (e.toks tk) rfl (by exact hb))
theorem Vb.b{Q:Bool->Mem->Prop}{b:Bool}{s':Shared}(a:Vd T T')(R:Ec G T' d env cs I U' s')(q:Q b U'):Vb G T d env cs I (fun c(b:Bool) v=>v=b) Q b s':=Vb.xh (X:=b) a R rfl q
theorem oF(z:G.Ok){o1 O:CmpOp}{a b c:E}(P:fc G d a)(W:fc G d b)(Hc:fc G d c):fc G d (.Pg o1 O a b c):=fun k C x I U hc=>by
 apply oB hc;intro l B D pos h1 h2 F
 ·have hm:lastMarks [o1,O] [B,D]=false:=by simp only[lastMarks];exact Qt F
  refine⟨fun Q h A T env cs s g m R=>?_,fun Q h A T env cs s g m R=>?_⟩
  ·skip;refine Compare_chain (Oa ((P k C l I U h1).1 _ h A T env cs s g m R) fun T' U' X u s' q H K L=>?_) hm;refine chain_link (Oa ((W k C B I U' h2).1 _ L A T' env cs s' g m H) fun n U'' Y v M f i hv o=>?_);refine Jn z g i.M (K.za f) hv o fun b tk hb=>wpAny_truthy_bool ?_;have t:=i.toks tk;cases b with
   |false=>exact Vb.xh (X:=.bool false) (q.trans f) t (by exact rfl) (by exact hb)
   |true=>refine chain_last (Oa ((Hc k C D I U'' F).1 _ hb A n env cs _ g m t) fun T4 U4 e w s4 j y N p=>?_);exact Jn z g y.M (hv.za j) N p fun b tk hb=>Vb.xh ((q.trans f).trans j) (y.toks tk) (by exact rfl) hb
  ·rw[ck,RK]at h;refine isTrue_chain (Oa ((P k C l I U h1).1 _ h A T env cs s g m R) fun T' U' X u s' q H K L=>?_) hm;refine test_link (Oa ((W k C B I U' h2).1 _ L A T' env cs s' g m H) fun n U'' Y v M f i hv o=>?_);refine Jn z g i.M (K.za f) hv o fun b tk hb=>wpAny_truthy_bool ?_;have t:=i.toks tk;cases b with
   |false=>exact Vb.b (q.trans f) t (by exact hb)
   |true=>refine test_last (Oa ((Hc k C D I U'' F).1 _ hb A n env cs _ g m t) fun T4 U4 e w s4 j y N p=>?_);exact Jn z g y.M (hv.za j) N p fun b tk hb=>wpAny_truthy_bool (Vb.xh ((q.trans f).trans j) (y.toks tk) rfl (by exact hb))
theorem gH(n:G.Ok){i:Bool}{g:Gd}(F:fc G d e):fc G d (.Ay i e g):=fun k C x I U Y=>by
 apply UD Y;intro l p pos H L M
 ·refine Zq (fun a es m N y O P gw=>?_)<|n.uA g
  have key:∀{env:Env}{cs:List (Str×Addr)}{T':Tm}{U':Mem}{s':Shared}{X:V}{u:Value}(Q:V->Mem->Prop)(K:Value->Shared->Prop),Ec G T' d env cs I U' s'->VR T' X u->(∃w,X=.wd w∧Q (.bool (g.has w != i)) U')->
   (∀b tk,Q (.bool b) U'->K (.bool b) {s' with toks:=tk})->∀{A:Around},wpAny (model G.prog G.w) A (compareOp (if i=true then .NotIn else .In) u (.ref a)) K (fun ζ ζ=>False) s':=by
   intro env cs T' U' s' X u Q K f j c q A;refine ya (fun w e c=>?_) c
   ·rw[e]at j;refine Aa (fun t z=>?_) j;refine aa z ?_;refine ya (fun r W hs=>?_)<|gw w
    rw[← hs]at c;induction i
    ·simp only[Bool.false_eq_true,if_false,Bool.bne_false]at c ⊢;exact wpAny_in_of (strKind_is G.prog G.w w.str t) P (mapOf_K (prog:=G.prog) (f.Uq n) y O) (by exact find_K y W▸q _ _ c)
    ·simp only[if_true,Bool.bne_true]at c ⊢;exact wpAny_notIn_of (strKind_is G.prog G.w w.str t) P (mapOf_K (prog:=G.prog) (f.Uq n) y O) (by exact find_K y W▸q _ _ c)
  refine⟨fun Q h A T env cs s B o R=>?_,fun Q h A T env cs s B o R=>?_⟩
  ·skip;refine wpAny_Compare1 (Oa ((F k C l I U H).1 _ h A T env cs s B o R) fun T' U' X u s' D f j c=>?_) rfl;refine oj n o f L M N ?_;exact key Q _ f j c fun b tk hb=>Vb.xh D (f.toks tk) (by exact rfl) hb
  ·skip;refine wpAny_isTrue_Compare1 (Oa ((F k C l I U H).1 _ h A T env cs s B o R) fun T' U' X u s' D f j c=>?_) rfl;refine oj n o f L M N ?_;exact key (fun v U=>yg U v fun b=>Q b U) _ f j c fun b tk hb=>wpAny_truthy_bool (Vb.xh D (f.toks tk) rfl (by exact hb))
theorem JG(m:fc G d e):fc G d (.not e):=fun k C x I U a=>by
 apply rE a;intro y pos a
 ·refine⟨fun Q h A T env cs s f g R=>?_,fun Q h A T env cs s f g R=>?_⟩
  ·skip;refine wpAny_UnaryOp (Oa ((m k C y I U a).1 _ h A T env cs s f g R) fun T' U' X u s' i c j l=>?_);exact not_value (Nx c.M j l fun b tk hb=>Vb.xh i (c.toks tk) (by exact rfl) hb)
  ·rw[ck,oK]at h;refine wpAny_isTrue_Not ?_;refine Oa ((m k C y I U a).2 (fun b U=>Q (!b) U) (by rewrite[ck];simpa[yg]using h) A T env cs s f g R) fun T' U' X u s' i c j l=>?_;exact Vb.xh i c (by exact aa j rfl) l
theorem GH{c a b:E}(n:fc G d c)(o:fc G d a)(q:fc G d b):fc G d (.ite c a b):=fun k C x I U v=>by
 apply qE v;intro t y z pos w B D
 ·refine⟨fun Q h A T env cs s g i R=>?_,fun Q h=>?_⟩
  ·skip;refine wpAny_IfExp (Oa ((n k C t I U w).2 (fun r U=>if r=true then wb G k false a I U Q else wb G k false b I U Q) h.2 A T env cs s g i R) fun T' U' X u s' j l F m=>?_);subst F;induction u
   ·exact wpAny_mono ((q k C z I U' D).1 _ (by exact m) A T' env cs s' g i l) (fun f f p=>p.ext j) fun f f e=>e
   ·exact wpAny_mono ((o k C y I U' B).1 _ (by exact m) A T' env cs s' g i l) (fun f f p=>p.ext j) fun f f e=>e
  ·skip;exact absurd h.1 (by exact Ub rfl)
theorem lA(H:∀e∈es,fc G d e):∀(a:List E)(xs:List Expr){pos:Pos}{k:Nat}{C:Scope}{I:zc}{U:Mem},(∀e∈a,e∈es)->Ei d C a xs=true-> (∀Q,a≠[]->Sf G k false true a I U Q->WE G k d C (.BoolOp .And xs pos) I U Q)∧ (∀Q:Bool->Mem->Prop,Sf G k true true a I U (fun v U=>yg U v fun b=>Q b U)->WG G k d C (fun g(b:Bool) v=>v=b) (fun env=>allTrue .And xs env) I U Q):=by
 intro q;induction q with
 |nil=>
  intro c pos k C I U t f;rcases c with _|⟨z,B⟩
  ·exact⟨fun g h=>absurd rfl h,fun Q h A T env cs s j l R=>by
    exact wpAny_allTrue_And_nil (Vb.xh (Vd.refl T) R rfl (by exact h.2))⟩
  ·injection f
 |cons e a w=>
  intro c pos k C I U t f;rcases c with _|⟨x,xs⟩
  ·injection f
  ·replace f:=Eb f;have w:=fun U=>w xs (pos:=pos) (k:=k) (I:=I) (U:=U) (fun e D=>t e (.tail _ D)) f.2;refine⟨fun Q g h A T env cs s j l R=>?_,fun Q h A T env cs s j l R=>?_⟩
   ·skip;cases a with
    |nil=>
     cases xs with
     |nil=>refine BoolOp_one (Oa (((H e (t e (.head _))) k C x I U f.1).1 _ h A T env cs s j l R) fun T' U' X u s' m i n o=>?_);exact Vb.xh m i n (by exact o)
     |cons y F=>have:=f.2;exact(Fc this).elim
    |cons L K=>
     cases xs with
     |nil=>have:=f.2;exact(Fc this).elim
     |cons y F=>
      refine BoolOp_and (Oa (((H e (t e (.head _))) k C x I U f.1).1 _ h A T env cs s j l R) fun T' U' X u s' m i n o=>?_);refine Nx i.M n o fun b tk hb=>?_;cases b with
      |true=>exact wpAny_mono ((w U').1 Q (by nofun) (by exact hb) A T' env cs _ j l (i.toks tk)) (fun g g p=>p.ext m) fun g g e=>e
      |false=>exact Vb.xh m (i.toks tk) n (by exact hb)
   ·rw[iL]at h;refine wpAny_allTrue_And_cons ?_;refine Oa (((H e (t e (.head _))) k C x I U f.1).2 (fun b U=>if b=true then Sf G k true true a I U (fun v U=>yg U v fun b=>Q b U)else Q b U) (by rewrite[ck];simpa[yg]using h) A T env cs s j l R) fun T' U' X u s' m i n o=>?_;subst n;cases u with
    |true=>exact wpAny_mono ((w U').2 Q (by exact o) A T' env cs _ j l i) (fun g g p=>p.ext m) fun g g e=>e
    |false=>exact Vb.b m i (by exact o)
theorem gG(H:∀e∈es,fc G d e):∀(a:List E)(xs:List Expr){pos:Pos}{k:Nat}{C:Scope}{I:zc}{U:Mem},(∀e∈a,e∈es)->Ei d C a xs=true-> (∀Q,a≠[]->Sf G k false false a I U Q->WE G k d C (.BoolOp .Or xs pos) I U Q)∧ (∀Q:Bool->Mem->Prop,Sf G k true false a I U (fun v U=>yg U v fun b=>Q b U)->WG G k d C (fun g(b:Bool) v=>v=b) (fun env=>allTrue .Or xs env) I U Q):=by
 intro q;induction q with
 |nil=>
  intro c pos k C I U t f;rcases c with _|⟨z,B⟩
  ·exact⟨fun g h=>absurd rfl h,fun Q h A T env cs s j l R=>by
    exact wpAny_allTrue_Or_nil (Vb.xh (Vd.refl T) R rfl (by exact h.2))⟩
  ·injection f
 |cons e a w=>
  intro c pos k C I U t f;rcases c with _|⟨x,xs⟩
  ·injection f
  ·replace f:=Eb f;have w:=fun U=>w xs (pos:=pos) (k:=k) (I:=I) (U:=U) (fun e D=>t e (.tail _ D)) f.2;refine⟨fun Q g h A T env cs s j l R=>?_,fun Q h A T env cs s j l R=>?_⟩
   ·skip;cases a with
    |nil=>
     cases xs with
     |nil=>refine BoolOp_one (Oa (((H e (t e (.head _))) k C x I U f.1).1 _ h A T env cs s j l R) fun T' U' X u s' m i n o=>?_);exact Vb.xh m i n (by exact o)
     |cons y F=>have:=f.2;exact(Fc this).elim
    |cons L K=>
     cases xs with
     |nil=>have:=f.2;exact(Fc this).elim
     |cons y F=>
      refine BoolOp_or (Oa (((H e (t e (.head _))) k C x I U f.1).1 _ h A T env cs s j l R) fun T' U' X u s' m i n o=>?_);refine Nx i.M n o fun b tk hb=>?_;cases b with
      |false=>exact wpAny_mono ((w U').1 Q (by nofun) (by exact hb) A T' env cs _ j l (i.toks tk)) (fun g g p=>p.ext m) fun g g e=>e
      |true=>exact Vb.xh m (i.toks tk) n (by exact hb)
   ·rw[iL]at h;refine wpAny_allTrue_Or_cons ?_;refine Oa (((H e (t e (.head _))) k C x I U f.1).2 (fun b U=>if b=false then Sf G k true false a I U (fun v U=>yg U v fun b=>Q b U)else Q b U) (by rewrite[ck];simpa[yg]using h) A T env cs s j l R) fun T' U' X u s' m i n o=>?_;subst n;cases u with
    |false=>exact wpAny_mono ((w U').2 Q (by exact o) A T' env cs _ j l i) (fun g g p=>p.ext m) fun g g e=>e
    |true=>exact Vb.b m i (by exact o)
theorem aD(H:∀e∈es,fc G d e):fc G d (.and es):=fun k C x I U a=>by
 apply lq a;intro xs pos a
 ·rw[Bool.and_eq_true]at a;refine⟨fun Q h=>?_,fun Q h A T env cs s b c R=>?_⟩
  ·skip;exact(lA H es xs (fun f h=>h) a.2).1 Q (by intro q;subst q;simp at a) h
  ·skip;exact wpAny_isTrue_BoolOp ((lA H es xs (pos:=pos) (fun f h=>h) a.2).2 Q h A T env cs s b c R)
theorem aH(H:∀e∈es,fc G d e):fc G d (.or es):=fun k C x I U a=>by
 apply lq a;intro xs pos a
 ·rw[Bool.and_eq_true]at a;refine⟨fun Q h=>?_,fun Q h A T env cs s b c R=>?_⟩
  ·skip;exact(gG H es xs (fun f h=>h) a.2).1 Q (by intro q;subst q;simp at a) h
  ·skip;exact wpAny_isTrue_BoolOp ((gG H es xs (pos:=pos) (fun f h=>h) a.2).2 Q h A T env cs s b c R)
noncomputable def du(env:Env)(cs:List (Str×Addr))(a:Addr):Prop:=a=env.locals∨∃n,cs.lookup n=some a
open Classical in
theorem Ec.GF(R:Ec G T d env cs I U s):∃A,Vd T A∧Ed G A U s∧(∀a,¬du env cs a->A a=T a)∧∀T' U' s',Vd A T'->Ed G T' U' s'->∃B,Vd T B∧jl T' B∧Ec G B d env cs I U' s'∧∀a,¬du env cs a->B a=T' a:=by
 have t:∀a,du env cs a->∃o,s.heap.get? a=some o:=by
  rintro a (rfl|⟨n,u⟩)
  ·(refine ya (fun m i f=>?_) R.F.ns;refine qh (fun o es Y j f=>?_) i;clear i);exact⟨o,j⟩
  ·refine Aa (fun v hv=>?_)<|R.F.cells n a u
   refine ya (fun o j f=>?_)<|(R.M.gc _ _ hv).2.2;exact⟨o,j⟩
 have D:∀a e,du env cs a->T a=some e->∃v,e=.cell v:=by
  rintro a e (rfl|⟨n,u⟩) h
  ·rw[R.F.af]at h;injection h
  ·refine Aa (fun v hv=>?_)<|R.F.cells n a u
   rw[hv]at h;(replace h:=Bb h;subst h);exact⟨v,rfl⟩
 have L:∀a,du env cs a->G.wg.heap.objs.size≤a:=by
  rintro a (rfl|⟨n,u⟩)
  ·exact R.F.lo
  ·refine Aa (fun v hv=>?_)<|R.F.cells n a u
   exact(R.M.gc _ _ hv).1 rfl
 refine(Kj (fun a=>if du env cs a then(s.heap.get? a).map .Kb else T a) (fun b e hs hb=>?_) ⟨R.M.wi,R.M.Vc,fun a e g=>?_,fun a m g=>?_⟩ (fun a g=>by simp[g]) (fun T' U' s' O w=>?_))
 ·by_cases p:du env cs b
  ·(refine Aa (fun v i=>?_)<|D b e p hb;subst i);injection hs
  ·simp[p,hb]
 ·by_cases p:du env cs a
  ·refine Aa (fun o j=>?_)<|t a p
   simp only[p,if_true,j,Option.map_some,Option.some.injEq]at g;subst g;exact(yc (fun f=>L a p) (Heap.lt_size j) j)
  ·simp only[p,if_false]at g;refine Nb (fun x F M=>?_)<|R.M.gc a e g
   refine(yc x F (M.za (fun b e hs hb=>?_) (fun f h=>h) fun f f f f f h=>h));by_cases p:du env cs b
   ·(refine Aa (fun v i=>?_)<|D b e p hb;subst i);injection hs
   ·simp[p,hb]
 ·refine Aa (fun N y=>?_)<|R.M.mem a m g
  have p:¬du env cs a:=fun p=>by refine Aa (fun v q=>?_)<|D a _ p y;injection q
  exact⟨N,by simp[p,y]⟩
 ·have H:∀a,du env cs a->∃o,s.heap.get? a=some o∧T' a=some (.Kb o)∧s'.heap.get? a=some o:=fun a p=>by
   refine Aa (fun o j=>?_)<|t a p
   have:T' a=some (.Kb o):=O a (.Kb o) rfl (by simp[p,j]);exact(cc o j this ((w.gc _ _ this).2.2))
  have P:Vd T (fun a=>if du env cs a then T a else T' a):=fun b e hs hb=>by
   by_cases p:du env cs b
   ·simp[p,hb]
   ·simp only[p,if_false];exact O b e hs (by simp[p,hb])
  have Q:jl T' (fun a=>if du env cs a then T a else T' a):=fun b e hs hb=>by
   by_cases p:du env cs b
   ·refine Pb (fun o f h f=>?_)<|H b p
    rw[hb]at h;(replace h:=Bb h;subst h);injection hs
   ·simp[p,hb]
  refine(Kj (fun a=>if du env cs a then T a else T' a) P Q ⟨⟨w.wi,w.Vc,fun a e g=>?_,fun a m g=>?_⟩,R.F.za P.f (fun m=>Hm fun o j=>?_) ?_ fun n c v u W=>?_⟩ (fun a g=>by simp[g]))
  ·by_cases p:du env cs a
   ·simp only[p,if_true]at g;refine Pb (fun o j f l=>?_)<|H a p
    (refine Aa (fun v i=>?_)<|D a e p g;subst i)
    (refine Nb (fun x F z=>?_)<|R.M.gc a _ g;refine ya (fun o1 K X=>?_) z;clear z)
    rw[j]at K;(replace K:=Bb K;subst K);exact(yc x (Heap.lt_size l) (pb o l X))
   ·simp only[p,if_false]at g;refine Nb (fun x F M=>?_)<|w.gc a e g
    exact(yc x F (M.za Q (fun f h=>h) fun f f f f f h=>h))
  ·refine Aa (fun N y=>?_)<|w.mem a m g
   have p:¬du env cs a:=fun p=>by refine Pb (fun o f h f=>?_)<|H a p;rw[y]at h;(replace h:=Bb h;cases h)
   exact⟨N,by simp[p,y]⟩
  ·refine Pb (fun o' l f h=>?_)<|H _ (.inl rfl)
   rw[l]at j;(replace j:=Bb j;subst j);exact h
  ·refine aa (if_pos (.inl rfl)) ?_;exact R.F.af
  ·refine aa (if_pos (.inr ⟨n,u⟩)) ?_;exact W
theorem jx:∀{es:List E}{xs:List Expr}(pos:Pos),Ei d C es xs=true->∀env,(backTo pos (starEach xs env)).any (·.1)=false:=by
 intro c;induction c with
 |nil=>
  intro a pos b env;rcases a with _|⟨g,h⟩
  ·exact rfl
  ·exact(Fc b).elim
 |cons e es f=>
  intro a pos b env;rcases a with _|⟨x,xs⟩
  ·exact(Fc b).elim
  ·replace b:=Eb b;have f:=f pos b.2 env;refine aa (ue b.1 _) ?_;refine aa f ?_;rfl
theorem El.call(h:El (k+1) A):PJ k A:=by
 (refine Nb (fun a b c=>?_) h;clear h)
 exact(yc a (by lia) (by lia))
theorem El.Jv{a:Addr}{r:List Value}(h:El (k+1) A):PJ k (A.under (.builtin "type.__call__" ⟨.ref a::r,[]⟩)):=by
 (refine Nb (fun b c e=>?_) h;clear h)
 have w:(Code.builtin "type.__call__" ⟨.ref a::r,[]⟩).weight=1:=by rfl
 have u:(Code.builtin "type.__call__" ⟨.ref a::r,[]⟩).cUnits=1:=by rfl
 refine(yc b ?_ ?_)
 ·refine(?_:A.depth+_+4*k+6≤900);refine aa w ?_;lia
 ·refine(?_:A.units+_+40*k+420≤9900);refine aa u ?_;lia
theorem CD(b:G.Ok){f:Fn}(H:∀e∈es,fc G d e):fc G d (.call f es):=Bc (fun k C x I U a=>by
 apply wq a;intro np xs pos w y a;refine jb a fun z a=>jb a fun o a=>jb a fun p j=>?_
 ·replace p:=Ub p;refine⟨rfl,fun Q h A T env cs s q t R=>?_⟩;refine wpAny_Call_Name_kw (oj b t R w y (b.GC f z) ?_);cases xs with
  |nil=>
   induction es with
   |nil=>exact(Fc o).elim
   |cons e es=>exact(Fc j).elim
  |cons x xs=>
   cases es with
   |nil=>exact nomatch o
   |cons e es=>
   refine callWith_K b.Uq (b.EA f) ?_ (ue (Eb j).1 env) (jx pos (Eb j).2 env);refine Oa (Um pos H j h A T env cs s q t R) fun T' U' X vs s' B l ⟨m,hl⟩ u=>⟨l.Uq b,?_⟩;induction k with
   |zero=>exact u.elim
   |succ k=>
    refine eh (fun D F K c g=>?_) l.GF;refine wpAny_call (codeAny_mono (u A D s' _ q.call l.hz K (m.za F)) ?_)
    (intro r L i;(refine XE (fun v M U2 Y n N O hv P=>?_) i;clear i;refine aa n ?_))
    refine eh (fun T3 W f3 R3 c=>?_)<|g M U2 L N O
    exact Vb.xh (B.trans W) R3 (hv.ae f3) P) (fun c c c c=>by exact aa LJ rfl)
theorem Ed.Jv(R:Ed G T U s)(i:G.wg.heap.objs.size≤s.heap.objs.size)(c:Cl) : ∃T',Vd T T'∧Ed G T' (Ga U (s.heap.objs.size+1) (some (.ib c []))) {s with heap:=(s.heap.push emptyDict).push (instObj (G.cl c) s.heap.objs.size)}∧U (s.heap.objs.size+1)=none:=by
 have v:U (s.heap.objs.size+1)=none:=by
  induction e:U (s.heap.objs.size+1)with
  |none=>rfl
  |some m=>refine Aa (fun p g=>?_)<|R.mem _ _ e;rw[(R.Ya (Nat.le_succ s.heap.objs.size))]at g;injection g
 have t:Vd T (Ga (Ga T s.heap.objs.size (some (.mi (s.heap.objs.size+1)))) (s.heap.objs.size+1) (some (.mo (.ib c []) s.heap.objs.size))):=fun b e hs hb=>by refine aa (qa _ _ (fun q=>by rw[q,(R.Ya (Nat.le_succ s.heap.objs.size))]at hb;injection hb)) (aa (qa _ _ (fun q=>by rw[q,(R.Ya (tf s.heap.objs.size))]at hb;injection hb)) ?_);exact hb
 have j:((s.heap.push emptyDict).push (instObj (G.cl c) s.heap.objs.size)).objs.size=s.heap.objs.size+2:=by simp
 refine(cc _ t ?_ v);refine R.step s.heap.objs.size i t.f (by refine aa j ?_;exact pn _ _) (fun b o u hb=>Heap.get?_push_of_some _ (Heap.get?_push_of_some _ hb)) (fun a e f=>?_) fun a m f=>?_
 ·by_cases h:a=s.heap.objs.size+1
  ·subst h;rw[da]at f;refine Cb (Bb f) ?_;refine .inr (vq (fun u=>Nat.le_succ_of_le i) (by refine aa j ?_;exact Nat.lt_succ_self (n:=s.heap.objs.size+1)) (by heap_get) ?_ (ej [] 0 ?_ rfl))
   ·exact aa (qa _ _ (by lia:s.heap.objs.size≠s.heap.objs.size+1)) (aa (da _ _ _) rfl)
   ·have:(s.heap.push emptyDict).get? s.heap.objs.size=some emptyDict:=Heap.get?_push_size _ rfl;exact Heap.get?_push_of_some _ this
  ·rw[qa _ _ h]at f;by_cases l:a=s.heap.objs.size
   ·subst l;rw[da]at f;refine Cb (Bb f) ?_;exact .inr (yc (fun u=>i) (by refine aa j ?_;exact Nat.lt_succ_of_le (Nat.le_succ _)) ⟨emptyDict,by heap_get⟩)
   ·rw[qa _ _ l]at f;exact .inl (yc f l (fun z=>by rw[(R.Ya (tf s.heap.objs.size))]at z;injection z))
 ·by_cases h:a=s.heap.objs.size+1
  ·subst h;rw[da]at f;refine Cb (Bb f) ?_;exact⟨_,da ..⟩
  ·rw[qa _ _ h]at f;refine Aa (fun p g=>?_)<|R.mem _ _ f
   exact⟨p,by refine aa (qa _ _ h) (aa (qa _ _ (fun q=>by rw[q,(R.Ya (tf s.heap.objs.size))]at g;injection g)) ?_);exact g⟩
theorem nG(b:G.Ok){c:Cl}(H:∀e∈es,fc G d e):fc G d (.new c es):=Bc (fun k C x I U i=>by
 apply wq i;intro np xs pos P W i;refine jb i fun z i=>jb i fun B q=>?_
 ·replace B:=Ub B;refine⟨rfl,fun Q h A T env cs s D F R=>?_⟩;refine wpAny_Call_Name_kw (oj b F R P W (b.kB c) ?_);cases xs with
  |nil=>
   induction es with
   |nil=>exact(Fc z).elim
   |cons e es=>exact(Fc q).elim
  |cons x xs=>
   cases es with
   |nil=>exact nomatch z
   |cons e es=>
   have K:=Eb q;refine callWith_K b.Uq (b.tA c) ?_ (ue K.1 env) (jx pos K.2 env);refine Oa (Um pos H q h A T env cs s D F R) fun T' U' X vs s' hT f ⟨u,hl⟩ L=>⟨f.Uq b,?_⟩;induction k with
   |zero=>exact(L (s'.heap.objs.size) (by
    induction e:U' s'.heap.objs.size with
    |none=>rfl
    |some m=>refine Aa (fun dx M=>?_)<|f.M.mem _ _ e;rw[f.M.Ya (tf _)]at M;injection M)).elim
   |succ k=>
    refine eh (fun T1 x1 p j l=>?_) f.GF;refine Pb (fun T2 N R2 hm=>?_)<|p.Jv f.hz c
    obtain⟨w,g,a,t,os⟩:=s';refine wpAny_call (make_core (makes_of (p.Uq b) (b.zA c)) (looks_findIn (p.Uq b) (b.aB c)) (fun n=>bind_fn (p.Uq b) n (b.Mx c)) (.inl rfl) ?_);refine codeAny_mono (L _ hm _ T2 _ _ D.Jv (bc f.hz (by refine(?_:w.objs.size≤((w.push emptyDict).push (instObj (G.cl c) w.objs.size)).objs.size);refine aa (Heap.size_push _ _) (aa (Heap.size_push _ _) ?_);exact Nat.le_succ_of_le (Nat.le_succ _))) R2 (.cons (by exact rfl) ((u.za x1).za N))) ?_
    (intro r s2 o;(refine XE (fun v T3 U3 Y y x3 R3 hv O=>?_) o;clear o;subst y))
    refine eh (fun T4 x4 f4 R4 j=>?_)<|l T3 U3 s2 (N.trans x3) R3
    cases Y with
    |none=>exact⟨hv,Vb.xh (X:=.ref _) (hT.trans x4) R4 (by exact rfl) O⟩
    |_=>exact O.elim) (fun j j j j=>by rw[EJ,EJ])
theorem Co{x:Expr}(h:Va d C e x=true)(env:Env):starEach [x] env=[(false,eval x env)]:=ue h env
theorem GI{a:E}{x y:Expr}(h:Va d C e x=true)(h':Va d C a y=true)(env:Env):starEach [x,y] env=[(false,eval x env),(false,eval y env)]:=by refine aa (ue h _) (aa (ue h' _) ?_);rfl
theorem eG(i:G.Ok){name:Str}{id:String}{a:Expr}{P:V->Mem->Prop}(j:fc G d e)(l:Jg C name=true)(m:Nd name=true)(f:Va d C e a=true)(n:name∈(["len","list","set","str","all","isinstance","max","dict","zip","enumerate","range","bool"]:List Str))(hv:bootBuiltins name=some (.builtin id))(o:name≠"__name__")(h:wb G k false e I U P)(q:∀{A T env cs s X v U},El k A->Hd C env->Ec G T d env cs I U s->VR T X v->P X U->wpAny (model G.prog G.w) A (call (.builtin id) [v]) (Vb G T d env cs I VR Q) (fun b b=>False) s) : WE G k d C (.Call (.Name name p) [a] [] pos) I U Q:=fun A T env cs s g c R=>by refine Call_name1 (Co f env) (eg i c R l m n hv o ?_);refine callWith_builtin1 (Oa ((j k C a I U f).1 _ h A T env cs s g c R) fun T' U' X u s' t w x y=>?_);exact wpAny_mono (q g c w x y) (fun b b p=>p.ext t) fun b b e=>e
theorem NB(i:G.Ok){name:Str}{id:String}{a:Expr}{P:V->Mem->Prop}(j:fc G d e)(l:Jg C name=true)(m:Nd name=true)(f:Va d C e a=true)(n:name∈(["len","list","set","str","all","isinstance","max","dict","zip","enumerate","range","bool"]:List Str))(hv:bootBuiltins name=some (.type id))(o:name≠"__name__")(h:wb G k false e I U P)(q:∀{A T env cs s X v U},El k A->Hd C env->Ec G T d env cs I U s->VR T X v->P X U->wpAny (model G.prog G.w) A (call (.type id) [v]) (Vb G T d env cs I VR Q) (fun b b=>False) s) : WE G k d C (.Call (.Name name p) [a] [] pos) I U Q:=fun A T env cs s g c R=>by refine Call_name1 (Co f env) (eg i c R l m n hv o ?_);refine PySem.callWith_type1 (Oa ((j k C a I U f).1 _ h A T env cs s g c R) fun T' U' X u s' t w x y=>?_);exact wpAny_mono (q g c w x y) (fun b b p=>p.ext t) fun b b e=>e
theorem Jp(h:sv U X=some l):X=.Ba l∨lv U X=some l:=by cases X<;>simp_all [sv]
theorem RG(o:G.Ok)(q:fc G d e):fc G d (.Pd e):=Bc (fun k C x I U t=>by
 apply sg t;intro p a pos u w y;refine⟨rfl,fun Q h=>eG o (id:="len") q u w y (by exact .head _) (by kernel_rfl) (by exact Ub rfl) h fun{A T env cs s X v U} z B R hv g=>?_⟩
 (revert g;intro f;refine Pb (fun l i hb g=>?_) f;clear f)
 ·skip;rcases Jp i with rfl|i
  ·(refine ve (fun a vs n c j r=>?_)<|Qn R.M hv;rw[c])
   have b:=r.length;refine PyProof.Rows.len_tuple (Bm j) (by refine aa List.size_toArray (aa b ?_);lia) (Je (R:=R) ?_);refine aa List.size_toArray (aa b ?_);exact g
  ·(refine ve (fun a vs n c j r=>?_)<|Cc R.M hv i;rw[c])
   refine PyProof.Rows.len_list (Wb j) (by refine aa List.size_toArray (aa r.length ?_);lia) (Je (R:=R) ?_);refine aa List.size_toArray (aa r.length ?_);exact g) (fun m m m m=>by exact aa EK rfl)
theorem Kz(m:G.Ok)(o:fc G d e):fc G d (.mf e):=Bc (fun k C x I U q=>by
 apply sg q;intro p a pos t u w;refine⟨rfl,fun Q h=>NB m (id:="list") o t u w (by exact .tail _ (.head _)) (by kernel_rfl) (by exact Ub rfl) h fun{A T env cs s X v U} H K R hv f=>?_⟩
 (revert f;intro b;refine Pb (fun l y hb f=>?_) b;clear b)
 ·skip
  (refine ve (fun a vs n g z r=>?_)<|Cc R.M hv y;refine aa g ?_)
  refine call_list_seq a (.inl rfl) z rfl rfl (fun h' B c D=>?_) (by refine aa List.size_toArray (aa r.length ?_);exact ri hb);refine Qa (fun F j=>?_)<|(R.keep s.toks c).Uv s.heap.objs.size (.fz true vs) R.hz (R.M.Ya (tf _)) (Nat.ne_of_gt R.F.lt) ⟨B,D⟩
  exact Vb.xh (X:=.fl l) j F (by exact⟨_,vs,rfl,da ..,r.za j⟩) f) (fun i i i i=>by exact aa gK rfl)
theorem ew(h:n<1000000):n.log2<1920:=by
 by_cases a:n=0
 ·subst a;decide
 ·have:=(Nat.log2_lt a (k:=20)).mpr (by exact bc (by assumption) (Pa rfl));exact bc (by assumption) (Pa rfl)
theorem Dw(i:Nat)(h:i<1000000):(Str.ofString (toString (i:Int))).length≤16:=bc (toString_length_le (v:=(i:Int)) (k:=6) (by exact Ub rfl) (by exact Pa rfl) (by lia)) (by exact Pa rfl)
theorem CB(l:G.Ok)(m:fc G d e):fc G d (.xk e):=Bc (fun k C x I U o=>by
 apply sg o;intro p a pos q u w;refine⟨rfl,fun Q h=>NB l (id:="str") m q u w (by exact Ub rfl) (by kernel_rfl) (by exact Ub rfl) h fun{A T env cs s X v U} z B R hv g=>?_⟩
 (revert g;intro c;refine Pb (fun i e f g=>?_) c;clear c)
 ·rw[e]at hv
  (refine Qa (fun hb y=>?_) f;clear f)
  (refine Aa (fun t b=>?_)<|vd hv;refine aa b ?_)
  (refine Aa (fun n b=>?_)<|Int.eq_ofNat_of_zero_le hb;subst b)
  exact PySem.P.str_of_int (ew (by exact Int.ofNat_lt.mp (by assumption))) (gu (R:=R) (Dw n (by exact Int.ofNat_lt.mp (by assumption))) g)) (fun j j j j=>by exact aa aK rfl)
theorem ny(o:G.Ok)(w:fc G d e):fc G d (.Nj e):=Bc (fun k C x I U y=>by
 apply Wk y;intro p a b pos z B f;refine⟨rfl,fun Q h A T env cs s D j R=>?_⟩;rw[FH]at h;rw[Bool.and_eq_true]at f
 (revert f;intro c;refine Qa (fun f g=>?_) c;clear c)
 apply gf g;intro n M g
 ·simp only[Bool.and_eq_true]at g
  (refine Qa (fun i F=>?_) g;clear g;refine Qa (fun H K=>?_) i;clear i)
  obtain rfl:=Rh H;refine wpAny_Call_Name_kw (eg o j R z B (by decide) (v:=.builtin "isinstance") (by kernel_rfl) (by decide) ?_);refine PyProof.Rows.callWith_builtin1 ?_ (ue f env) rfl;refine wpAny_items_cons ?_ (ue f env);refine Oa ((w k C a I U f).1 _ h A T env cs s D j R) fun T' U' X u s' L q t l=>?_;refine wpAny_items_cons (eg o j q K F (by decide) (v:=.type "bool") (by kernel_rfl) (by decide) (wpAny_items_nil ?_)) rfl
  (revert l;intro c;refine ya (fun b e l=>?_) c;clear c)
  ·rw[e]at t;refine aa (show u=.bool b from t) ?_;exact PySem.IsiPair.bool_bool (Vb.xh (X:=.bool true) L q (by exact rfl) l)) (fun m m m m=>by rw[FH,FH])
theorem jJ(z:G.Ok){name:Str}{id:String}{j:E}{a b:Expr}{P:V->V->Mem->Prop}(B:fc G d e)(l:fc G d j)(D:Jg C name=true)(F:Nd name=true)(m:Va d C e a=true)(c:Va d C j b=true)(H:name∈(["len","list","set","str","all","isinstance","max","dict","zip","enumerate","range","bool"]:List Str))(hv:bootBuiltins name=some (.builtin id))(K:name≠"__name__")(h:wb G k false e I U fun x U=>wb G k false j I U fun y U=>P x y U)(q:∀{A T env cs s X Y u v U},El k A->Hd C env->Ec G T d env cs I U s->VR T X u->VR T Y v->P X Y U->wpAny (model G.prog G.w) A (call (.builtin id) [u,v]) (Vb G T d env cs I VR Q) (fun f f=>False) s) : WE G k d C (.Call (.Name name p) [a,b] [] pos) I U Q:=fun A T env cs s n i R=>by refine wpAny_Call_Name_kw (eg z i R D F H hv K ?_);refine PyProof.Rows.callWith_builtin1 ?_ (ue m env) (by refine aa (Co c _) ?_;rfl);refine wpAny_items_cons ?_ (ue m env);refine Oa ((B k C a I U m).1 _ h A T env cs s n i R) fun T' U' X u s' L M N O=>?_;refine wpAny_items_cons ?_ (ue c env);refine Oa ((l k C b I U' c).1 _ O A T' env cs s' n i M) fun W U'' Y v ba g o t w=>?_;refine wpAny_items_nil ?_;exact wpAny_mono (q n i o (N.za g) t w) (fun f f p=>p.ext (L.trans g)) fun f f e=>e
theorem nH(z:G.Ok){w:E}(B:fc G d e)(o:fc G d w):fc G d (.max e w):=Bc (fun k C x I U D=>by
 apply Wk D;intro p a b pos F H n;replace n:=Eb n;refine⟨rfl,fun Q h=>jJ z (id:="max") B o F H n.1 n.2 (by decide) (by kernel_rfl) (by decide) h fun{A T env cs s X Y u v U} K N R y hv l=>?_⟩
 (revert l;intro m;refine Cd (fun i j L M l=>?_) m;clear m)
 ·rw[L]at y;rw[M]at hv
  (refine Aa (fun t g=>?_)<|vd y;refine aa g ?_)
  (refine Aa (fun O g=>?_)<|vd hv;refine aa g ?_)
  refine max_two_ints K.1 fun h' tk f=>?_;by_cases c:i<j
  ·rw[if_pos c]at l;refine aa (if_pos c) ?_;exact Je (R:=R.keep s.toks f) l
  ·rw[if_neg c]at l;refine aa (if_neg c) ?_;exact Je (R:=R.keep s.toks f) l) (fun q q q q=>by exact aa vK rfl)
theorem iy:∀{l:List V}{bs:List Bool}{vs:List Value},Di l=some bs->Se T l vs->vs=bs.map .bool:=by
 intro l;induction l with
 |nil=>intro bs vs h r;refine Cb (Bb h) ?_;exact r
 |cons x l a=>
  intro bs vs h r;rcases x with _|b|_|_|_|_|_|_;all_goals first|exact nomatch(show Option.none=some bs from h)|skip
  replace h:(Di l).map (b::·)=some bs:=h;refine ya (fun c f e=>?_)<|Option.map_eq_some_iff.mp h
  refine Cd (fun v g i j r=>?_) r;refine Cb e (aa i (aa (show v=.bool b from j) (aa (a f r) ?_)));rfl
theorem nz(bs:List Bool):((List.range bs.length).all fun i=>bs.getD i true)=bs.all id:=by
 induction bs with
 |nil=>rfl
 |cons b bs a=>refine aa List.length_cons (aa List.range_succ_eq_map (aa List.all_cons (aa List.all_map (aa List.all_cons (Cb a ?_)))));rfl
theorem EH(D:G.Ok)(F:fc G d e):fc G d (.all e):=Bc (fun k C x I U H=>by
 apply sg H;intro p a pos K L M;refine⟨rfl,fun Q h=>eG D (id:="all") F K L M (by decide) (by kernel_rfl) (by decide) h fun{A T env cs s X v U} N hE R hv g=>?_⟩
 (revert g;intro c;refine Ig (fun l bs e j hb g=>?_) c;clear c)
 ·rw[e]at hv
  ·skip
   (refine ve (fun a vs n m B r=>?_)<|Cc R.M hv rfl;subst m)
   have t:=Wb B;obtain rfl:=iy j r;have u:a≠s.heap.objs.size:=Nat.ne_of_lt (Heap.lt_size B);refine call_all_walk (wpAny_pyIter_list t ?_);refine⟨s.heap.objs.size,_,_,_,_,_,(fun i=>bs.getD i true),rfl,Walks.list (A:=A.in1) N.1 s.heap.objs.size a u (bs.map Value.bool).toArray,⟨?_,?_⟩,?_,?_⟩
   ·exact⟨_,Heap.get?_push_size _ rfl,rfl,rfl⟩
   ·(refine ya (fun o O P=>?_) t;clear t);exact⟨o,Heap.get?_push_of_some _ O,P⟩
   ·intro i v s' Q' E' w W;simp only[List.getElem?_toArray,List.getElem?_map,Option.map_eq_some_iff]at w
    (refine ya (fun b hb y=>?_) w;clear w;subst y)
    refine wpAny_truthy_bool ?_;simpa[List.getD,hb]using W
   ·intro h' tk f;have Y:=R.keep (h':=h') tk fun b o hb=>f b o (by simp;intro q;rw[q]at hb;exact absurd (Heap.lt_size hb) (Nat.lt_irrefl _)) (Heap.get?_push_of_some _ hb);have e:((List.range (List.map Value.bool bs).toArray.size).all fun i=>bs.getD i true)=bs.all id:=by
     simpa using nz bs
    refine aa e ?_;exact Vb.xh (X:=.bool (bs.all id)) (Vd.refl T) Y (by exact rfl) g) (fun z z z z=>by rw[HJ,HJ])
noncomputable def Hz(s:Shared)(v:Value)(c:String):Prop:=s.TypeIs v c∧∀a,v=.ref a->∃b,s.heap.get? a=some b∧b.dict=none
theorem Ym(R:Ed G T U s){v:Value}(hv:VR T X v)(h:(lv U X).isSome=true):Hz s v "list":=by
 induction e:lv U X with
 |none=>rw[e]at h;exact(Fc h).elim
 |some l=>
  (refine ve (fun a vs n c f r=>?_)<|Cc R hv e;subst c)
  exact⟨⟨_,f,rfl⟩,fun b q=>by cases q;exact⟨_,f,rfl⟩⟩
theorem ZC(R:Ed G T U s){v:Value}(hv:VR T X v)(h:Tt U X):Hz s v "set":=by
 refine qh (fun a l m e f=>?_) h;rw[e]at hv;refine Aa (fun i g=>?_)<|R.mem _ _ f
 refine qh (fun es j t c n=>?_)<|(R.gc _ _ g).2.2
 refine aa (show v=.ref a from hv) ?_;exact⟨⟨_,c,rfl⟩,fun b q=>by cases q;exact⟨_,c,rfl⟩⟩
theorem Tz(R:Ed G T U s){v:Value}(hv:VR T X v)(h:gp U X):Hz s v "dict":=by
 refine pd (fun a l e i=>?_) h;rw[e]at hv;refine Aa (fun n j=>?_)<|R.mem _ _ i
 refine ya (fun cvs c m=>?_)<|(R.gc _ _ j).2.2
 (refine ve (fun o es p f g m=>?_) c;clear c)
 refine aa (show v=.ref a from hv) ?_;exact⟨⟨_,f,g.1⟩,fun b q=>by cases q;exact⟨_,f,g.2.1⟩⟩
theorem Hx{name:Str}{g id:String}{i:E}{o a:Expr}{b:Pos}{W:Mem->V->Prop}{P:V->V->Mem->Prop}(F:fc G d i)(H:fc G d e)(K:Nh o=true)(L:(b.endLine==pos.line)=true)(j:Va d C i o=true)(w:Va d C e a=true)(M:PlainAttrs g)(slot:Slot g name id)(N:typeOf (.builtin id)=pure (.type "method_descriptor"))(O:∀{T U s X v},Ed G T U s->VR T X v->W U X->Hz s v g)(h:wb G k false i I U fun x U=>W U x∧wb G k false e I U fun y U=>P x y U)(q:∀{A T env cs s X Y u v U},El k A->Hd C env->Ec G T d env cs I U s->VR T X u->VR T Y v->P X Y U->wpAny (model G.prog G.w) A (call (.builtin id) [u,v]) (Vb G T d env cs I VR Q) (fun c c=>False) s) : WE G k d C (.Call (.Attribute o name b) [a] [] pos) I U Q:=fun A T env cs s l m R=>by
 refine Call_method1 (Zm K) (Co w env) L (Oa ((F k C o I U j).1 _ h A T env cs s l m R) fun T' U' X u s' hT z B D=>?_);refine Qa (fun o1 o2=>?_)<|O z.M B D.1
 refine⟨g,id,M,slot,N,o1,o2,?_⟩;refine PySem.Calls.callWith_builtin rfl (evalArgs_plain (spliced_cons (Oa ((H k C a I U' w).1 _ D.2 A T' env cs s' l m z) fun ba U'' Y v ea f n hv t=>spliced_nil ?_)));exact wpAny_mono (q l m n (B.za f) hv t) (fun c c p=>p.ext (hT.trans f)) fun c c e=>e
theorem SI{name:Str}{c id:String}{f:E}{o:Expr}{a:Pos}{P:V->Mem->Prop}(t:fc G d f)(w:Nh o=true)(x:(a.endLine==pos.line)=true)(g:Va d C f o=true)(y:PlainAttrs c)(slot:Slot c name id)(z:typeOf (.builtin id)=pure (.type "method_descriptor"))(B:∀{T U s X v},Ed G T U s->VR T X v->P X U->Hz s v c)(h:wb G k false f I U P)(q:∀{A T env cs s X u U},El k A->Hd C env->Ec G T d env cs I U s->VR T X u->P X U->wpAny (model G.prog G.w) A (call (.builtin id) [u]) (Vb G T d env cs I VR Q) (fun b b=>False) s) : WE G k d C (.Call (.Attribute o name a) [] [] pos) I U Q:=fun A T env cs s i j R=>by
 refine Call_method0 (Zm w) x (Oa ((t k C o I U g).1 _ h A T env cs s i j R) fun T' U' X u s' D l m n=>?_);refine Qa (fun o1 F=>?_)<|B l.M m n
 refine⟨c,id,y,slot,z,o1,F,?_⟩;refine PySem.Calls.callWith_builtin rfl (evalArgs_nil3 ?_);exact wpAny_mono (q i j l m n) (fun b b p=>p.ext D) fun b b e=>e
theorem bJ{name:Str}{m id:String}{B D:E}{o a b:Expr}{f:Pos}{W:Mem->V->Prop}{P:V->V->V->Mem->Prop}(Ho:fc G d B)(He:fc G d e)(F:fc G d D)(hn:Nh o=true)(hl:(f.endLine==pos.line)=true)(H:Va d C B o=true)(hc:Va d C e a=true)(i:Va d C D b=true)(pa:PlainAttrs m)(slot:Slot m name id)(ht:typeOf (.builtin id)=pure (.type "method_descriptor"))(hW:∀{T U s X v},Ed G T U s->VR T X v->W U X->Hz s v m)(h:wb G k false B I U fun x U=>W U x∧wb G k false e I U fun y U=>wb G k false D I U fun z U=>P x y z U)(q:∀{A T env cs s X Y c u v w U},El k A->Hd C env->Ec G T d env cs I U s->VR T X u->VR T Y v->VR T c w->P X Y c U->wpAny (model G.prog G.w) A (call (.builtin id) [u,v,w]) (Vb G T d env cs I VR Q) (fun j j=>False) s) : WE G k d C (.Call (.Attribute o name f) [a,b] [] pos) I U Q:=fun A T env cs s n t R=>by
 refine Call_method2 (Zm hn) (GI hc i env) hl (Oa ((Ho k C o I U H).1 _ h A T env cs s n t R) fun T' U' X u s' hT R' hu hq=>?_);refine Qa (fun o1 o2=>?_)<|hW R'.M hu hq.1
 refine⟨m,id,pa,slot,ht,o1,o2,?_⟩;refine PySem.Calls.callWith_builtin rfl (evalArgs_plain (spliced_cons (Oa ((He k C a I U' hc).1 _ hq.2 A T' env cs s' n t R') fun K U'' Y v L l M hv N=>?_)));refine spliced_cons (Oa ((F k C b I U'' i).1 _ N A K env cs L n t M) fun T3 U3 c w s3 g R3 hw O=>spliced_nil ?_);exact wpAny_mono (q n t R3 ((hu.za l).za g) (hv.za g) hw O) (fun j j p=>p.ext ((hT.trans l).trans g)) fun j j e=>e
open Classical in
theorem Lo(R:Ed G T U s)(K:El k A){vs:List Value}{w:Value}(r:Se T l vs)(L:VR T Y w)(g:V.zj 8 l=true)(q:V.ok 8 Y=true):∃e:Value->Bool,vs.map e=l.map (fun y=>V.eqv y Y)∧∀v∈vs,SeqAt.EqAt A.in1 s v w (e v):=by
 refine Aa (fun bs M=>?_)<|VR.Sg R 8 _ _ L q
 have N:=V.Oz 8 Y q;have key:∀{l:List V}{vs:List Value},Se T l vs->V.zj 8 l=true->∀v∈vs,∃y as,Reads s.heap v (V.py y) as∧V.ok 8 y=true∧y∈l:=by
  intro l vs r g;induction l generalizing vs with
  |nil=>replace r:_=_:=r;subst r;intro v hv;cases hv
  |cons x xs t=>
   (revert r;intro i;refine Cd (fun v z n B r=>?_) i;clear i;subst n)
   replace g:=Eb g;intro u D;rcases pg D with rfl|D
   ·refine Aa (fun as m=>?_)<|VR.Sg R 8 _ _ B g.1
    exact⟨x,as,m,g.1,.head _⟩
   ·refine Cd (fun y as a b c=>?_)<|t r g.2 u D
    exact⟨y,as,a,b,.tail _ c⟩
 let e:Value->Bool:=fun v=>if h:∃f as,Reads s.heap v f as then PyData.eqv h.choose Y.py else false
 have F:∀v y as,Reads s.heap v (V.py y) as->V.ok 8 y=true->e v=V.eqv y Y:=by intro v y as m j;have p:∃f as,Reads s.heap v f as:=⟨_,_,m⟩;have:p.choose=V.py y:=(reads_det (fun b o h O=>h) p.choose_spec.choose_spec m).1.symm;refine(?_:(if h:∃f as,Reads s.heap v f as then PyData.eqv h.choose Y.py else false)=_);exact aa (dif_pos p) (aa this (aa (V.Xn 8 8 y Y j q) rfl))
 refine⟨e,?_,fun v hv=>?_⟩
 ·clear key;induction l generalizing vs with
  |nil=>replace r:_=_:=r;subst r;rfl
  |cons x xs t=>
   (revert r;intro i;refine Cd (fun v z n B r=>?_) i;clear i;subst n)
   replace g:=Eb g;refine Aa (fun as m=>?_)<|VR.Sg R 8 _ _ B g.1
   exact aa List.map_cons (aa List.map_cons (aa (t r g.2) (aa (F v x as m g.1) rfl)))
 ·refine Cd (fun y as m j O=>?_)<|key r g v hv
  have H:=V.Oz 8 y j;have:=SeqAt.eqAt_reads (V.py y) Y.py A.in1 s v w as bs m M H.1 N.1 (by
   have:=K.2.2;have:=Nat.min_le_left (V.py y).depth Y.py.depth;have:=H.2;refine(?_:A.units+1+_<cLine);unfold cLine;lia)
  rw[V.Xn 8 8 y Y j q]at this;refine aa (F v y as m j) ?_;exact this
theorem dq{c:Value}(f:Array Value->Array Value):∃a,Obj.mapSeq f {cls:=c,data:=.seq xs n}={cls:=c,data:=.seq (f xs) a}:=⟨_,rfl⟩
theorem Hp(R:Ec G T d env cs I U s){l':List V}{vs:List Value}{e:Addr}{f:Array Value->Array Value}(h:T a=some (.mo (.list l) e))(o:U a=some (.list l))(p:s.heap.get? a=some {cls:=.type "list",data:=.seq vs.toArray n})(j:∃g,f vs.toArray=g.toArray∧Se T l' g)(tk:Nat):Ec G (Ga T a (some (.mo (.list l') e))) d env cs I (Ga U a (some (.list l'))) {s with heap:=s.heap.update a (Obj.mapSeq f),toks:=tk}∧Vd T (Ga T a (some (.mo (.list l') e))):=by
 (refine ya (fun g t r=>?_) j;clear j)
 have u:Vd T (Ga T a (some (.mo (.list l') e))):=fun b x i hb=>by refine aa (qa _ _ (fun q=>by rw[q,h]at hb;(replace hb:=(Bb hb).symm;subst hb);exact(Fc i).elim)) ?_;exact hb
 refine R.Ak tk a (.list l) e (some (.mo (.list l') e)) h (Heap.SameBut.update ..) (Pm R.M h) fun x i=>?_;refine Cb (Bb i) ?_;refine Aa (fun v m=>?_)<|dq (c:=.type "list") (xs:=vs.toArray) (n:=n) f
 refine⟨g,v,?_,r.za u⟩;exact aa (Heap.get?_update_self _ p (by rw[m];rfl)) (aa m (aa t rfl))
theorem ph(b:s.heap.get? a=some {cls:=.type "list",data:=.seq xs n}):s.TypeIs (.ref a) "list":=⟨_,b,rfl⟩
theorem Fy{o:E}(y:fc G d o)(z:fc G d e):fc G d (.append o e):=Bc (fun k C x I U B=>by
 apply il B;intro N p a pos D F H K
 ·refine⟨rfl,fun Q h=>Hx (id:="list.append") (W:=fun U x=>(lv U x).isSome=true) y z D F H K PySem.F.plainAttrs_list PySem.F.slot_list_append PySem.F.type_list_append (fun R hv h=>Ym R hv h) h fun{A T env cs s X Y u v U} O P R q hv g=>?_⟩
  (revert g;intro b;refine Ig (fun x l e t hb g=>?_) b;clear b)
  ·rw[e]at q
   ·refine aa (show u=.ref x from q) ?_;refine Aa (fun dx w=>?_)<|R.M.mem _ _ t
    refine pd (fun vs n i r=>?_)<|(R.M.gc _ _ w).2.2
    have c:=r.length;refine call_meets PySem.F.slot_list_append (ph i) PySem.F.entry_list_append (PySem.F.args_list_append_2 _ _) (list_append _ _ _ _ (by refine aa List.size_toArray (aa c ?_);exact ri hb)) ⟨i,?_⟩;refine Qa (fun L M=>?_)<|Hp R w t i (f:=fun j=>j.push v) (l':=l++[Y]) ⟨vs++[v],by simp,r.append (.cons hv .nil)⟩ s.toks
    exact Vb.xh (X:=.none) M L (by exact rfl) g) (fun m m m m=>by rw[YI,YI])
theorem BG{o:E}(D:fc G d o):fc G d (.Ez o):=Bc (fun k C x I U F=>by
 apply kq F;intro O t as pos H K L M;cases as with
 |cons=>exact(Fc M).elim
 |nil=>
 refine⟨rfl,fun Q h=>SI (id:="list.pop") D H K L PySem.F.plainAttrs_list PySem.F.slot_list_pop PySem.F.type_list_pop (fun{T U s X v} R hv h=>Ym R hv ?_) h fun{A T env cs s X u U} P W R w i=>?_⟩
 ·refine ve (fun x l y e c g=>?_) h;refine aa e (aa (Gs c) ?_);rfl
 ·(revert i;intro a;refine Zq (fun x l y e c j hb i=>?_) a;clear a)
  ·rw[e]at w
   ·skip
    ·refine aa (show u=.ref x from w) ?_;refine Aa (fun Y z=>?_)<|R.M.mem _ _ c
     refine pd (fun vs n m r=>?_)<|(R.M.gc _ _ z).2.2
     rw[List.getLast?_eq_getElem?]at j;refine ya (fun v hv p=>?_)<|r.Pn j
     refine call_meets PySem.F.slot_list_pop (ph m) PySem.F.entry_list_pop (PySem.F.args_list_pop_1 _) (MeetsSeq.list_pop_last _ _ _ v (by refine aa List.size_toArray (aa r.length ?_);simpa using hv) (by refine aa List.size_toArray (aa r.length ?_);exact ri hb)) ⟨m,?_⟩;have q:l.length - 1<l.length:=(Ro j).1;have b:vs.toArray.eraseIdxIfInBounds (vs.toArray.size - 1)=(vs.take (l.length - 1)).toArray:=by rw[← r.length]at q ⊢;simp[List.eraseIdx_eq_take_drop_succ];omega
     refine Qa (fun N B=>?_)<|Hp R z c m (f:=fun xs=>xs.eraseIdxIfInBounds (vs.toArray.size - 1)) (l':=l.dropLast) ⟨vs.take (l.length - 1),b,by exact((List.dropLast_eq_take):l.dropLast=l.take (l.length - 1))▸r.take _⟩ s.toks
     exact Vb.xh (X:=y) B N (p.za B) i) (fun g g g g=>by exact aa wK rfl)
theorem JB{o:E}(w:fc G d o)(B:fc G d e):fc G d (.Yl o e):=Bc (fun k C x I U D=>by
 apply il D;intro ox q a pos F H K L
 ·refine⟨rfl,fun Q h=>Hx (id:="list.count") (W:=fun U x=>(lv U x).isSome=true) w B F H K L PySem.F.plainAttrs_list PySem.F.slot_list_count PySem.F.type_list_count (fun R hv h=>Ym R hv h) h fun{A T env cs s X Y u v U} M hE R N hv g=>?_⟩
  (revert g;intro c;refine Pb (fun l O f g=>?_) c;clear c)
  ·(refine Nb (fun P q2 q3=>?_) f;clear f)
   (refine ve (fun b vs n i t r=>?_)<|Cc R.M N O;refine aa i ?_)
   refine ya (fun ev j m=>?_)<|Lo R.M M r hv P q2
   refine call_meets PySem.F.slot_list_count (ph t) PySem.F.entry_list_count (PySem.F.args_list_count_2 _ _) (SeqAt.list_countAt b vs.toArray n none #[] v ev) ⟨t,fun y hy=>m y (by simpa using hy),?_⟩;have e:vs.countP ev=l.countP (fun z=>V.eqv z Y):=by exact aa (by rw[List.countP_map];rfl:vs.countP ev=(vs.map ev).countP id) (aa (by rw[List.countP_map];rfl:l.countP (fun z=>V.eqv z Y)=(l.map fun z=>V.eqv z Y).countP id) (aa j rfl))
   refine Je (R:=R) ?_;refine aa e ?_;exact g) (fun p p p p=>by exact aa OK rfl)
theorem zC{o:E}(Ho:fc G d o)(He:fc G d e):fc G d (.Sm o e):=Bc (fun k C x I U hc=>by
 apply il hc;intro ox N a pos h1 h2 h3 h4
 ·refine⟨rfl,fun Q h=>Hx (id:="list.index") (W:=fun U x=>(lv U x).isSome=true) Ho He h1 h2 h3 h4 PySem.F.plainAttrs_list PySem.F.slot_list_index PySem.F.type_list_index (fun R hv h=>Ym R hv h) h fun{A T env cs s X Y u v U} hA hE R hu hv q=>?_⟩
  (revert q;intro c;refine Ig (fun l i hl t f q=>?_) c;clear c)
  ·skip
   ·(refine Nb (fun q1 q2 q3=>?_) f;clear f)
    (refine ve (fun b vs n w O r=>?_)<|Cc R.M hu hl;refine aa w ?_)
    refine ya (fun ev B D=>?_)<|Lo R.M hA r hv q1 q2
    have g:=r.length;rw[List.findIdx?_eq_some_iff_getElem]at t
    (refine ya (fun p F H=>?_) t;clear t)
    have P:∀j(h:j<vs.length)(h':j<l.length),ev vs[j]=V.eqv l[j] Y:=fun j h h'=>by have:=congrArg (fun z=>z[j]?) B;simpa[h,h']using this
    have ba:l.length≤1000000:=q3;refine call_meets PySem.F.slot_list_index (ph O) PySem.F.entry_list_index (PySem.F.args_list_index_2 _ _) (SeqAt.list_indexAt b vs.toArray n none #[] v ev i (by refine aa List.size_toArray (aa g ?_);exact p) (by omega) ?_ fun m hm K=>?_) ⟨O,fun y hy=>D y (by simpa using hy),Je (R:=R) q⟩
    ·refine aa (P i (by omega) p) ?_;exact F
    ·have L:m<vs.length:=by assumption
     refine aa (P m L (by lia)) ?_;simpa using H m K) (fun M M M M=>by exact aa qK rfl)
theorem Ec.Iv(R:Ec G T d env cs I U s){o:Obj}(tk:Nat)(i:T a=some (.Kb o))(f:∀b o,b≠a->s.heap.get? b=some o->h'.get? b=some o)(e:Lp)
 (p:jl T (Ga T a (some e))->Kg G (Ga T a (some e)) h' a e) (H:∀x,e≠.mi x):Ec G (Ga T a (some e)) d env cs I (match e with| .mo m _=>Ga U a (some m)|_=>U) {s with heap:=h',toks:=tk}∧jl T (Ga T a (some e)):=by
 refine Nb (fun u K L=>?_)<|R.M.gc a _ i
 have l:jl T (Ga T a (some e)):=fun b x hs hb=>by refine aa (qa _ _ (fun q=>by rw[q,i]at hb;(replace hb:=(Bb hb).symm;subst hb);exact(Fc hs).elim)) ?_;exact hb
 have w:a≠env.locals:=fun q=>by rw[q,R.F.af]at i;exact nomatch i
 refine Lk (fun h t A=>?_) R.M.Vc;have nb:∀b o,G.wg.heap.get? b=some o->b≠a:=fun b o hb q=>absurd (Heap.lt_size hb) (Nat.not_lt.mpr (q▸(u rfl)));refine⟨⟨⟨fun b o hb=>f b o (nb b o hb) (R.M.wi b o hb),⟨h',tk,by exact aa A rfl⟩,fun b x hb=>?_,fun b m hb=>?_⟩,R.F.za l (fun m=>Hm fun o B=>f _ o w.symm B) ?_ fun n c v y h=>?_⟩,l⟩
 ·by_cases q:b=a
  ·subst q;rw[da]at hb;refine Cb (Bb hb) ?_;exact⟨fun y=>(u rfl),(p l).lt,(p l)⟩
  ·rw[qa _ _ q]at hb;refine Nb (fun D M F=>?_)<|R.M.gc b x hb
   have:=F.za (h':=h') l (fun o=>f b o q) fun m j y g o=>f j o fun z=>by rw[z,i]at g;(replace g:=Bb g;exact nomatch g)
   exact⟨D,this.lt,this⟩
 ·have old:∀b m,U b=some m->∃j,Ga T a (some e) b=some (.mo m j):=fun b m hb=>by
   refine Aa (fun j g=>?_)<|R.M.mem b m hb
   exact⟨j,by refine aa (qa _ _ (fun q=>by rw[q,i]at g;(replace g:=Bb g;exact nomatch g))) ?_;exact g⟩
  cases e with
  |mo m' j=>
   dsimp only at hb;by_cases q:b=a
   ·subst q;rw[da]at hb;refine Cb (Bb hb) ?_;exact⟨j,da ..⟩
   ·rw[qa _ _ q]at hb;exact old b m hb
  |_=>exact old b m hb
 ·refine aa (qa _ _ w.symm) ?_;exact R.F.af
 ·refine aa (qa _ _ (fun q=>by rw[q,i]at h;(replace h:=Bb h;exact nomatch h))) ?_;exact h
theorem Vd.Iv{e:Lp}(h:Vd T T')(c:T a=none):Vd T (Ga T' a (some e)):=fun b x hs hb=>by refine aa (qa _ _ (fun q=>by rw[q,c]at hb;injection hb)) ?_;exact h b x hs hb
theorem pE(i:Int)(h:Oo T kvs cvs):cvs.any (fun b=>decide (b.1=i))=kvs.any fun p=>decide (p.1=i):=by
 induction kvs generalizing cvs with
 |nil=>replace h:_=_:=h;subst h;rfl
 |cons x xs c=>(refine Cd (fun v vs a e r=>?_) h;clear h;subst a);simp[c r]
theorem ZE{b:List (Int×V)}{a:List (Int×Value)}(h:Oo T kvs cvs)(h':Oo T b a):Oo T (kvs++b) (cvs++a):=by
 induction kvs generalizing cvs with
 |nil=>replace h:_=_:=h;subst h;exact h'
 |cons x xs e=>(refine Cd (fun v vs c f r=>?_) h;clear h;subst c);exact⟨v,vs++a,rfl,f,e r⟩
theorem kF{i:Int}{x:V}{v:Value}(e:VR T x v)(h:Oo T kvs cvs):Oo T (kvs.map fun p=>if p.1=i then(p.1,x)else p) (cvs.map fun a=>if a.1=i then(a.1,v)else a):=by
 induction kvs generalizing cvs with
 |nil=>replace h:_=_:=h;subst h;rfl
 |cons y g c=>
  (refine Cd (fun w vs b f r=>?_) h;clear h;subst b)
  simp only[List.map_cons];by_cases q:y.1=i
  ·simp only[q,if_true];exact⟨v,_,rfl,e,c r⟩
  ·simp only[q,if_false];exact⟨w,_,rfl,f,c r⟩
theorem Fs{i:Int}{x:V}{v:Value}(a:VR T x v)(h:Oo T kvs cvs):Oo T (Ue kvs i x) (stored cvs i v):=by
 unfold Ue stored;refine aa (pE i h) ?_;split
 ·exact kF a h
 ·exact ZE h ⟨v,[],rfl,a,rfl⟩
theorem IE{i:Int}(h:Oo T kvs cvs):Oo T (Vt kvs i) (without cvs i):=by
 unfold Vt without;induction kvs generalizing cvs with
 |nil=>replace h:_=_:=h;subst h;rfl
 |cons y e b=>
  (refine Cd (fun w vs a c r=>?_) h;clear h;subst a)
  by_cases q:y.1=i
  ·simpa[List.filter_cons,q]using b r
  ·refine aa List.filter_cons (aa List.filter_cons (aa (if_pos (by simpa using q)) (aa (if_pos (by simpa using q)) ?_)));exact⟨w,_,rfl,c,b r⟩
theorem Ds(h:Oo T kvs cvs):cvs.length=kvs.length:=by
 induction kvs generalizing cvs with
 |nil=>replace h:_=_:=h;subst h;rfl
 |cons y c b=>(refine Cd (fun w vs a e r=>?_) h;clear h;subst a);simp[b r]
theorem mw(h:Oo T kvs cvs):∀{acc:List (Int×V)}{cacc:List (Int×Value)},Oo T acc cacc->Oo T (kvs.foldl (fun acc p=>Ue acc p.1 p.2) acc) (merged cacc cvs):=by
 induction kvs generalizing cvs with
 |nil=>replace h:_=_:=h;subst h;intro _ _ h;exact h
 |cons y f b=>intro acc cacc c;(refine Cd (fun w vs a e r=>?_) h;clear h;subst a);exact b r (Fs e c)
noncomputable def PR(T:Tm):List V->List (Value×Value)->Prop
 | [],ps=>ps=[]
 | [_],_=>False
 |x::y::r,ps=>∃a b c,ps=(a,b)::c∧VR T x a∧VR T y b∧PR T r c
theorem zq:∀{l:List V}{ps:List (Value×Value)}{kvs:List (Int×V)},PR T l ps->ll l=some kvs->∃cvs,Carries (intKind G.prog G.w) ps cvs∧Oo T kvs cvs
 | [],ps,kvs,h,e=>by refine aa (show ps=[] from h) (Cb (Bb e) ?_);exact⟨[],trivial,rfl⟩
 | [_],_,_,h,_=>by exact False.elim h
 |x::y::r,ps,kvs,h,e=>by
  refine Df (fun a b f g j m n=>?_) h;rcases x with _|_|i|_|_|_|_|_
  all_goals first|exact nomatch(show Option.none=some kvs from e)|skip
  replace e:(ll r).map ((i,y)::·)=some kvs:=e;refine ya (fun c e o=>?_)<|Option.map_eq_some_iff.mp e
  refine Aa (fun t p=>?_)<|vd j
  refine ya (fun cvs q s=>?_)<|zq n e
  refine aa g (Cb o (aa p ?_));exact⟨(i,b)::cvs,⟨intKind_is G.prog G.w i t,rfl,q⟩,b,cvs,rfl,m,s⟩
theorem cJ:∀{es:List E}{ks:List (Option Expr)}{vs:List Expr}{U:Mem}{Q:List V->Mem->Prop}(pos:Pos),(∀e∈es,fc G d e)->lx d C es ks vs=true->gj G k es I U Q-> WG G k d C PR (fun env=>evalPairs (pairTrees ks vs env pos)) I U Q:=by
 intro g m;induction m generalizing g with
 |nil=>
  intro i U Q pos H f h;rcases g with _|⟨F,n⟩
  ·rcases i with _|⟨K,L⟩
   ·exact fun A T env cs s O O R=>pairTrees_nil_walk (Vb.xh (X:=[]) (Vd.refl T) R rfl h)
   ·exact(Fc f).elim
  ·rcases n with _|⟨M,N⟩
   ·exact(Fc f).elim
   ·exact(Fc f).elim
 |cons none ks P=>
  intro i U Q pos H f h;rcases g with _|⟨a,j⟩
  ·exact(Fc f).elim
  ·rcases j with _|⟨b,es⟩
   ·exact(Fc f).elim
   ·rcases none with _|x
    ·exact(Fc f).elim
    ·rcases i with _|⟨y,vs⟩
     ·exact(Fc f).elim
     ·exact fun A T env cs s p q R=>by replace f:=Eb f;refine pairTrees_cons_walk (Oa ((H a (.head _) k C x I U (Eb f.1).1).1 _ h A T env cs s p q R) fun T' U' X v s' W R' hv hq=>?_);refine Oa ((H b (.tail _ (.head _)) k C y I U' (Eb f.1).2).1 _ hq A T' env cs s' p q R') fun t U'' Y w u o z hw B=>?_;refine Oa (P pos (fun e he=>H e (.tail _ (.tail _ he))) f.2 B A t env cs u p q z) fun T3 U3 c ps s3 l R3 cn D=>?_;exact Vb.xh (X:=X::Y::c) ((W.trans o).trans l) R3 ⟨v,w,ps,rfl,(hv.za o).za l,hw.za l,cn⟩ D
theorem dB:∀{es:List E}{ks:List (Option Expr)}{vs:List Expr},lx d C es ks vs=true->ks.all (·.isSome)=true∧ks.length=vs.length∧2*ks.length=es.length:=by
 intro c h;induction h generalizing c with
 |nil=>
  intro e f;rcases c with _|⟨j,i⟩
  ·rcases e with _|⟨l,m⟩
   ·exact⟨rfl,rfl,rfl⟩
   ·exact(Fc f).elim
  ·rcases i with _|⟨n,o⟩
   ·exact(Fc f).elim
   ·exact(Fc f).elim
 |cons none ks p=>
  intro e f;rcases c with _|⟨a,g⟩
  ·exact(Fc f).elim
  ·rcases g with _|⟨b,es⟩
   ·exact(Fc f).elim
   ·rcases none with _|x
    ·exact(Fc f).elim
    ·rcases e with _|⟨y,vs⟩
     ·exact(Fc f).elim
     ·replace f:=Eb f;refine Nb (fun s q t=>?_)<|p f.2
      refine⟨by assumption,by simp[q],?_⟩;simp only[List.length_cons];lia
theorem PE(H:∀e∈es,fc G d e):fc G d (.dict es):=Bc (fun k C x I U g=>by
 apply Py g;intro ks vs pos g;refine jb g fun c g=>?_
 ·replace c:=Ub c;refine Nb (fun s1 w z=>?_)<|dB g
  refine⟨rfl,fun Q h A T env cs s B t R=>?_⟩;rw[pD]at h;have f:∀{T':Tm}{U':Mem}{s':Shared}{o:Obj}{a:Addr},Ec G T' d env cs I U' s'->T' a=some (.Kb o)->U' a=none:=fun{T' U' s' o a} j l=>by
   induction e:U' a with
   |none=>rfl
   |some m=>refine Aa (fun dx p=>?_)<|j.M.mem _ _ e;rw[l]at p;(replace p:=Bb p;exact nomatch p)
  induction ks with
  |nil=>
   induction vs with
   |cons=>injection w
   |nil=>
   induction es with
   |cons=>injection z
   |nil=>
   rw[ou]at h;refine wpAny_Dict_empty (tw R s.toks _ (.dict []) (fun i i q=>by exact nomatch q) ⟨[],Heap.DictOf.new s.heap,rfl⟩ (ya (fun kvs e h=>by rw[← Bb e]at h;exact h) h) rfl)
  |cons kk ks=>
   refine wpAny_Dict_walk (knd:=intKind G.prog G.w) s1 w (by exact Ub rfl) (by lia) ?_;have D:=R.M.Ya (tf s.heap.objs.size);refine Qa (fun F K=>?_)<|R.push s.toks {cls:=.type "dict",data:=.dict #[]} (.Kb {cls:=.type "dict",data:=.dict #[]}) (Heap.get?_push_size _ rfl) (fun x q=>by exact nomatch q)
   refine Oa (cJ pos H g h A _ env cs _ B t F) fun T' U' X ps s' y j L u=>?_;have l:T' s.heap.objs.size=some (.Kb {cls:=.type "dict",data:=.dict #[]}):=y _ _ rfl (da ..)
   (revert u;intro n;refine ya (fun kvs M u=>?_) n;clear n)
   ·refine ya (fun cvs N O=>?_)<|zq (G:=G) L M
    have v:=(j.M.gc _ _ l).2.2;refine⟨cvs,N,⟨_,#[],0,v,⟨rfl,rfl,rfl⟩,rfl,fun i P=>by simp at P,Pairs.nil,List.nodup_nil⟩,fun h' W hs=>?_⟩;refine Qa (fun Y x2=>?_)<|j.Iv (s'.toks+ps.length) l (fun b o hb v=>hs.extBut b o hb v) (.mo (.dict (Of kvs)) 0) (fun t=>⟨_,W,(mw O (acc:=[]) (cacc:=[]) rfl).za t⟩) (fun x q=>by exact nomatch q)
    exact Vb.xh (X:=.ref s.heap.objs.size) ((K.trans y).Iv D) Y (by exact rfl) (u _ (f j l))) (fun i i i i=>by rw[pD,pD])
set_option tactic.hygienic true in
theorem uD(hG:G.Ok){o B:E}(Ho:fc G d o)(He:fc G d e)(D:fc G d B):fc G d (.Su o e B):=Bc (fun k C x I U hc=>by
 apply kq hc;intro ox O as pos h1 h2 h3 g;refine Zt (R:=fun as=>kp (.Call _ as _ pos)=true∧∀Q,wb G k false (.Su o e B) I U Q->WE G k d C (.Call _ as _ pos) I U Q) g fun a b g=>?_
 ·replace g:=Eb g;refine⟨rfl,fun Q h=>bJ (id:="dict.pop") (W:=gp) Ho He D h1 h2 h3 g.1 g.2 PySem.F.plainAttrs_dict PySem.F.slot_dict_pop PySem.F.type_dict_pop (fun R hv h=>Tz R hv h) h fun{A T env cs s X Y c u v w U} hA hE R hu hv hw f=>?_⟩;split at f
  ·rename_i x i;split at f
   ·rename_i kvs F;refine aa hu ?_
    (refine Aa (fun t H=>?_)<|vd hv;refine aa H ?_)
    (revert f;intro j;refine Qa (fun hb f=>?_) j;clear j)
    refine Aa (fun P m=>?_)<|R.M.mem _ _ F
    (refine Nb (fun g1 g2 l=>?_)<|R.M.gc _ _ m;refine ya (fun cvs n p=>?_) l;clear l)
    split at f
    ·rename_i z K;refine ya (fun y hy L=>?_)<|rp p K
     refine call_meetsIn PySem.F.slot_dict_pop n.typeIs PySem.F.entry_dict_pop (PySem.F.args_dict_pop_3 _ _ _) (meets_dict_pop_there (intKind G.prog G.w) x (intKind_is G.prog G.w i t) [w] (.inr ⟨w,rfl⟩) rfl) ⟨cvs,y,n,by refine aa (Ds p) ?_;exact ri hb,hy,fun h' M hs=>?_⟩;refine Qa (fun R' x'=>?_)<|R.Ak (s.toks+1) x _ P (some (.mo (.dict (Vt kvs i)) P)) m hs (Pm R.M m) (fun e he=>by
      refine Cb (Bb he) ?_;refine⟨_,M,(IE p).za fun b x F hb=>?_⟩;refine aa (qa _ _ (fun q=>by rw[q,m]at hb;(replace hb:=(Bb hb).symm;subst hb);exact(Fc F).elim)) ?_;exact hb)
     exact Vb.xh (X:=z) x' R' (L.za x') f
    ·rename_i K;refine call_meetsIn PySem.F.slot_dict_pop n.typeIs PySem.F.entry_dict_pop (PySem.F.args_dict_pop_3 _ _ _) (meets_dict_pop_default (intKind G.prog G.w) x (intKind_is G.prog G.w i t) (ki hG (g1 rfl)) rfl w) ⟨cvs,n,Ep p K,?_⟩;exact Vb.xh (X:=c) (Vd.refl T) (R.toks _) hw f
   ·exact f.elim
  ·exact f.elim) (fun N N N N=>by exact aa xI rfl)
section
variable{prog:Program}{w:World}{E:Value->Shared->Prop}
theorem jt{it t:Addr}{e:Array Value}(m:t≠it):∀(n i:Nat)(s:Shared)(Q:List Value->Shared->Prop),s.heap.IsListIter it t i->s.heap.IsList t e->i+n≤e.size-> (∀h',h'.IsListIter it t (i+n)->Heap.SameBut it s.heap h'->Q ((e.toList.drop i).take n) {s with heap:=h'})->wpAny (model prog w) A (draw (.ref it) n) Q E s:=by
 intro h;induction h with
 |zero=>intro i s Q f o p q;exact wpAny_pure (by simpa using q s.heap f (Heap.SameBut.refl ..))
 |succ n v=>
  intro i s Q f o p q;have j:i<e.size:=by exact Nat.lt_of_le_of_lt (pn _ _) (by assumption)
  refine wpAny_bind (wpAny_pyNext_list_item f o (x:=e[i]) (by simp[j]) fun u b a=>?_);refine wpAny_bind (wpAny_holding (v (i+1) _ _ b (o.extBut a.extBut m) (by omega) fun l c g=>wpAny_pure ?_));have:=q l (by refine aa (show i+(n+1)=i+1+n by exact(Nat.succ_add _ _).symm) ?_;exact c) (a.trans g);rw[(by simp[List.drop_eq_getElem_cons,j]:e.toList.drop i=e[i]::e.toList.drop (i+1))]at this;exact this
theorem Gh{t:Addr}{c:Array Value}{Q:List Value->Shared->Prop}(p:A.handled=none)(g:s.heap.IsList t c)(q:∀h',Heap.ExtBut s.heap.objs.size s.heap h'->Q c.toList {s with heap:=h'}):wpAny (model prog w) A (unpackItems (.ref t) c.size none) Q E s:=by
 refine wpAny_bind ?_
 ·skip;refine wpAny_bind (wpAny_specialOf g.typeIs PySem.F.slot_list_iter.lookup ?_);refine wpAny_pure ?_;refine wpAny_bind (wpAny_holding (wpAny_pyIter_list g ?_));have i:(s.heap.push {cls:=.type "list_iterator",data:=.fields #[.ref t,.int 0 0]}).IsList t c:=ya (fun o u v=>(pb o (Heap.get?_push_of_some _ u) v)) g;refine wpAny_bind (wpAny_holding (jt (by(refine ya (fun o n x=>?_) g;clear g);exact Nat.ne_of_lt (Heap.lt_size n):t≠s.heap.objs.size) c.size 0 _ _ (cc _ (Heap.get?_push_size _ rfl) rfl rfl) i (by lia) fun j f a=>?_));have l:List.take c.size (List.drop 0 c.toList)=c.toList:=by
   exact List.take_of_length_le (by simp)
  refine aa l ?_;refine aa (if_neg (by simp)) ?_;refine wpAny_bind (wpAny_holding (wpAny_pyNext_list_end p f ((i.extBut a.extBut (by(refine ya (fun o n x=>?_) g;clear g);exact Nat.ne_of_lt (Heap.lt_size n):t≠s.heap.objs.size)):j.IsList t c) (by simp) fun m h=>?_));refine wpAny_pure (q m fun b o hb e=>h b o hb (a.extBut b o hb (Heap.get?_push_of_some _ e)))
end
theorem tr{b:Type}{l:List b}(h:l.Nodup){x:b}(c:l[i]?=some x)(f:l[j]?=some x):i=j:=by
 (refine Aa (fun g a=>?_)<|Ro c;subst a)
 refine Aa (fun m e=>?_)<|Ro f
 exact(List.getElem_inj h).mp e.symm
set_option tactic.hygienic true in
theorem Ip{n:Str}(h:Rl d C i n=true):d[i]?=some n∧(∃b,C.names.lookup n=some b∧(b=.local∨b=.cell))∧(n==("__debug__" : Str))=false:=by
 unfold Rl at h;simp only[Bool.and_eq_true,Bool.or_eq_true]at h
 (refine Qa (fun a f=>?_) h;clear h;refine Qa (fun c g=>?_) a;clear a)
 refine(yc ?_ ?_ (Mh f))
 ·split at c
  ·rename_i m e;exact aa e (aa (Rh c) rfl)
  ·exact(Fc c).elim
 ·exact g.elim (fun q=>(pb _ (gd q) (.inl rfl))) fun q=>(pb _ (gd q) (.inr rfl))
theorem Hd.de(a:Hd C env):(env.scope.kind==.class||(env.scope.kind==.module&&env.locals != env.globals))=false:=by refine aa a.zo ?_;rfl
theorem Ec.de(K:Hd C env)(R:Ec G T d env cs I U s){n:Str}{kd:NameKind}{x:V}{v:Value}(L:d[i]?=some n)(Y:C.names.lookup n=some kd)(hl:kd=.local∨kd=.cell)(hv:VR T x v){E:Value->Shared->Prop}{Q:Unit->Shared->Prop}(q:∀T' s',Vd T T'->Ec G T' d env cs (Ca I i x) U s'->Q () s'):wpAny M A (storeName env n v) Q E s:=by
 have F:=R.F;rcases hl with rfl|rfl
 ·refine ya (fun m hm hr=>?_) F.ns;refine wpAny_storeName_local ((K.kindOf n).trans Y) hm (fun h' ba hs=>?_) K.de;refine q T _ (Vd.refl T) ⟨?_,⟨(pb _ ba (fun j y p h f z B=>?_)),fun j y p c h f z=>?_,F.lo,F.af,F.sub,F.has,F.I,F.cells,F.inj,F.nd,F.tp⟩⟩
  ·have hT:∀a,T a≠none->a≠env.locals:=fun a ha q=>ha (q▸F.af);exact R.M.step env.locals F.lo (jl.refl T) (Nat.le_of_eq hs.1.symm) (fun b o hb N=>hs.extBut b o hb N) (fun a e ha=>.inl (yc ha (hT a (by refine aa ha ?_;exact Ub rfl)) (by refine aa F.af ?_;exact Ub rfl))) R.M.mem
  ·rw[Qf]at h;by_cases g:j=i
   ·subst g;rw[if_pos rfl]at h;refine Cb (Bb h) ?_;rw[L]at f;refine aa (Bb f) ?_;exact(pb v (by simp) hv)
   ·rw[if_neg g]at h;refine ya (fun u D O=>?_)<|hr j y p h f z B
    have:p≠n:=fun q=>g (tr F.nd (q▸f) L);exact(pb u (by simp[this,D]) O)
  ·rw[Qf]at h;by_cases g:j=i
   ·subst g;rw[L]at f;(replace f:=Bb f;subst f);have:=F.I n (by refine aa K.scope ?_;exact Y);rw[this]at z;injection z
   ·rw[if_neg g]at h;exact F.cell j y p c h f z
 ·refine Aa (fun c z=>?_)<|F.has n (by refine aa K.scope ?_;exact Y)
  have t:=F.sub n c z;refine Aa (fun v0 w=>?_)<|F.cells n c t
  refine wpAny_storeName_cell K.zo ((K.kindOf n).trans Y) z (R.M.gc _ _ w).2.2 fun h' H hs=>?_;have P:c≠env.locals:=fun q=>by rw[q,F.af]at w;injection w
  refine Qa (fun R' x'=>?_)<|R.M.Ak (tk:=s.toks) c _ (some (.cell (some v))) w rfl (fun b o hb N=>hs.extBut b o hb N) (Nat.le_of_eq hs.1.symm) (U':=U) (fun b m hb=>by
   refine Aa (fun dx W=>?_)<|R.M.mem b m hb
   exact⟨dx,by refine aa (qa _ _ (fun q=>by rw[q,w]at W;(replace W:=Bb W;cases W))) ?_;exact W⟩) (fun y hy=>by rw[← Bb hy];exact H)
  refine q _ _ x' ⟨R',⟨?_,fun j y p X h f l=>?_,F.lo,?_,F.sub,F.has,F.I,fun p X l=>?_,F.inj,F.nd,F.tp⟩⟩
  ·refine ya (fun m hm hr=>?_) F.ns;refine(pb m (Hm (fun o N=>hs.extBut _ o P.symm N) hm) (fun j y p h f l B=>?_));rw[Qf]at h;by_cases g:j=i
   ·subst g;rw[L]at f;(replace f:=Bb f;subst f);rw[l]at t;injection t
   ·rw[if_neg g]at h;refine ya (fun u D O=>?_)<|hr j y p h f l B
    exact(pb u D (O.za x'))
  ·rw[Qf]at h;by_cases g:j=i
   ·subst g;rw[if_pos rfl]at h;refine Cb (Bb h) ?_;rw[L]at f;(replace f:=Bb f;subst f);rw[t]at l;refine Cb (Bb l) ?_;exact(pb v (da ..) (hv.za x'))
   ·rw[if_neg g]at h;refine ya (fun u D O=>?_)<|F.cell j y p X h f l
    have:X≠c:=fun q=>g (tr F.nd f (by refine Cb (F.inj n p c t (q▸l)) ?_;exact L));exact(pb u (by exact qa _ _ this▸D) (O.za x'))
  ·refine aa (qa _ _ P.symm) ?_;exact F.af
  ·by_cases q:X=c
   ·refine aa q ?_;exact⟨_,da ..⟩
   ·refine Aa (fun u D=>?_)<|F.cells p X l;exact⟨u,by refine aa (qa _ _ q) ?_;exact D⟩
theorem Ec.JI{I':zc}(R:Ec G T d env cs I U s)(h:∀i,Ke I' i=Ke I i):Ec G T d env cs I' U s:=by obtain⟨M,F⟩:=R;refine⟨M,⟨?_,fun i x n c a=>F.cell i x n c (h i▸a),F.lo,F.af,F.sub,F.has,F.I,F.cells,F.inj,F.nd,F.tp⟩⟩;refine ya (fun m b e=>?_) F.ns;exact(pb m b (fun i x n a=>e i x n (h i▸a)))
noncomputable def mr(G:Og)(T:Tm)(d:List Str)(env:Env)(cs:List (Str×Addr))(U:Mem)(K:zc->Prop)(_:Unit)(s':Shared):Prop:=
 ∃T' I',Vd T T'∧Ec G T' d env cs I' U s'∧K I'
theorem mr.ext{K:zc->Prop}{u:Unit}{s':Shared}(h:Vd T T')(p:mr G T' d env cs U K u s'):mr G T d env cs U K u s':=
 Cd (fun e l a b c=>(qf e l (h.trans a) b c)) p
theorem Gp:∀{ts:List Tg}{es:List Expr},qr d C ts es=true->es.length=ts.length:=by
 intro b;induction b with
 |nil=>
  intro a h;rcases a with _|⟨c,f⟩
  ·exact rfl
  ·exact(Fc h).elim
 |cons t ts g=>
  intro a h;rcases a with _|⟨e,es⟩
  ·exact(Fc h).elim
  ·replace h:=Eb h;simp[g h.2]
theorem Vk{e:Expr}{es:List Expr}(h:ak d C t e=true)(env:Env):assignEach (e::es) env=(false,assign e env)::assignEach es env:=by
 cases e with
 |Starred y p=>cases t<;>exact(Fc h).elim
 |_=>rfl
theorem Jz(env:Env):∀{ts:List Tg}{es:List Expr},qr d C ts es=true->(assignEach es env).findIdx? (·.1)=none∧(assignEach es env).length=es.length:=by
 intro b;induction b with
 |nil=>
  intro a h;rcases a with _|⟨c,f⟩
  ·exact⟨rfl,rfl⟩
  ·exact(Fc h).elim
 |cons t ts g=>
  intro a h;rcases a with _|⟨e,es⟩
  ·exact(Fc h).elim
  ·replace h:=Eb h;refine Qa (fun i1 i2=>?_)<|g h.2
   refine aa (Vk h.1 _) ?_;simp[List.findIdx?_cons,i1,i2]
mutual
theorem Zh(D:Hd C env)(w:El k A):∀(t:Tg)(x:Expr)(X:V)(v:Value)(T:Tm)(I:zc)(s:Shared)(K:zc->Prop),ak d C t x=true->Ec G T d env cs I U s->VR T X v->Oh t X U I K-> wpAny (model G.prog G.w) A (assign x env v) (mr G T d env cs U K) (fun y y=>False) s
 | .nm i=>by
  intro x X v T I s K c R hv h;apply gf c;intro n p c
  ·skip
   (refine Nb (fun H j P=>?_)<|Ip c;refine ya (fun Q L M=>?_) j;clear j)
   exact PyProof.Rows.assign_Name (R.de D H L M hv fun T' s' a b=>(qf T' _ a b h))
 | .tp ts=>by
  intro x X v T I s K c R hv h;apply Zl c;intro es n p c
  ·skip;rw[zJ]at h;split at h
   ·rename_i l z;refine Qa (fun e h=>?_) h;refine Qa (fun N O=>?_)<|Jz env c
    have F:=Gp c;rewrite[PyProof.Rows.assign_Tuple];refine wpAny_bind (wpAny_standAt ?_);unfold unpack;refine aa N (aa O ?_)
    have m:∀{vs:List Value}(h':Heap),Heap.ExtBut s.heap.objs.size s.heap h'->Se T l vs->wpAny (model G.prog G.w) A (assignInOrder ((assignEach es env).map (·.2)) vs) (mr G T d env cs U K) (fun y y=>False) {s with heap:=h'}:=fun{vs} h' u r=>
     uq D w ts es l vs T I _ K c (R.keep s.toks fun b o f=>u b o (fun q=>by rw[q]at f;exact absurd (Heap.lt_size f) (Nat.lt_irrefl _)) f) r h
    rcases Jp z with rfl|z
    ·(refine ve (fun a vs n g f r=>?_)<|Qn R.M hv;subst g)
     have B:es.length=vs.toArray.size:=by exact aa List.size_toArray (aa r.length (aa F (aa e rfl)))
     refine aa B ?_;exact wpAny_bind (wpAny_holding (PyProof.Rows.unpackItems_tuple w.1 (Bm f) fun h' u=>m h' u r))
    ·(refine ve (fun a vs n g f r=>?_)<|Cc R.M hv z;subst g)
     have B:es.length=vs.toArray.size:=by exact aa List.size_toArray (aa r.length (aa F (aa e rfl)))
     refine aa B ?_;exact wpAny_bind (wpAny_holding (Gh w.1 (Wb f) fun h' u=>m h' u r))
   ·exact h.elim
theorem uq(j:Hd C env)(m:El k A):∀(ts:List Tg)(xs:List Expr)(l:List V)(vs:List Value)(T:Tm)(I:zc)(s:Shared)(K:zc->Prop),qr d C ts xs=true->Ec G T d env cs I U s->Se T l vs->pq ts l U I K-> wpAny (model G.prog G.w) A (assignInOrder ((assignEach xs env).map (·.2)) vs) (mr G T d env cs U K) (fun g g=>False) s
 | []=>by
  intro xs l vs T I s K f R hv h;rcases xs with _|⟨x,xs⟩
  ·rcases l with _|⟨X,l⟩
   ·refine aa (show vs=[] from hv) ?_;exact wpAny_pure (qf T I (Vd.refl T) R h)
   ·exact False.elim h
  ·exact(Fc f).elim
 |t::ts=>by
  intro xs l vs T I s K f R hv h;rcases xs with _|⟨x,xs⟩
  ·exact(Fc f).elim
  ·rcases l with _|⟨X,l⟩
   ·exact False.elim h
   ·replace f:=Eb f;refine Cd (fun v i e n o=>?_) hv;rw[FE]at h;refine aa (Vk f.1 _) (aa e ?_);refine(?_:wpAny _ _ (do holding i (assign x env v);assignInOrder ((assignEach xs env).map (·.2)) i) _ _ _);refine wpAny_bind (wpAny_holding (wpAny_mono (Zh j m t x X v T I s _ f.1 R n h) (fun u s' p=>?_) fun g g e=>e));refine Cd (fun T' I' a b c=>?_) p;exact wpAny_mono (uq j m ts xs l i T' I' s' K f.2 b (o.za a) c) (fun g g p=>p.ext a) fun g g e=>e
end
theorem Ec.ib(R:Ec G T d env cs I U s)(tk:Nat){l:Addr}{c:Cl}{X j:List (At×V)}{u:List DictEntry}{M:Nat}(w:T x=some (.mo (.ib c X) l))(i:T l=some (.mi x))(g:∀b o,b≠l->b≠env.locals->s.heap.get? b=some o->h'.get? b=some o)(H:∀m,s.heap.Ns env.locals m->h'.Ns env.locals m)(N:h'.get? l=some (dictOf u M))(Y:Nz T G.w j u) : Ec G (Ga T x (some (.mo (.ib c j) l))) d env cs I (Ga U x (some (.ib c j))) {s with heap:=h',toks:=tk}∧Vd T (Ga T x (some (.mo (.ib c j) l))):=by
 have B:Vd T (Ga T x (some (.mo (.ib c j) l))):=fun b y hs hb=>by refine aa (qa _ _ (fun q=>by rw[q,w]at hb;(replace hb:=Bb hb;subst hb);exact(Fc hs).elim)) ?_;exact hb
 have O:x≠env.locals:=fun q=>by rw[q,R.F.af]at w;injection w
 have D:x≠l:=fun q=>by rw[← q,w]at i;(replace i:=Bb i;cases i)
 refine Lk (fun h t er=>?_) R.M.Vc;refine Nb (fun g1 g2 g3=>?_)<|R.M.gc l _ i
 refine Nb (fun k1 k2 k3=>?_)<|R.M.gc x _ w
 refine⟨⟨⟨fun b o hb=>g b o (fun q=>absurd (Heap.lt_size hb) (Nat.not_lt.mpr (q▸(g1 rfl)))) (fun q=>absurd (Heap.lt_size hb) (Nat.not_lt.mpr (q▸R.F.lo))) (R.M.wi b o hb),(Aq h' tk (by exact aa er rfl)),fun a e p=>?_,Pm R.M w⟩,R.F.za B.f (fun m hm=>H m hm) ?_ fun n c v K h=>?_⟩,B⟩
 ·by_cases q:a=x
  ·subst q;rw[da]at p;refine Cb (Bb p) ?_;have F:Kg G (Ga T a (some (.mo (.ib c j) l))) h' a (.mo (.ib c j) l):=(yc (g a _ D O k3.1) (by refine aa (qa _ _ D.symm) ?_;exact i) (ej u M N (Y.za B.f)));exact(yc (fun K=>(k1 rfl)) F.lt F)
  ·rw[qa _ _ q]at p;refine Nb (fun P m2 Q=>?_)<|R.M.gc a e p
   by_cases L:a=l
   ·subst L;rw[i]at p;(replace p:=Bb p;subst p);have F:Kg G (Ga T x (some (.mo (.ib c j) a))) h' a (.mi x):=⟨_,N⟩;exact(yc P F.lt F)
   ·have W:a≠env.locals:=fun z=>by rw[z,R.F.af]at p;injection p
    exact(yc P (Q.za (h':=h') B.f (fun o=>g a o L W) fun m A K f o=>g A o (fun z=>q (by rw[z,i]at f;(replace f:=Bb f;cases f);rfl)) (fun z=>by rw[z,R.F.af]at f;injection f)).lt (Q.za (h':=h') B.f (fun o=>g a o L W) fun m A K f o=>g A o (fun z=>q (by rw[z,i]at f;(replace f:=Bb f;cases f);rfl)) (fun z=>by rw[z,R.F.af]at f;injection f)))
 ·refine aa (qa _ _ O.symm) ?_;exact R.F.af
 ·refine aa (qa _ _ (fun q=>by rw[q,w]at h;(replace h:=Bb h;cases h))) ?_;exact h
theorem rF{w:World}{a:At}{v:Value}{t:Tok}(hv:VR T y v):∀{g:List (At×V)}{es:List DictEntry},Nz T w g es->Nz T w (So g a y) (putL a.str (PyData.keyHash w.params a.str) (.str a.str t) v es):=by
 intro c;induction c with
 |nil=>intro es h;replace h:_=_:=h;rw[h];exact(zi v t [] rfl hv rfl)
 |cons f g l=>
  intro es h;obtain⟨b,x⟩:=f;obtain⟨u,j,i,e,m,r⟩:=h;rw[e];simp only[So,putL,Value.isStr];by_cases q:b=a
  ·rw[← q];simp only[if_true,beq_self_eq_true];exact(zi v j i rfl hv r)
  ·have hb:(b.str==a.str)=false:=beq_eq_false_iff_ne.mpr fun z=>q (At.Em _ _ z);simp only[q,if_false,hb,Bool.false_eq_true];exact(zi u j _ rfl m (l r))
theorem Vz{w:World}{a:At}:∀{c:List (At×V)}{es:List DictEntry},Nz T w c es->(getL a.str es).isSome=true:=by
 intro c es h;induction e:Sq c a with
 |some y=>refine ya (fun v hv j=>?_)<|Jx h e;refine aa hv ?_;rfl
 |none=>
  have key:es.find? (fun e=>e.key.isStr a.str)=none∧es.any (·.refKey)=false:=by
   induction c generalizing es with
   |nil=>replace h:_=_:=h;rw[h];exact⟨rfl,rfl⟩
   |cons p c f=>
    obtain⟨b,x⟩:=p
    (refine ve (fun u l g i m r=>?_) h;clear h)
    rw[i];replace e:(if b=a then some x else Sq c a)=none:=e;by_cases q:b=a
    ·rw[if_pos q]at e;injection e
    ·rw[if_neg q]at e;refine Qa (fun i1 i2=>?_)<|f r e
     have hb:(b.str==a.str)=false:=beq_eq_false_iff_ne.mpr fun z=>q (At.Em _ _ z);refine⟨by refine aa List.find?_cons ?_;simp only[Value.isStr,hb];exact i1,by refine aa List.any_cons (aa i2 ?_);rfl⟩
  unfold getL;refine aa key.1 (aa key.2 ?_);rfl
theorem fA{name:Str}{hsh:Int}{key v:Value}:∀es:List DictEntry,(putL name hsh key v es).length≤es.length+1:=by
 intro a;induction a with
 |nil=>simp[putL]
 |cons e r b=>
  unfold putL;split
  ·simp
  ·have:=b;exact Nat.succ_le_succ (by assumption)
theorem JD{w:World}:∀{b:List (At×V)}{es:List DictEntry},Nz T w b es->es.length=b.length:=by
 intro a;induction a with
 |nil=>intro es h;replace h:_=_:=h;refine aa h ?_;rfl
 |cons c f g=>intro es h;obtain⟨_,_,_,e,_,r⟩:=h;refine aa e ?_;simp[g r]
theorem LA(g:G.Ok)(R:Ec G T d env cs I U s){v:Value}{a:At}{K:Mem->Prop}(B:VR T X u)(hv:VR T Y v)(h:Ct U X a Y K){E:Value->Shared->Prop}{Q:Unit->Shared->Prop}(q:∀T' U' s',Vd T T'->Ec G T' d env cs I U' s'->K U'->Q () s'):wpAny (model G.prog G.w) A (setAttr u a.str v) Q E s:=by
 refine Df (fun x c fs l O D h=>?_) h;rw[l]at B;refine aa (show u=.ref x from B) ?_;refine Aa (fun j F=>?_)<|R.M.mem _ _ O
 (refine Ut (fun g1 g2 H e i=>?_)<|R.M.gc _ _ F;refine pd (fun es n t r=>?_) i;clear i)
 refine ya (fun m M l=>?_) R.F.ns;have w:j≠env.locals:=fun z=>by rw[z,R.F.af]at e;exact nomatch e
 refine set_plain (R.Uq g) ((⟨H,rfl,rfl,t⟩):InstAt s.heap x (instObj (G.cl c) j) (G.cl c) (some (dictOf es n))) (g.bC c).1 ?_;refine osa_dict (s:={s with toks:=s.toks+1}) (h₀:=qn) (L:=env.locals) (m:=m) (pre:=[]) (post:=(um s.heap env.locals).filter fun p=>p.1 != j) (CF M) (fun p f=>?_) (show G.K.In s.heap from R.Uq g) ((⟨H,rfl,rfl,t⟩):InstAt s.heap x (instObj (G.cl c) j) (G.cl c) (some (dictOf es n))) rfl (g.bC c).2 (by unfold takerIn;refine aa (g.iq c a) ?_;rfl) (g.Kw c) (Vz r) (fun l f=>nomatch f) (fun p f=>?_) (putName_dict _ _ _ _ _ _) rfl ?_ fun h' P N=>?_
 ·rcases pg f with rfl|f
  ·exact(yc t w (Vl _))
  ·exact Rm _ _ p (List.mem_filter.mp f).1
 ·simpa using(List.mem_filter.mp f).2
 ·have:=fA (name:=a.str) (hsh:=PyData.keyHash G.w.params a.str) (key:=.str a.str (s.toks+1)) (v:=v) es;rw[JD r]at this;lia
 ·refine Qa (fun W x'=>?_)<|R.ib (s.toks+1+1) F e (fun b o h1 h2 hb=>(N (b,o) (.tail _ (List.mem_filter.mpr ⟨Wi.mpr ⟨h2,hb⟩,by simpa using h1⟩))).1) (fun m' y=>Mr M y▸P.ns) (N _ (.head _)).1 (rF hv r)
  exact q _ _ _ x' W h
theorem Vo{prog:Program}{w:World}{E:Value->Shared->Prop}{l:Addr}{b:Array Value}{k:Int}{t:Tok}{v:Value}{Q:Unit->Shared->Prop}(e:s.heap.IsList l b)(g:0≤k)(a:k<2^63)(p:k<b.size)(h:Q () {s with heap:=s.heap.update l (Obj.mapSeq (·.setIfInBounds k.toNat v))}) : wpAny (model prog w) A (setItem (.ref l) (.int k t) v) Q E s:=by
 (refine Pb (fun o i q c=>?_)<|id e;refine Aa (fun u m=>?_) c;clear c)
 unfold setItem
 try with_reducible refine wpAny_holding ?_
 first|refine wpAny_bind (wpAny_pure ?_)|skip
 refine wpAny_bind (wpAny_sequenceKey e.typeIs (by exact Ub rfl) ?_)
 refine wpAny_bind (wpAny_callSpecial?_slot (name:=Str.ofString "__setitem__") e.typeIs PySem.F.slot_list_setitem
  (wpAny_call_entry PySem.F.slot_list_setitem e.typeIs PySem.F.entry_list_setitem ?_ (PySem.F.args_list_setitem_3 _ _ _)))
 refine(?_:wpAny _ _ (Builtin.List.listSubscript? (.int k t) >>= _) _ _ s);refine wpAny_bind (wpAny_listSubscript_int (fitsIndex_of g a) ?_);clear a
 (refine Aa (fun j f=>?_)<|Int.eq_ofNat_of_zero_le g;subst f)
 have n:j<b.size:=by exact Int.ofNat_lt.mp (by assumption)
 refine wpAny_bind (wpAny_bind (wpAny_seqItemAt i m (wpAny_pure ?_)));refine aa ((Array.getElem?_eq_getElem n):b[j]?=some b[j]) ?_;refine wpAny_bind (wpAny_setSeqItemAt i m ?_)
 first
  |exact wpAny_bind (wpAny_pure (wpAny_pure (pb .none rfl (wpAny_pure h))))
  |exact wpAny_pure ⟨.none,rfl,wpAny_pure h⟩
noncomputable def nk(G:Og)(T:Tm)(d:List Str)(env:Env)(cs:List (Str×Addr))(Kn:zc->Mem->Prop)(Kr:V->Mem->Prop)(f:Flow)(s':Shared):Prop:=match f with
 | .next=>∃T' I' U',Vd T T'∧Ec G T' d env cs I' U' s'∧Kn I' U'
 | .ret v=>∃T' U' X,Vd T T'∧Ed G T' U' s'∧VR T' X v∧Kr X U'
 |_=>False
abbrev WS (G:Og) (k:Nat) (d:List Str) (C:Scope) (t:Env->Sem Flow) (I:zc) (U:Mem) (Kn:zc->Mem->Prop) (Kr:V->Mem->Prop):Prop:=
 ∀A T env cs s,El k A->Hd C env->Ec G T d env cs I U s->wpAny (model G.prog G.w) A (t env) (nk G T d env cs Kn Kr) (fun ζ ζ=>False) s
noncomputable def zy(G:Og)(d:List Str)(S:S):Prop:=∀k C x I U Kn Kr,wI d C S x=true->OC G k S I U Kn Kr->WS G k d C (exec x) I U Kn Kr
theorem nk.ext{f:Flow}{s':Shared}(h:Vd T T')(p:nk G T' d env cs Kn Kr f s'):nk G T d env cs Kn Kr f s':=by
 induction f<;>first|exact p.elim|skip
 ·(refine qh (fun c l m a b=>?_) p;clear p);exact(Gm c l m (h.trans a) b)
 ·(refine qh (fun c l m a b=>?_) p;clear p);exact(Gm c l m (h.trans a) b)
theorem pG(b:fc G d e):zy G d (.ret e):=fun k C x I U Kn Kr a h A T env cs s c f R=>by
 apply iB a;intro m pos a;apply Mw a;intro y a
 ·skip;refine wpAny_Return_some (Oa ((b k C y I U a).1 _ h A T env cs s c f R) fun T' U' X u s' g i j l=>?_);exact(Jj T' U' X g i.M j l)
theorem xA:zy G d .Nc:=fun k C x I U Kn Kr a h=>by rw[lL]at h;exact h.elim
theorem Sh{v:Expr}{t:Option Expr}(h:Dn v=false):swapsWith v t n env=pure false:=by cases v<;>first|rfl|injection h
theorem qF(n:fc G d e):zy G d (.expr e):=fun k C x I U Kn Kr a h A T env cs s o m R=>by
 apply yy a;intro y pos a;replace a:=Eb a;rw[Bool.not_eq_true']at a
 ·skip;have p:interactive env=false:=by
   unfold interactive;refine aa m.zo ?_;rfl
  refine wpAny_Expr (Oa ((n k C y I U a.2).1 _ h A T env cs s o m R) fun T' U' X u s' g j c f=>?_) p (Sh a.1);cases X with
  |none=>replace c:_=_:=c;rw[c];exact(zi T' I U' g j f)
  |bool b=>replace c:_=_:=c;rw[c];exact(zi T' I U' g j f)
  |int i=>(refine Aa (fun t l=>?_)<|vd c;rw[l]);exact(zi T' I U' g j f)
  |_=>exact f.elim
theorem WD(q:G.Ok){o:E}{a:At}(t:fc G d o)(z:fc G d e):zy G d (.Zf o a e):=fun k C x I U Kn Kr b h A T env cs s j l R=>by
 apply Tp b;intro ts v pos b;apply Vg b;intro tg b;apply yn b;intro y n p b;refine jb b fun B b=>jb b fun m b=>jb b fun f D=>?_
 ·rw[Bool.not_eq_true']at m;refine aa (Rh B) ?_;refine plainObj_wpAny_Assign_Attribute (Oa ((z k C v I U D).1 _ h A T env cs s j l R) fun T' U' X u s' F H K L=>?_) (Sh m);refine Oa ((t k C y I U' f).1 _ L A T' env cs s' j l H) fun M U'' Y w N c g O i=>?_;exact LA q g O (K.za c) i fun T3 U3 W P Q f=>(zi T3 I U3 ((F.trans c).trans P) Q f)
theorem tD(hG:G.Ok){o i:E}(Ho:fc G d o)(Hi:fc G d i)(He:fc G d e):zy G d (.Ph o i e):=fun k C x I U Kn Kr g h A T env cs s P Q R=>by
 apply Tp g;intro ts v pos g;apply Vg g;intro tg g;apply Lm g;intro y j p g;refine jb g fun h2 g=>jb g fun h3 g=>jb g fun h5 h4=>?_
 ·rw[Bool.not_eq_true']at h2;refine wpAny_Assign_Subscript (Oa ((He k C v I U h4).1 _ h A T env cs s P Q R) fun T' U' X u s' hT H hu hq=>?_) (Sh h2);refine Oa ((Ho k C y I U' h3).1 _ hq A T' env cs s' P Q H) fun W U'' Y w ba z ea hw fa=>?_;refine Oa ((Hi k C j I U'' h5).1 _ fa A W env cs ba P Q ea) fun T3 U3 a jv s3 m B hj c=>?_;have K:=hw.za m;refine Cd (fun x F e1 e2 c=>?_) c;rw[e1]at K;rw[e2]at hj
  (refine Aa (fun t ha=>?_)<|vd hj;refine aa ha (aa (show w=.ref x from K) ?_))
  rcases c with c|c
  ·refine Pb (fun l N L c=>?_) c
   (refine Nb (fun q0 q1 q2=>?_) L;clear L)
   ·skip;refine Aa (fun O D=>?_)<|B.M.mem _ _ N
    refine pd (fun vs n ho r=>?_)<|(B.M.gc _ _ D).2.2
    refine Vo (Wb ho) q0 (by lia) (by refine aa List.size_toArray (aa r.length ?_);exact q1) ?_;refine Qa (fun H x'=>?_)<|Hp B D N ho (f:=fun xs=>xs.setIfInBounds F.toNat u) (l':=l.set F.toNat X) (pb (vs.set F.toNat u) (by simp) (r.set _ ((hu.za z).za m))) s3.toks
    exact(zi _ I _ (((hT.trans z).trans m).trans x') H c)
  ·refine Pb (fun kvs N hb c=>?_) c
   ·skip;refine Aa (fun O D=>?_)<|B.M.mem _ _ N
    (refine Nb (fun g1 g2 M=>?_)<|B.M.gc _ _ D;refine ya (fun cvs hD hk=>?_) M;clear M)
    refine wpAny_setItem_pairs (intKind_is G.prog G.w F t) hD (fun h' ka hs=>?_) (by exact Ds hk▸ri hb);have la:Vd T3 (Ga T3 x (some (.mo (.dict (Ue kvs F X)) O))):=fun b y hy hb=>by refine aa (qa _ _ (fun q=>by rw[q,D]at hb;(replace hb:=Bb hb;subst hb);exact(Fc hy).elim)) ?_;exact hb
    refine Qa (fun H x'=>?_)<|B.Ak (s3.toks+1) x _ O (some (.mo (.dict (Ue kvs F X)) O)) D hs (Pm B.M D) (fun e he=>by
     refine Cb (Bb he) ?_;exact(pb _ ka ((Fs ((hu.za z).za m) hk).za la.f)))
    exact(zi _ I _ (((hT.trans z).trans m).trans x') H c)
noncomputable def xl(O:List Addr)(T T':Tm):Prop:=∀b e,e.Vp=true->b∉O->T b=some e->T' b=some e
theorem Vd.o(h:Vd T T'):xl O T T':=fun b e hs a hb=>h b e hs hb
theorem xl.trans{a:Tm}(x:xl O T T')(y:xl O T' a):xl O T a:=fun b e hs c hb=>y b e hs c (x b e hs c hb)
theorem xl.ext(h:xl O T T')(a:∀b∈O,T b=none):Vd T T':=fun b e hs hb=>h b e hs (fun q=>by rw[a b q]at hb;injection hb) hb
theorem Vd.then{a:Tm}(x:Vd T T')(y:xl O T' a)(c:∀b∈O,T b=none):Vd T a:=(x.o.trans y).ext c
noncomputable def ij(T:Tm)(S:Mem->Prop)(a:Addr)(l:List V):Prop:=(∃vs,T a=some (.fz true vs)∧Se T l vs)∨∀U,S U->U a=some (.list l)
noncomputable def om(it:Addr)(i:Int)(old:Value):Obj:={cls:=.type "enumerate",dict:=none,data:=.fields #[.none,.bool false,.ref it,rawInt i,.none,old],slots:=#[]}
noncomputable def bw(TI TO:Addr)(a:Value):Obj:={cls:=.type "zip",dict:=none,data:=.fields #[a,.bool false,.bool false,.ref TI,.ref TO],slots:=#[]}
noncomputable def Ki(a b:Value):Obj:={cls:=.type "tuple",data:=.seq #[a,b]}
noncomputable def jm(x left step:Int):Obj:={cls:=.type "range_iterator",dict:=none,data:=.fields #[rawInt x,rawInt left,rawInt step],slots:=#[]}
inductive qj (T:Tm) (S:Mem->Prop):List Addr->Value->Bool->List V->Prop
 |list {I a:Addr} {l:List V} {i:Nat} {o:Obj}:T I=some (.Kb o)->o.cls=.type "list_iterator"->o.data=.fields #[.ref a,.int i 0]->ij T S a l->qj T S [I] (.ref I) false (l.drop i)
 |Ba {I a:Addr} {l:List V} {vs:List Value} {i:Nat} {o:Obj}:T I=some (.Kb o)->o.cls=.type "tuple_iterator"->o.data=.fields #[.ref a,.int i 0]->T a=some (.fz false vs)->Se T l vs->qj T S [I] (.ref I) false (l.drop i)
 |xD {I:Addr} {i n:Nat}:T I=some (.Kb (jm i n 1))->qj T S [I] (.ref I) false (dj i n)
 |iF {e I a:Addr} {l:List V} {i:Nat} {o:Obj} {old:Value}:e≠I->T e=some (.Kb (om I i old))->T I=some (.Kb o)->o.cls=.type "list_iterator"->o.data=.fields #[.ref a,.int i 0]->ij T S a l->qj T S [e,I] (.ref e) true (Aj i (l.drop i))
 |zp {z TI TO i1 i2 a b:Addr} {l m:List V} {i:Nat} {o1 o2:Obj} {p q:Value}:[z,TI,TO,i1,i2].Nodup->T z=some (.Kb (bw TI TO .none))->T TI=some (.Kb (Ki (.ref i1) (.ref i2)))->T TO=some (.Kb (Ki p q))->
  T i1=some (.Kb o1)->o1.cls=.type "list_iterator"->o1.data=.fields #[.ref a,.int i 0]->T i2=some (.Kb o2)->o2.cls=.type "list_iterator"->o2.data=.fields #[.ref b,.int i 0]->ij T S a l->ij T S b m->
  qj T S [z,TI,TO,i1,i2] (.ref z) true (To (l.drop i) (m.drop i))
theorem ij.za{S:Mem->Prop}(h:ij T S a l)(x:jl T T'):ij T' S a l:=by
 rcases h with⟨vs,b,c⟩|h
 ·exact .inl (pb vs (x _ _ rfl b) (c.ae x))
 ·exact .inr h
noncomputable def aq(x:Expr):Bool:=decide (x.ctorIdx=25)
theorem Ec.jo(R:Ec G T d env cs I U s)(O:List Addr)(p:∀a∈O,∃o,T a=some (.Kb o))(tk:Nat)(g:∀b o,b∉O->s.heap.get? b=some o->h'.get? b=some o)(T':Tm)(j:∀b,b∉O->T' b=T b)(F:∀b∈O,∀e,T' b=some e->∃o,e=.Kb o∧h'.get? b=some o):Ec G T' d env cs I U {s with heap:=h',toks:=tk}∧jl T T'∧xl O T T':=by
 have w:jl T T':=fun b x hs hb=>by refine aa (j b (fun q=>by refine Aa (fun o f=>?_)<|p b q;rw[hb]at f;(replace f:=Bb f;subst f);exact(Fc hs).elim)) ?_;exact hb
 have i:∀b e,T b=some e->(∀o,e≠.Kb o)->b∉O:=fun b e hb H q=>by refine Aa (fun o f=>?_)<|p b q;rw[hb]at f;(replace f:=Bb f;subst f);exact H _ rfl
 have D:env.locals∉O:=fun q=>by refine Aa (fun o f=>?_)<|p _ q;rw[R.F.af]at f;injection f
 refine Lk (fun h t K=>?_) R.M.Vc;have nb:∀b o,G.wg.heap.get? b=some o->b∉O:=fun b o hb q=>by
  refine Aa (fun L f=>?_)<|p b q
  exact absurd (Heap.lt_size hb) (Nat.not_lt.mpr ((R.M.gc b _ f).1 rfl))
 refine(yc ⟨⟨fun b o hb=>g b o (nb b o hb) (R.M.wi b o hb),(Aq h' tk (by exact aa K rfl)),fun b x hb=>?_,fun b m hb=>?_⟩,R.F.za w (fun m=>Hm fun o f=>g _ o D f) ?_ fun n c v l h=>?_⟩ w (fun b e l M hb=>by refine aa (j b M) ?_;exact hb))
 ·by_cases q:b∈O
  ·(refine ya (fun o y f=>?_)<|F b q x hb;refine aa y ?_)
   refine Aa (fun L A=>?_)<|p b q
   exact(yc (fun l=>(R.M.gc b _ A).1 rfl) (Heap.lt_size f) f)
  ·rw[j b q]at hb;refine Nb (fun N Q P=>?_)<|R.M.gc b x hb
   have:=P.za (h':=h') w (fun o=>g b o q) fun m B l u o=>g B o (i _ _ u fun l z=>by injection z);exact(yc N this.lt this)
 ·refine Aa (fun B u=>?_)<|R.M.mem b m hb
  exact⟨B,by refine aa (j b (i _ _ u fun l z=>by injection z)) ?_;exact u⟩
 ·refine aa (j _ D) ?_;exact R.F.af
 ·refine aa (j _ (i _ _ h fun l z=>by injection z)) ?_;exact h
theorem Rt(R:Ed G T U s){S:Mem->Prop}(f:S U)(h:ij T S a l):∃vs,s.heap.IsList a vs.toArray∧Se T l vs∧(∀o,T a≠some (.Kb o)):=by
 rcases h with⟨vs,c,g⟩|h
 ·refine Aa (fun n b=>?_)<|(R.gc _ _ c).2.2
  exact(cc vs (Wb b) g (fun o q=>by rw[c]at q;(replace q:=Bb q;cases q)))
 ·refine Aa (fun i e=>?_)<|R.mem _ _ (h U f)
  refine pd (fun vs n b r=>?_)<|(R.gc _ _ e).2.2
  exact(cc vs (Wb b) r (fun o q=>by rw[e]at q;(replace q:=Bb q;cases q)))
noncomputable def Zz(G:Og)(d:List Str)(env:Env)(cs:List (Str×Addr))(I:zc)(U:Mem)(S:Mem->Prop)(T:Tm)(O:List Addr)(it:Value)(w:Bool)(todo:List V)(v:Value)(s':Shared):Prop:=
 ∃x xs T',todo=x::xs∧xl O T T'∧jl T T'∧Ec G T' d env cs I U s'∧VR T' x v∧qj T' S O it w xs
noncomputable def RF(G:Og)(d:List Str)(env:Env)(cs:List (Str×Addr))(I:zc)(U:Mem)(T:Tm)(O:List Addr)(todo:List V)(s':Shared):Prop:=
 todo=[]∧∃T',xl O T T'∧jl T T'∧Ec G T' d env cs I U s'
theorem SA{b:Addr}{v:Value}{o:Obj}{E:Value->Shared->Prop}{Q:Unit->Shared->Prop}(c:s.heap.get? b=some o)(e:o.cls=.type "list_iterator"∨o.cls=.type "tuple_iterator"∨o.cls=.type "range_iterator")(q:Q () s) : wpAny M A (letOwnedTupleGo target (.ref b) v) Q E s:=by
 have key:∀a:Addr,wpAny M A (do
  let o ← load b
  match o.cls,o.data with
  | .type n,.fields vs=>
   if ["enumerate","zip","dict_itemiterator","dict_reverseitemiterator","odict_iterator","itertools.zip_longest","itertools.pairwise"].contains n&&vs[0]?==some (rawInt a)then
    rule "for.unpacks-the-owned-tuple"
    updateField b 0 .none
  |_,_=>pure ():Sem Unit) Q E s:=fun a=>by
  refine wpAny_bind (wpAny_load c ?_)
  rcases e with h|h|h<;>refine aa h ?_<;>induction o.data<;>first
   |exact wpAny_pure q
   |(simp only[show(["enumerate","zip","dict_itemiterator","dict_reverseitemiterator","odict_iterator","itertools.zip_longest","itertools.pairwise"]:List String).contains "list_iterator" = false from by exact Pa rfl,show(["enumerate","zip","dict_itemiterator","dict_reverseitemiterator","odict_iterator","itertools.zip_longest","itertools.pairwise"]:List String).contains "tuple_iterator" = false from by exact Pa rfl,show(["enumerate","zip","dict_itemiterator","dict_reverseitemiterator","odict_iterator","itertools.zip_longest","itertools.pairwise"]:List String).contains "range_iterator" = false from by exact Pa rfl,Bool.false_and,Bool.false_eq_true,if_false];exact wpAny_pure q)
 cases target<;>first|exact wpAny_pure q|(cases v<;>first|exact wpAny_pure q|exact key _)
theorem Bj{b:Type}{l:List b}{x:b}(h:l[i]?=some x):l.drop i=x::l.drop (i+1):=by
 (refine Aa (fun c a=>?_)<|Ro h;subst a)
 exact List.drop_eq_getElem_cons c
theorem drop_nil{a:Type}{l:List a}(h:l[i]?=none):l.drop i=[]:=List.drop_eq_nil_of_le (List.getElem?_eq_none_iff.mp h)
theorem me{c:Type}{a b:c}{l:List c}(q:a=b):a∈b::l:=by refine aa q ?_;exact .head _
theorem Ec.MB(R:Ec G T d env cs I U s){a:Addr}{o:Obj}(g:T a=some (.Kb o))(tk:Nat)(c:∀b o,b≠a->s.heap.get? b=some o->h'.get? b=some o)(e:todo=[]) : RF G d env cs I U T [a] todo {s with heap:=h',toks:=tk}:=by
 refine Nb (fun h f x=>?_)<|R.jo [a] (fun b hb=>⟨_,(Jd hb)▸g⟩) tk (fun b o hb i=>c b o (fun q=>hb (me q)) i) (fun b=>if b=a then none else T b) (fun b hb=>if_neg (fun q=>hb (me q))) (fun b hb e c=>by
  rw[if_pos (Jd hb)]at c;injection c)
 exact⟨e,_,x,f,h⟩
theorem Ec.Pz(R:Ec G T d env cs I U s){a:Addr}{o:Obj}(i:T a=some (.Kb o))(tk:Nat){g:Obj}(h:h'.get? a=some g)(c:∀b o,b≠a->s.heap.get? b=some o->h'.get? b=some o){S:Mem->Prop}{it:Value}{w:Bool}{xs:List V}{x:V}{v:Value}(e:todo=x::xs)(hv:∀T',jl T T'->VR T' x v)(j:∀T',jl T T'->T' a=some (.Kb g)->qj T' S [a] it w xs):Zz G d env cs I U S T [a] it w todo v {s with heap:=h',toks:=tk}:=by
 refine Nb (fun l f m=>?_)<|R.jo [a] (fun b hb=>⟨_,(Jd hb)▸i⟩) tk (fun b o hb n=>c b o (fun q=>hb (me q)) n) (Ga T a (some (.Kb g))) (fun b hb=>qa _ _ fun q=>hb (me q)) (fun b hb e c=>by
  rw[Jd hb]at c ⊢;rw[da]at c;exact⟨_,(Bb c).symm,h⟩)
 exact uH x xs _ e m f l (hv _ f) (j _ f (da ..))
noncomputable def Nw(G:Og)(A:Around)(d:List Str)(env:Env)(cs:List (Str×Addr))(I:zc)(U:Mem)(S:Mem->Prop)(T:Tm)(target:Expr)(E:Value->Shared->Prop)(s:Shared)(O:List Addr)(it:Value)(w:Bool)(todo:List V):Prop:=
 wpAny (model G.prog G.w) A (pyNext it) (fun r a=>match r with
  |none=>RF G d env cs I U T O todo a
  |some v=>wpAny (model G.prog G.w) A (letOwnedTupleGo target it v) (fun c b=>Zz G d env cs I U S T O it w todo v b) E a) E s
theorem uJ{l:List Value}{m:List V}(h:l.length=m.length)(e:m[i]?=none):l.toArray[i]?=none:=by
 (refine aa List.getElem?_toArray ?_;rewrite[List.getElem?_eq_none_iff];refine aa h ?_);exact List.getElem?_eq_none_iff.mp e
theorem yI{l:List Value}{v:Value}(h:l[i]?=some v):l.toArray[i]?=some v:=by refine aa List.getElem?_toArray ?_;exact h
theorem ky(w:A.handled=none)(R:Ec G T d env cs I U s){S:Mem->Prop}(z:S U){E:Value->Shared->Prop}{b:Addr}{o:Obj}(n:T b=some (.Kb o))(B:o.cls=.type "list_iterator")(D:o.data=.fields #[.ref a,.int i 0])(t:ij T S a l) : Nw G A d env cs I U S T target E s [b] (.ref b) false (l.drop i):=by
 refine Pb (fun vs u r K=>?_)<|Rt R.M z t
 have g:s.heap.IsListIter b a i:=⟨o,(R.M.gc _ _ n).2.2,B,D⟩;induction e:l[i]? with
 |none=>exact wpAny_pyNext_list_end w g u (uJ r.length e) fun h' F=>R.MB n s.toks F (drop_nil e)
 |some y=>
  refine ya (fun v hv p=>?_)<|r.Pn e
  refine wpAny_pyNext_list_item g u (x:=v) (yI hv) fun h' c hs=>?_
  (refine Pb (fun L j m q=>?_) c;clear c)
  exact SA j (.inl m) (R.Pz n s.toks j hs.extBut (Bj e) (fun H f=>p.ae f) fun H f h=>.list h m q (t.za f))
theorem UB(z:A.handled=none)(R:Ec G T d env cs I U s){S:Mem->Prop}{E:Value->Shared->Prop}{b:Addr}{vs:List Value}{o:Obj}(p:T b=some (.Kb o))(B:o.cls=.type "tuple_iterator")(D:o.data=.fields #[.ref a,.int i 0])(u:T a=some (.fz false vs))(r:Se T l vs) : Nw G A d env cs I U S T target E s [b] (.ref b) false (l.drop i):=by
 refine Aa (fun n F=>?_)<|(R.M.gc _ _ u).2.2
 have w:=Mp F;have g:s.heap.IsTupleIter b a i:=⟨o,(R.M.gc _ _ p).2.2,B,D⟩;induction e:l[i]? with
 |none=>exact wpAny_pyNext_tuple_end z g w (uJ r.length e) fun h' H=>R.MB p s.toks H (drop_nil e)
 |some y=>
  refine ya (fun v hv q=>?_)<|r.Pn e
  refine wpAny_pyNext_tuple_item g w (x:=v) (yI hv) fun h' c hs=>?_
  (refine Pb (fun L j m t=>?_) c;clear c)
  exact SA j (.inr (.inl m)) (R.Pz p s.toks j hs.extBut (Bj e) (fun K f=>q.ae f) fun K f h=>.Ba h m t (f _ _ rfl u) (r.ae f))
theorem tB(j:A.handled=none)(R:Ec G T d env cs I U s){S:Mem->Prop}{E:Value->Shared->Prop}{a:Addr}(f:T a=some (.Kb (jm i n 1))) : Nw G A d env cs I U S T target E s [a] (.ref a) false (dj i n):=by
 have e:IsRangeIter s.heap a i n 1:=(R.M.gc _ _ f).2.2;induction n with
 |zero=>exact wpAny_pyNext_range_end j e (Int.le_refl _) fun h' l=>R.MB f s.toks l rfl
 |succ n=>
  refine wpAny_pyNext_range_item e (by lia) fun h' b hs=>?_;have c:h'.get? a=some (jm ((i+1:Nat):Int) (n:Nat) 1):=by rw[(by lia:(((n+1:Nat):Int) - 1)=(n:Int))]at b;exact b
  exact SA c (.inr (.inr rfl)) (R.Pz f (s.toks+1) c hs.extBut rfl (fun g g=>by exact⟨_,rfl⟩) fun g g h=>.xD h)
theorem cB(hh:A.handled=none)(R:Ec G T d env cs I U s){S:Mem->Prop}(hm:S U)(ht:aq target=true){E:Value->Shared->Prop}{e c:Addr}{o:Obj}{old:Value}(g:e≠c)(L:T e=some (.Kb (om c i old)))(M:T c=some (.Kb o))(hc:o.cls=.type "list_iterator")(hd:o.data=.fields #[.ref a,.int i 0])(hS:ij T S a l) : Nw G A d env cs I U S T target E s [e,c] (.ref e) true (Aj i (l.drop i)):=by
 refine Pb (fun vs hL r hp=>?_)<|Rt R.M hm hS
 have w:s.heap.IsListIter c a i:=⟨o,(R.M.gc _ _ M).2.2,hc,hd⟩;have z:IsEnum s.heap e c i old:=(R.M.gc _ _ L).2.2;have j:∀b∈[e,c],b=e∨b=c:=fun b hb=>(pg hb).imp_right Jd;have hO:∀b∈[e,c],∃o,T b=some (.Kb o):=fun b hb=>(j b hb).elim (fun q=>q▸⟨_,L⟩) fun q=>q▸⟨_,M⟩;have N:∀{b},b∉[e,c]->b≠e:=fun hb q=>hb (me q);have O:∀{b},b∉[e,c]->b≠c:=fun hb q=>hb (.tail _ (me q));induction q:l[i]? with
 |none=>
  refine wpAny_pyNext_enum_end hh z w hL (uJ r.length q) fun h' hx=>?_;refine Nb (fun P f x=>?_)<|R.jo [e,c] hO s.toks (fun b o hb B=>hx b o (O hb) B) (fun b=>if b∈[e,c]then none else T b) (fun b hb=>if_neg hb) (fun b hb y p=>by
   rw[if_pos hb]at p;injection p)
  exact⟨by refine aa (drop_nil q) ?_;rfl,_,x,f,P⟩
 |some y=>
  refine ya (fun v hv Q=>?_)<|r.Pn q
  refine Expr.Tuple.elim target (Ub ht) ?_;intro es n pp;refine wpAny_pyNext_enum_item z w hL (x:=v) (yI hv) g fun h' B m D la F=>?_;refine wpAny_letOwnedTupleGo_enum B fun h2 W t=>?_
  (refine Pb (fun X Y ba ea=>?_) m;clear m)
  have fa:h2.get? c=some X:=(t.2 c g.symm).trans Y;have H:s.heap.objs.size≠e:=Nat.ne_of_gt (R.M.gc _ _ L).2.1;have ha:s.heap.objs.size≠c:=Nat.ne_of_gt (R.M.gc _ _ M).2.1;generalize h:Ga (Ga T e (some (.Kb (om c ((i:Int)+1) v)))) c (some (.Kb X))=T';have K:∀{b},b≠e->b≠c->T' b=T b:=fun a b=>by exact Cb h (aa (qa _ _ b) (aa (qa _ _ a) rfl))
  have te:T' e=some (.Kb (om c ((i:Int)+1) v)):=by exact Cb h (aa (qa _ _ g) (aa (da _ _ _) rfl))
  have tI:T' c=some (.Kb X):=by exact Cb h (aa (da _ _ _) rfl)
  clear h;refine Nb (fun P f x=>?_)<|R.jo [e,c] hO (s.toks+1) (h':=h2) (fun b o hb B=>t.extBut b o (N hb) (F b o (N hb) (O hb) B)) T' (fun b hb=>K (N hb) (O hb)) (fun b hb y p=>by
   rcases j b hb with q|q
   ·rw[q,te]at p;exact q▸⟨_,(Bb p).symm,W⟩
   ·rw[q,tI]at p;exact q▸⟨_,(Bb p).symm,fa⟩)
  have ka:T' s.heap.objs.size=none:=(K H ha).trans (R.M.Ya (tf _));refine Qa (fun R2 u=>?_)<|P.Uv s.heap.objs.size (.fz false [.int i s.toks,v]) R.hz ka (Nat.ne_of_gt R.F.lt) ⟨0,t.extBut _ _ H D⟩
  refine uH (.Ba [.int i,y]) (Aj (i+1) (l.drop (i+1))) _ (by refine aa (Bj q) ?_;rfl) (x.trans u.o) (f.trans u.f) R2 ?_ ?_
  ·exact qf _ _ rfl (da ..) (.cons (by exact⟨_,rfl⟩) (.cons ((Q.ae f).za u) .nil))
  ·exact .iF (old:=v) (i:=i+1) g (u _ _ rfl te) (u _ _ rfl tI) ba ea ((hS.za f).za u.f)
theorem ID(hh:A.handled=none)(R:Ec G T d env cs I U s){S:Mem->Prop}(hm:S U)(ht:aq target=true){E:Value->Shared->Prop}{b:Addr}{m:List V}{o1 o2:Obj}{p q:Value}(nd:[z,TI,TO,i1,i2].Nodup)(X:T z=some (.Kb (bw TI TO .none)))(N:T TI=some (.Kb (Ki (.ref i1) (.ref i2))))(B:T TO=some (.Kb (Ki p q)))(h1:T i1=some (.Kb o1))(c1:o1.cls=.type "list_iterator")(d1:o1.data=.fields #[.ref a,.int i 0])(h2:T i2=some (.Kb o2))(c2:o2.cls=.type "list_iterator")(d2:o2.data=.fields #[.ref b,.int i 0])(Y:ij T S a l)(ba:ij T S b m) : Nw G A d env cs I U S T target E s [z,TI,TO,i1,i2] (.ref z) true (To (l.drop i) (m.drop i)):=by
 refine Pb (fun vs ea r1 F=>?_)<|Rt R.M hm Y
 refine Pb (fun ws fa r2 H=>?_)<|Rt R.M hm ba
 have Q:=nd;simp only[List.nodup_cons,List.mem_cons,List.not_mem_nil,or_false,not_or,not_false_eq_true,List.nodup_nil,and_true]at Q
 (refine nf (fun ha ka la qJ=>?_) Q;clear Q;refine nf (fun n1 n2 n3 n4=>?_) ha;clear ha;refine Nb (fun n5 n6 n7=>?_) ka;clear ka;refine Qa (fun n8 n9=>?_) la;clear la)
 have D:ZipApart z TI TO i1 i2 a b:=⟨Ne.symm n1,Ne.symm n2,Ne.symm n3,Ne.symm n4,n5,n6,n7,n8,n9,qJ,fun q=>F _ (q▸X),fun q=>F _ (q▸B),fun q=>F _ (q▸h1),fun q=>F _ (q▸h2),fun q=>H _ (q▸X),fun q=>H _ (q▸B),fun q=>H _ (q▸h1),fun q=>H _ (q▸h2)⟩;have kz:IsZip s.heap z TI TO .none:=(R.M.gc _ _ X).2.2;have W:IsPair s.heap TI (.ref i1) (.ref i2):=(R.M.gc _ _ N).2.2;have pa:IsPair s.heap TO p q:=(R.M.gc _ _ B).2.2;have k1:s.heap.IsListIter i1 a i:=⟨o1,(R.M.gc _ _ h1).2.2,c1,d1⟩;have k2:s.heap.IsListIter i2 b i:=⟨o2,(R.M.gc _ _ h2).2.2,c2,d2⟩;generalize g:[z,TI,TO,i1,i2]=O at nd;have all:∀{P:Addr->Prop},P z->P TI->P TO->P i1->P i2->∀c∈O,P c:=fun p1 p2 p3 p4 p5 c t=>by
  rw[← g]at t;rcases pg t with q|t;exact q▸p1
  rcases pg t with q|t;exact q▸p2;rcases pg t with q|t;exact q▸p3;rcases pg t with q|t;exact q▸p4;exact Jd t▸p5
 have m0:z∈O:=g▸.head _;have m2:TO∈O:=g▸.tail _ (.tail _ (.head _));have m3:i1∈O:=g▸.tail _ (.tail _ (.tail _ (.head _)));have m4:i2∈O:=g▸.tail _ (.tail _ (.tail _ (.tail _ (.head _))));have u:∀{c e},c∉O->e∈O->c≠e:=fun h h' q=>h (q▸h');have hO:∀c∈O,∃o,T c=some (.Kb o):=all ⟨_,X⟩ ⟨_,N⟩ ⟨_,B⟩ ⟨_,h1⟩ ⟨_,h2⟩;have ra:l[i]?=none∨m[i]?=none->To (l.drop i) (m.drop i)=[]:=fun h=>by
  rcases h with h|h
  ·refine aa (drop_nil h) ?_;rfl
  ·refine aa (drop_nil h) ?_;induction l.drop i<;>rfl
 have sa:l[i]?=none∨m[i]?=none->Nw G A d env cs I U S T target E s O (.ref z) true (To (l.drop i) (m.drop i)):=fun h=>by
  refine wpAny_pyNext_zip_end hh D kz W pa k1 k2 ea fa (h.imp (uJ r1.length) (uJ r2.length)) fun h' hx=>?_;refine Nb (fun R' f x=>?_)<|R.jo O hO s.toks (fun b o hb ho=>hx b o (u hb m0) (u hb m2) (u hb m3) (u hb m4) ho) (fun b=>if b∈O then none else T b) (fun b hb=>if_neg hb) (fun b hb y hy=>by
   rw[if_pos hb]at hy;exact nomatch hy)
  exact⟨ra h,_,x,f,R'⟩
 induction e1:l[i]? with
 |none=>exact sa (.inl e1)
 |some y1=>
 induction e2:m[i]? with
 |none=>exact sa (.inr e2)
 |some y2=>
  refine ya (fun v1 ua wa=>?_)<|r1.Pn e1
  refine ya (fun v2 xa za=>?_)<|r2.Pn e2
  refine Expr.Tuple.elim target (Ub ht) ?_;intro es n pp;refine wpAny_pyNext_zip_item D kz W pa k1 k2 ea fa (x:=v1) (y:=v2) (yI ua) (yI xa) fun h' g1 g2 g3 g4 g5 g6 M=>?_;refine wpAny_letOwnedTupleGo_zip g1 fun h3 gz j=>?_
  (refine Pb (fun u1 w1 Ea Ha=>?_) g3;clear g3)
  (refine Pb (fun u2 w2 Ra Ta=>?_) g4;clear g4)
  have sz:∀c∈O,s.heap.objs.size≠c:=fun c t=>by refine Aa (fun o ho=>?_)<|hO c t;exact Nat.ne_of_gt (R.M.gc _ _ ho).2.1
  generalize K:Ga (Ga (Ga T TO (some (.Kb (Ki v1 v2)))) i1 (some (.Kb u1))) i2 (some (.Kb u2))=T';have L:∀{c},c≠TO->c≠i1->c≠i2->T' c=T c:=fun a b c=>by exact Cb K (aa (qa _ _ c) (aa (qa _ _ b) (aa (qa _ _ a) rfl)))
  have tz:=(L n2 n3 n4).trans X;have tI:=(L n5 n6 n7).trans N;have tO:T' TO=some (.Kb (Ki v1 v2)):=by exact Cb K (aa (qa _ _ n9) (aa (qa _ _ n8) (aa (da _ _ _) rfl)))
  have t1:T' i1=some (.Kb u1):=by exact Cb K (aa (qa _ _ qJ) (aa (da _ _ _) rfl))
  have t2:T' i2=some (.Kb u2):=by exact Cb K (aa (da _ _ _) rfl)
  have v:∀{c o},T' c=some (.Kb o)->h3.get? c=some o->∀y,T' c=some y->∃o,y=.Kb o∧h3.get? c=some o:=fun a b y hy=>⟨_,(Bb (a.symm.trans hy)).symm,b⟩
  refine Nb (fun R' f x=>?_)<|R.jo O hO s.toks (h':=h3) (fun b o hb ho=>j.extBut b o (u hb m0) (M b o (u hb m0) (u hb m2) (u hb m3) (u hb m4) ho)) T' (fun b hb=>L (u hb m2) (u hb m3) (u hb m4))
   (all (v tz gz) (v tI (j.extBut _ _ (Ne.symm n1) (M _ _ (Ne.symm n1) n5 n6 n7 W))) (v tO (j.extBut _ _ (Ne.symm n2) g2)) (v t1 (j.extBut _ _ (Ne.symm n3) w1)) (v t2 (j.extBut _ _ (Ne.symm n4) w2)))
  have Ua:T' s.heap.objs.size=none:=(L (sz _ m2) (sz _ m3) (sz _ m4)).trans (R.M.Ya (tf _));refine Qa (fun R2 w=>?_)<|R'.Uv s.heap.objs.size (.fz false [v1,v2]) R.hz Ua (Nat.ne_of_gt R.F.lt) ⟨0,j.extBut _ _ (sz z m0) g5⟩
  refine uH (.Ba [y1,y2]) (To (l.drop (i+1)) (m.drop (i+1))) _ (by refine aa (Bj e1) (aa (Bj e2) ?_);rfl) (x.trans w.o) (f.trans w.f) R2 ?_ ?_
  ·exact qf _ _ rfl (da ..) (.cons ((wa.ae f).za w) (.cons ((za.ae f).za w) .nil))
  ·rw[← g]at nd ⊢;exact .zp (p:=v1) (q:=v2) (i:=i+1) nd (w _ _ rfl tz) (w _ _ rfl tI) (w _ _ rfl tO) (w _ _ rfl t1) Ea Ha (w _ _ rfl t2) Ra Ta ((Y.za f).za w.f) ((ba.za f).za w.f)
theorem Fx(c:A.handled=none)(R:Ec G T d env cs I U s){it:Value}{w:Bool}{S:Mem->Prop}(h:S U)(a:qj T S O it w todo)(o:w=true->aq target=true){E:Value->Shared->Prop} : Nw G A d env cs I U S T target E s O it w todo:=by
 induction a with
 |list b e f g=>exact ky c R h b e f g
 |Ba b e f g r=>exact UB c R b e f g r
 |xD b=>exact tB c R b
 |iF i p b e f g=>exact cB c R h (o rfl) i p b e f g
 |zp nd q j l t u v x y z m n=>exact ID c R h (o rfl) nd q j l t u v x y z m n
theorem qj.za{S:Mem->Prop}{it:Value}{w:Bool}(x:Vd T T')(a:qj T S O it w todo):qj T' S O it w todo:=by
 induction a with
 |list b c e f=>exact .list (x _ _ rfl b) c e (f.za x.f)
 |Ba b c e f r=>exact .Ba (x _ _ rfl b) c e (x _ _ rfl f) (r.za x)
 |xD b=>exact .xD (x _ _ rfl b)
 |iF g m b c e f=>exact .iF g (x _ _ rfl m) (x _ _ rfl b) c e (f.za x.f)
 |zp nd n h i o p q s t u j l=>exact .zp nd (x _ _ rfl n) (x _ _ rfl h) (x _ _ rfl i) (x _ _ rfl o) p q (x _ _ rfl s) t u (j.za x.f) (l.za x.f)
noncomputable def As(G:Og)(d:List Str)(env:Env)(cs:List (Str×Addr))(I:zc)(T:Tm)(Q:Ln->Mem->Prop)(w:Bool)(it:Value)(s':Shared):Prop:=
 ∃c e U' a O,Vd T c∧Vd c e∧(∀b∈O,c b=none)∧Ec G e d env cs I U' s'∧qj e a.og O it w a.vc∧a.og U'∧Q a U'
theorem Cy{S:Mem->Prop}{it:Value}{w:Bool}(R:Ec G T d env cs I U s)(a:qj T S O it w todo){E:Value->Shared->Prop}{Q:Value->Shared->Prop}(q:Q it s):wpAny (model G.prog G.w) A (pyIter it) Q E s:=by
 induction a with
 |list b c e f=>exact wpAny_pyIter_listiter (cc _ ((R.M.gc _ _ b).2.2) c e) q
 |Ba b c e f r=>exact wpAny_pyIter_tupleiter (cc _ ((R.M.gc _ _ b).2.2) c e) q
 |xD b=>exact wpAny_pyIter_rangeiter (R.M.gc _ _ b).2.2 q
 |iF g h b c e f=>exact wpAny_pyIter_enum (R.M.gc _ _ h).2.2 q
 |zp nd i j l o p t u v x m n=>exact wpAny_pyIter_zip (R.M.gc _ _ i).2.2 q
noncomputable def rx:It->Bool
 | .fj _| .zip ..=>true
 |_=>false
theorem Xo(R:Ed G T U s){v:Value}(hv:VR T X v){Q:Ln->Prop}(h:kg U X Q):∃a l S,v=.ref a∧ij T S a l∧S U∧Q ⟨l,S⟩∧∃vs,s.heap.IsList a vs.toArray∧Se T l vs:=by
 rcases h with h|h
 ·refine ya (fun l e h=>?_) h;rw[e]at hv
  (refine Cd (fun a vs b f r=>?_) hv;clear hv)
  refine Aa (fun n c=>?_)<|(R.gc _ _ f).2.2
  exact(Qw a l _ b (.inl (pb vs f r)) trivial h (pb vs (Wb c) r))
 ·refine Cd (fun a l e g h=>?_) h;rw[e]at hv;refine Aa (fun j i=>?_)<|R.mem _ _ g
  refine pd (fun vs n c r=>?_)<|(R.gc _ _ i).2.2
  exact(Qw a l _ hv (.inr (fun U h=>h)) g h (pb vs (Wb c) r))
theorem Pr(n:Nat):Builtin.Range.rangeSize 0 n 1=n:=by refine aa (rangeSize_one _ _) ?_;split<;>lia
theorem Ec.qq(R:Ec G T d env cs I U s)(a:Addr){o:Obj}(c:G.wg.heap.objs.size≤a)(e:T a=none)(f:a≠env.locals)(g:s.heap.get? a=some o):∃T',Vd T T'∧T' a=some (.Kb o)∧(∀b,b≠a->T' b=T b)∧Ec G T' d env cs I U s:=by
 refine Qa (fun i j=>?_)<|R.Uv a (.Kb o) c e f g
 exact Kj _ j (da ..) (fun b h=>qa _ _ h) i
theorem Ec.zx(R:Ec G T d env cs I U s)(tk:Nat)(o:Obj)(a:o.isFreed=false):∃T',Vd T T'∧T' s.heap.objs.size=some (.Kb o)∧Ec G T' d env cs I U {s with heap:=s.heap.push o,toks:=tk}:=by
 refine Qa (fun b c=>?_)<|R.push tk o (.Kb o) (Heap.get?_push_size _ a) (fun x q=>by injection q)
 exact cc _ c (da ..) b
theorem gC(f:Vd T T')(c:Ec G T' d env cs I U s){Q:Ln->Mem->Prop}{S:Mem->Prop}{vs:List Value}(g:s.heap.IsList a vs.toArray)(h:ij T' S a l)(j:S U)(m:Q ⟨l,S⟩ U):wpAny (model G.prog G.w) A (pyIter (.ref a)) (As G d env cs I T Q false) (fun n n=>False) s:=by
 refine wpAny_pyIter_list g ?_;refine Pb (fun o e p q=>?_)<|c.zx s.toks {cls:=.type "list_iterator",data:=.fields #[.ref a,.int 0 0]} rfl
 exact wC T' o U ⟨l,S⟩ [s.heap.objs.size] f e (fun b hb=>Jd hb▸c.M.Ya (tf _)) q (.list (i:=0) p rfl rfl (h.za e.f)) j m
theorem mD(j:Vd T T')(c:Ec G T' d env cs I U s){Q:Ln->Mem->Prop}{v:Value}(hv:VR T' (.Ba l) v)(m:Q ⟨l,fun f=>True⟩ U):wpAny (model G.prog G.w) A (pyIter v) (As G d env cs I T Q false) (fun f f=>False) s:=by
 refine Cd (fun a vs e h r=>?_) hv;refine aa e ?_;refine Aa (fun n o=>?_)<|(c.M.gc _ _ h).2.2
 refine wpAny_pyIter_tuple (Mp o) ?_;refine Pb (fun p g q t=>?_)<|c.zx s.toks {cls:=.type "tuple_iterator",data:=.fields #[.ref a,.int 0 0]} rfl
 exact wC T' p U ⟨l,fun f=>True⟩ [s.heap.objs.size] j g (fun b hb=>Jd hb▸c.M.Ya (tf _)) t (.Ba (i:=0) q rfl rfl (g _ _ rfl h) (r.za g)) trivial m
theorem YD(h:Vd T T')(f:Ec G T' d env cs I U s){Q:Ln->Mem->Prop}{v:Value}(hv:VR T' X v)(b:Zj U X fun c=>Q c U):wpAny (model G.prog G.w) A (pyIter v) (As G d env cs I T Q false) (fun i i=>False) s:=by
 rcases b with b|b
 ·refine ya (fun l e b=>?_) b;rw[e]at hv;exact mD h f hv b
 ·refine Zq (fun a l' S e j m n g=>?_)<|Xo f.M hv (Q:=fun c=>Q c U) b
  refine ya (fun vs o r=>?_) g;refine aa e ?_;exact gC h f o j m n
theorem dA(u:Vd T T')(c:Ec G T' d env cs I U s){Q:Ln->Mem->Prop}{S:Mem->Prop}(v:ij T' S a l)(w:S U)(x:Q ⟨Aj 0 l,S⟩ U)(f:IsEnum h' (s.heap.objs.size+1) s.heap.objs.size 0 .none)(h:h'.IsListIter s.heap.objs.size a 0)(g:∀b o,s.heap.get? b=some o->h'.get? b=some o) : wpAny (model G.prog G.w) A (pyIter (.ref (s.heap.objs.size+1))) (As G d env cs I T Q true) (fun y y=>False) {s with heap:=h'}:=by
 have p:=c.M.Ya (tf s.heap.objs.size);have q:=c.M.Ya (Nat.le_succ s.heap.objs.size);refine Pb (fun o z j m=>?_) h;refine eh (fun L t B D F=>?_)<|(c.keep s.toks g).qq s.heap.objs.size c.hz p (Nat.ne_of_gt c.F.lt) z
 refine eh (fun T3 n H M K=>?_)<|F.qq (s.heap.objs.size+1) (o:=om s.heap.objs.size 0 .none) (Nat.le_succ_of_le c.hz) ((D _ ((Nat.ne_of_lt (Nat.lt_succ_self _)):s.heap.objs.size≠s.heap.objs.size+1).symm).trans q) (Nat.ne_of_gt (Nat.lt_succ_of_lt c.F.lt)) f
 refine wpAny_pyIter_enum f ?_;exact wC T' T3 U ⟨Aj 0 l,S⟩ [s.heap.objs.size+1,s.heap.objs.size] u (t.trans n) (fun b hb=>(pg hb).elim (fun e=>e▸q) fun hb=>Jd hb▸p) K (.iF (i:=0) ((Nat.ne_of_lt (Nat.lt_succ_self _)):s.heap.objs.size≠s.heap.objs.size+1).symm H (n _ _ rfl B) j m ((v.za t.f).za n.f)) w x
theorem cD(hT:Vd T T')(D:Ec G T' d env cs I U s){Q:Ln->Mem->Prop}{F H:Addr}{m:List V}{g n:Mem->Prop}(M:ij T' g F l)(N:g U)(O:ij T' n H m)(P:n U)(hQ:Q ⟨To l m,fun U=>g U∧n U⟩ U)(K:IsZip h' (s.heap.objs.size+4) (s.heap.objs.size+2) (s.heap.objs.size+3) .none)(p:IsPair h' (s.heap.objs.size+2) (.ref s.heap.objs.size) (.ref (s.heap.objs.size+1)))(t:IsPair h' (s.heap.objs.size+3) .none .none)(k1:h'.IsListIter s.heap.objs.size F 0)(k2:h'.IsListIter (s.heap.objs.size+1) H 0)(u:∀b o,s.heap.get? b=some o->h'.get? b=some o) : wpAny (model G.prog G.w) A (pyIter (.ref (s.heap.objs.size+4))) (As G d env cs I T Q true) (fun L L=>False) {s with heap:=h'}:=by
 have c:∀i,T' (s.heap.objs.size+i)=none:=fun i=>D.M.Ya (pn _ i);have f:∀{i j:Nat},i≠j->(s.heap.objs.size+i:Nat)≠s.heap.objs.size+j:=fun h q=>h (Nat.add_left_cancel q);have v:∀i:Nat,(s.heap.objs.size+i:Nat)≠env.locals:=fun i=>Nat.ne_of_gt (Nat.lt_add_right i D.F.lt);have a:∀i:Nat,(G.wg.heap.objs.size:Nat)≤s.heap.objs.size+i:=fun i=>Nat.le_add_right_of_le D.hz;refine Pb (fun o1 R c1 d1=>?_) k1;refine Pb (fun w W c2 d2=>?_) k2;refine wpAny_pyIter_zip K ?_;replace K:h'.get? (s.heap.objs.size+4)=some (bw (s.heap.objs.size+2) (s.heap.objs.size+3) .none):=K;replace p:h'.get? (s.heap.objs.size+2)=some (Ki (.ref s.heap.objs.size) (.ref (s.heap.objs.size+1))):=p;replace t:h'.get? (s.heap.objs.size+3)=some (Ki .none .none):=t;refine eh (fun T2 x2 g2 w R2=>?_)<|(D.keep s.toks u).qq (s.heap.objs.size+0) (a 0) (c 0) (v 0) R
 refine eh (fun T3 x3 g3 X R3=>?_)<|R2.qq (s.heap.objs.size+1) (a 1) ((w _ (f (by exact Mo rfl))).trans (c 1)) (v 1) W
 refine eh (fun T4 x4 g4 o4 R4=>?_)<|R3.qq (s.heap.objs.size+2) (a 2) ((X _ (f (by exact Mo rfl))).trans ((w _ (f (by exact Mo rfl))).trans (c 2))) (v 2) p
 refine eh (fun T5 x5 g5 o5 R5=>?_)<|R4.qq (s.heap.objs.size+3) (a 3) ((o4 _ (f (by exact Mo rfl))).trans ((X _ (f (by exact Mo rfl))).trans ((w _ (f (by exact Mo rfl))).trans (c 3)))) (v 3) t
 refine eh (fun x x6 g6 L R6=>?_)<|R5.qq (s.heap.objs.size+4) (a 4) ((o5 _ (f (by exact Mo rfl))).trans ((o4 _ (f (by exact Mo rfl))).trans ((X _ (f (by exact Mo rfl))).trans ((w _ (f (by exact Mo rfl))).trans (c 4))))) (v 4) K
 have y:=x5.trans x6;have z:=x4.trans y;have B:=x3.trans z;have Y:=x2.trans B;refine wC T' x U ⟨To l m,fun U=>g U∧n U⟩ [s.heap.objs.size+4,s.heap.objs.size+2,s.heap.objs.size+3,s.heap.objs.size+0,s.heap.objs.size+1] hT Y (fun b hb=>?_) R6 ?_ ⟨N,P⟩ hQ
 ·rcases pg hb with e|hb;exact e▸c 4;rcases pg hb with e|hb;exact e▸c 2;rcases pg hb with e|hb;exact e▸c 3;rcases pg hb with e|hb;exact e▸c 0;exact Jd hb▸c 1
 ·have s1:ij x g F l->ij x (fun U=>g U∧n U) F l:=fun h=>h.imp id fun h U hm=>h U hm.1;have s2:ij x n H m->ij x (fun U=>g U∧n U) H m:=fun h=>h.imp id fun h U hm=>h U hm.2;refine .zp (i:=0) ?_ g6 (y _ _ rfl g4) (x6 _ _ rfl g5) (B _ _ rfl g2) c1 d1 (z _ _ rfl g3) c2 d2 (s1 (M.za Y.f)) (s2 (O.za Y.f));exact(show([4,2,3,0,1].map (s.heap.objs.size+·)).Nodup from List.Pairwise.map _ (fun L L h q=>h (Nat.add_left_cancel q)) (by decide:([4,2,3,0,1]:List Nat).Nodup))
set_option tactic.hygienic true in
theorem ku(W:G.Ok){x:Expr}{Q:Ln->Mem->Prop}(B:∀e,it=.seq e∨it=.fj e∨it=.range e∨(∃b,it=.zip e b)∨(∃b,it=.zip b e)->fc G d e)(P:Eo d C it x t=true)(h:Xm G k it I U Q)(D:El k A)(q:Hd C env)(R:Ec G T d env cs I U s) : wpAny (model G.prog G.w) A (eval x env) (fun v F=>wpAny (model G.prog G.w) A (pyIter v) (As G d env cs I T Q (rx it)) (fun H H=>False) F) (fun H H=>False) s:=by
 cases it with
 |seq e=>exact Oa ((B e (.inl rfl) k C x I U P).1 _ h A T env cs s D q R) fun T' U' X v s' y w hv f=>YD y w hv f
 |fj e=>
  apply sg (Eb P).2;intro p a pos K L c;refine Call_name1 (Co c env) (eg W q R K L (by exact Ub rfl) (v:=.type "enumerate") (by kernel_rfl) (by exact Ub rfl) ?_);refine PySem.callWith_type1 (Oa ((B e (.inr (.inl rfl)) k C a I U c).1 _ h A T env cs s D q R) fun T' U' X u s' y w M f=>?_);refine Zq (fun a l S e hS hm hQ g=>?_)<|Xo w.M M f
  refine ya (fun vs hL r=>?_) g;refine aa e ?_;exact call_enumerate_list hL fun h' ba fa ha j=>dA y w hS hm hQ ba fa j
 |zip ea eb=>
  apply Wk (Eb P).2;intro p a b pos K L c;replace c:=Eb c;refine wpAny_Call_Name_kw (eg W q R K L (by exact Ub rfl) (v:=.type "zip") (by kernel_rfl) (by exact Ub rfl) ?_);refine PyProof.Rows.callWith_type1 ?_ (ue c.1 env) (by refine aa (Co c.2 _) ?_;rfl);refine wpAny_items_cons ?_ (ue c.1 env);refine Oa ((B ea (.inr (.inr (.inr (.inl ⟨_,rfl⟩)))) k C a I U c.1).1 _ h A T env cs s D q R) fun T' U' X u s' y w M f=>?_;refine wpAny_items_cons ?_ (ue c.2 env);refine Oa ((B eb (.inr (.inr (.inr (.inr ⟨_,rfl⟩)))) k C b I U' c.2).1 _ f A T' env cs s' D q w) fun Ta U'' Y v Ua N z ka la=>?_;refine wpAny_items_nil ?_;refine Zq (fun a1 l S1 e1 pa ra sa g=>?_)<|Xo z.M (M.za N) la
  refine ya (fun vs ua r1=>?_) g;refine Zq (fun a2 m S2 e2 wa xa za g=>?_)<|Xo z.M ka sa
  refine ya (fun ws Ea r2=>?_) g;refine aa e1 (aa e2 ?_);exact call_zip_2 ua Ea fun h' kz Ha Ra k1 k2 ha j=>cD (y.trans N) z pa ra wa xa za.2 kz Ha Ra k1 k2 j
 |range e=>
  apply sg P;intro p a pos K L c;refine Call_name1 (Co c env) (eg W q R K L (by exact Ub rfl) (v:=.type "range") (by kernel_rfl) (by exact Ub rfl) ?_);refine PySem.callWith_type1 (Oa ((B e (.inr (.inr (.inl rfl))) k C a I U c).1 _ h A T env cs s D q R) fun T' U' X u s' y w M f=>?_);split at f
  ·rename_i n
   (refine Qa (fun O f=>?_) f;refine Qa (fun q0 q1=>?_) O;clear O)
   (refine Aa (fun t o=>?_)<|vd M;rw[o]at *;clear o)
   (refine Aa (fun n o=>?_)<|Int.eq_ofNat_of_zero_le q0;subst o)
   refine call_range_1 ?_;refine Pb (fun T1 x1 H R1=>?_)<|w.zx (s'.toks+1+1) {cls:=.type "range",data:=.fields #[.int 0 s'.toks,.int n t,.int 1 (s'.toks+1)]} rfl
   refine wpAny_pyIter_range (IsRange.new s'.heap 0 n 1 s'.toks t (s'.toks+1)) (by unfold Builtin.Range.small Builtin.Range.rangeFitsLong;refine aa (Pr _) ?_;simp;lia) ?_;refine Pb (fun T2 x2 g2 R2=>?_)<|R1.zx (s'.toks+1+1) (jm 0 n 1) rfl
   refine aa (Pr _) ?_;exact(wC T1 T2 U' ⟨dj 0 n,fun H=>True⟩ [_] (y.trans x1) x2 (fun b hb=>by exact Jd hb▸(R1.M.Ya (tf _))) R2 (.xD (i:=0) g2) trivial f)
  ·exact f.elim
noncomputable def Sy(G:Og)(d:List Str)(ss:List S):Prop:=∀k C xs I U Kn Kr,wm d C ss xs=true->Ia G k ss I U Kn Kr->WS G k d C (execs xs) I U Kn Kr
theorem zj:∀{ss:List S},(∀s∈ss,zy G d s)->Sy G d ss:=by
 intro i;induction i with
 |nil=>
  intro H;exact fun k C xs I U Kn Kr g h A T env cs s l m R=>by
   induction xs with
   |nil=>rw[mJ]at h;exact wpAny_execs_nil (zi T I U (Vd.refl T) R h)
   |cons=>exact(Fc g).elim
 |cons S ss n=>
  intro H;exact fun k C xs I U Kn Kr g h A T env cs s l m R=>by
   induction xs with
   |nil=>exact(Fc g).elim
   |cons x xs=>
    replace g:=Eb g;refine wpAny_execs_cons (wpAny_mono (H S (.head _) k C x I U _ Kr g.1 h A T env cs s l m R) (fun f s' p=>?_) fun j j e=>e);induction f with
    |next=>
     (refine ve (fun T' I' U' a b c=>?_) p;clear p)
     exact wpAny_mono (n (fun s hs=>H s (.tail _ hs)) k C xs I' U' Kn Kr g.2 c A T' env cs s' l m b) (fun j j p=>p.ext a) fun j j e=>e
    |ret v=>exact p
    |brk=>exact p.elim
    |cont=>exact p.elim
theorem AI{c:E}{a b:List S}(o:fc G d c)(q:Sy G d a)(v:Sy G d b):zy G d (.Pc c a b):=fun k C x I U Kn Kr g h A T env cs s i j R=>by
 apply KC g;intro t y z pos g;refine jb g fun w g=>jb g fun B D=>?_
 ·rw[tL]at h;refine wpAny_If (Oa ((o k C t I U w).2 _ h A T env cs s i j R) fun T' U' X u s' l m F n=>?_);subst F;induction u
  ·exact wpAny_mono (v k C z I U' Kn Kr D (by exact n) A T' env cs s' i j m) (fun f f p=>p.ext l) fun f f e=>e
  ·exact wpAny_mono (q k C y I U' Kn Kr B (by exact n) A T' env cs s' i j m) (fun f f p=>p.ext l) fun f f e=>e
theorem qH(c:Sy G d body):zy G d (.Hw body):=fun k C x I U Kn Kr a h A T env cs s i j R=>by
 apply cz a;intro b hs o g pos a;apply kj a;intro a;apply kj a;intro a
 ·induction hs with
  |nil=>exact(Fc a).elim
  |cons m hs=>
  refine wpAny_Try_except (wpAny_mono (c k C b I U Kn Kr a h A T env cs s i j R) (fun f s' p=>?_) fun l l e=>e.elim);induction f with
  |next=>exact wpAny_execs_nil p
  |ret v=>exact p
  |brk=>exact p.elim
  |cont=>exact p.elim
theorem TB{c:E}(N:fc G d c)(O:Sy G d body):zy G d (.bh c body):=fun k C x I U Kn Kr j h A T env cs s F H R=>by
 apply iv j;intro t b o pos j;apply kj j;intro j
 ·replace j:=Eb j
  (refine pd (fun g n P Q=>?_) h;clear h)
  refine wpAny_While (codeAny_whileLoop (fun n s'=>∃T' I' U',Vd T T'∧Ec G T' d env cs I' U' s'∧g n I' U') (fun n s' L=>?_) n (zi T I U (Vd.refl T) R P))
  (refine ve (fun T' I' U' M W Y=>?_) L;clear L)
  refine wpAny_mono (Oa (E:=fun i i=>False) ((N k C t I' U' j.1).2 _ (Q n I' U' Y) A T' env cs s' F H W) (K:=fun r B=>if r=true then wpAny (model G.prog G.w) A (execs b env) (nk G T d env cs (fun I U=>∃m,m<n∧g m I U) Kr) (fun i i=>False) B else wpAny (model G.prog G.w) A (execs [] env) (nk G T d env cs Kn Kr) (fun i i=>False) B) fun l U'' X u D q w hu z=>?_) (fun r B p=>?_) fun i i e=>e.elim
  ·subst hu;induction u
   ·simp only[Bool.false_eq_true,if_false]at z ⊢;exact wpAny_execs_nil (zi l I' U'' (M.trans q) w z)
   ·simp only[if_true]at z ⊢;exact wpAny_mono (O k C b I' U'' _ Kr j.2 z A l env cs D F H w) (fun i i p=>p.ext (M.trans q)) fun i i e=>e
  ·induction r
   ·simp only[Bool.false_eq_true,if_false]at p ⊢;exact wpAny_mono p (fun i i p=>p) fun i i e=>e.elim
   ·simp only[if_true]at p ⊢;refine wpAny_mono p (fun f s3 p=>?_) fun i i e=>e.elim;induction f with
    |next=>(refine ve (fun T3 l3 m3 a b y=>?_) p;clear p;refine ya (fun m hm c=>?_) y;clear y);exact(pb m hm (zi T3 l3 m3 a b c))
    |ret v=>exact p
    |brk=>exact p.elim
    |cont=>exact p.elim
theorem zk{a:Expr}(h:yr a=false)(x:Value):foldedSetIterable a env x=pure x:=by cases a<;>first|rfl|injection h
theorem Wu{S:Mem->Prop}{step:V->zc->Mem->(zc->Mem->Prop)->Prop}{K:zc->Mem->Prop}(h:aj S step K todo I U):S U:=by induction todo<;>(exact And.left h)
theorem BB{C':Scope}{x:Expr}(g:Eo d C it x t=true)(c:ak d C' t tg=true):rx it=true->aq tg=true:=by
 intro h;have tp:∀ts,t=.tp ts->aq tg=true:=by
  (intro ts f;subst f)
  revert c;intro c;apply Zl c;intro _ _ _ _;rfl
 cases it with
 |seq=>exact(Fc h).elim
 |range=>exact(Fc h).elim
 |fj e=>
  cases t with
  |tp ts=>exact tp _ rfl
  |nm=>exact(Fc g).elim
 |zip a b=>
  cases t with
  |tp ts=>exact tp _ rfl
  |nm=>exact(Fc g).elim
noncomputable def FI(G:Og)(e:Tm)(d:List Str)(env:Env)(cs:List (Str×Addr))(S:Mem->Prop)(O:List Addr)(a:Value)(b:Bool)(step:V->zc->Mem->(zc->Mem->Prop)->Prop)(Kn:zc->Mem->Prop)(n:Nat)(s':Shared):Prop:=
 ∃c I' U' todo,n=todo.length∧Vd e c∧Ec G c d env cs I' U' s'∧qj c S O a b todo∧aj S step Kn todo I' U'
theorem KG(hG:G.Ok)(H1:∀e,it=.seq e∨it=.fj e∨it=.range e∨(∃b,it=.zip e b)∨(∃b,it=.zip b e)->fc G d e)(Hb:Sy G d body):zy G d (.Ad t it body):=fun k C x I U Kn Kr c h A T env cs s l q R=>by
 apply Iz c;intro tg Q b o pos c;apply kj c;intro c;refine jb c fun W c=>jb c fun Y c=>jb c fun h3 h4=>?_
 ·rw[Bool.not_eq_true']at Y;refine wpAny_For ?_ (zk Y);refine wpAny_mono (ku hG H1 W h l q R) (fun v s1 p1=>wpAny_mono p1 (fun u s2 p2=>?_) fun a a e=>e.elim) fun a a e=>e.elim
  (refine vI (fun T1 T2 U2 g O x1 x2 w R2 I2 hS hq=>?_) p2;clear p2)
  have y:=BB W h3;refine codeAny_forLoop_any (FI G T1 d env cs g.og O u (rx it) (fun x I U K=>Oh t x U I fun I=>Ia G k body I U K Kr) Kn) (fun n s' hn=>?_) g.vc.length (xF T2 I U2 g.vc rfl x2 R2 I2 hq)
  (refine XE (fun Tn I' U' todo z i Rn In B=>?_) hn;clear hn;rw[z])
  refine wpAny_mono (Fx l.1 Rn (Wu B) In (target:=tg) y (E:=fun a a=>False)) (fun r s3 p=>?_) fun a a e=>e.elim;induction r with
  |none=>
   (change let R:Prop:=_;R;intro R);(refine Qa (fun D j=>?_) p;clear p;subst D;refine Pb (fun T3 o3 f3 R3=>?_) j;clear j)
   refine wpAny_execs_nil ?_;exact(zi T3 I' U' (x1.trans (i.then o3 w)) R3 B.2)
  |some v=>
   refine wpAny_mono p (fun a s4 p=>?_) fun a a e=>e.elim
   (refine gJ (fun X xs T4 F o4 f4 R4 hv I4=>?_) p;clear p;subst F)
   refine wpAny_mono (Zh q l t tg X v T4 I' s4 _ h3 R4 hv B.2) (fun a s5 p=>?_) fun a a e=>e.elim
   (refine Cd (fun T5 I5 H R5 h5=>?_) p;clear p)
   refine wpAny_mono (Hb k C b I5 U' _ Kr h4 h5 A T5 env cs s5 l q R5) (fun f s6 p=>?_) fun a a e=>e.elim;induction f with
   |next=>
    (refine ve (fun L I6 U6 m M N=>?_) p;clear p)
    exact(pb xs.length (by simp) (xF L I6 U6 xs rfl (((i.then o4 w).trans H).trans m) M ((I4.za H).za m) N))
   |ret v=>
    (refine Df (fun L U6 X6 m M P N=>?_) p;clear p)
    exact(Jj L U6 X6 (((x1.trans (i.then o4 w)).trans H).trans m) M P N)
   |brk=>exact p.elim
   |cont=>exact p.elim
noncomputable def De(I:zc)(ps:List (Nat×V)):zc:=ps.foldl (fun l p=>Ca l p.1 p.2) I
theorem kr(I:zc)(ps a:List (Nat×V)):De I (ps++a)=De (De I ps) a:=by simp[De]
theorem Cv:∀(ps:List (Nat×V))(I I0:zc)(i:Nat),(i∈ps.map (·.1)∨Ke I i=Ke I0 i)->Ke (De I ps) i=Ke (De I0 ps) i:=by
 intro a;induction a with
 |nil=>intro I I0 i h;simpa[De]using h
 |cons p ps b=>
  intro I I0 i h;refine(?_:Ke (De (Ca I p.1 p.2) ps) i=Ke (De (Ca I0 p.1 p.2) ps) i);refine b _ _ i ?_;rewrite[Qf,Qf];by_cases q:i=p.1
  ·right;simp[q]
  ·simp only[q,if_false];rcases h with h|h
   ·rcases pg h with h|h
    ·exact absurd h q
    ·exact .inl h
   ·exact .inr h
theorem Cg:∀(ps:List (Nat×V))(I:zc)(i:Nat),i∉ps.map (·.1)->Ke (De I ps) i=Ke I i:=by
 intro a;induction a with
 |nil=>intro I i h;exact rfl
 |cons p ps b=>
  intro I i h;refine(?_:Ke (De (Ca I p.1 p.2) ps) i=_);simp only[List.map_cons,List.mem_cons,not_or]at h
  (refine aa (b _ i h.2) ?_;rewrite[Qf];exact aa (if_neg h.1) rfl)
set_option tactic.hygienic true
mutual
theorem qw:∀(t:Tg)(x:V)(I:zc)(K:zc->Prop),Oh t x U I K->∃ps,ps.map (·.1)=zv t∧K (De I ps)∧∀I0(e:zc->Prop),e (De I0 ps)->Oh t x U I0 e
 | .nm i,x,I,K,h=>(cc [(i,x)] rfl h (fun I0 e f=>by refine aa cK ?_;exact f))
 | .tp ts,x,I,K,h=>by
  rw[zJ]at h;split at h
  ·rename_i l g;refine Pb (fun ps a b c=>?_)<|sx ts l I K h.2
   exact(cc ps (by exact a) b (fun I0 e f=>by refine aa zJ (aa g ?_);exact⟨h.1,c I0 e f⟩))
  ·exact h.elim
theorem sx:∀(ts:List Tg)(l:List V)(I:zc)(K:zc->Prop),pq ts l U I K->∃ps,ps.map (·.1)=Yw ts∧K (De I ps)∧∀I0(e:zc->Prop),e (De I0 ps)->pq ts l U I0 e
 | [],[],I,K,h=>(cc [] rfl h (fun I0 e f=>by refine aa AK ?_;exact f))
 |t::ts,x::xs,I,K,h=>by
  rw[FE]at h;refine Pb (fun ps a b c=>?_)<|qw t x I _ h
  refine Pb (fun g i j m=>?_)<|sx ts xs _ K b
  exact(cc (ps++g) (by(refine aa List.map_append (aa a (aa i ?_));rewrite[Yw];rfl)) (by refine aa (kr _ _ _) ?_;exact j) (fun I0 e f=>by
   refine aa FE ?_;rw[kr]at f;exact c I0 _ (m _ e f)))
 | [],_::_,_,_,h=>False.elim h
 |_::_,[],_,_,h=>False.elim h
end
set_option tactic.hygienic false
theorem GA{is:List Nat}:∀(c:List Str)(i:Nat),bH d scope is i c=true->∀j n,c[j]?=some n->scope.names.lookup n=some .local->i+j∈is:=by
 intro b;induction b with
 |nil=>intro i a j n h e;simp at h
 |cons m c f=>
  intro i a j n h e;rcases j with _|j
  ·simp at h;subst h;replace a:=Eb a;rw[Bool.or_eq_true,Bool.not_eq_true']at a;rcases a.1 with h|h
   ·unfold kf at h;rw[e]at h;simp at h
   ·simpa using h
  ·replace a:=Eb a;have:=f (i+1) a.2 j n (by simpa using h) e
   rwa [show i+(j+1)=i+1+j by exact(Nat.succ_add _ _).symm]
section
variable{prog:Program}{w:World}{R:Result->Shared->Prop}
theorem ik{elt i:Expr}{t:List Expr}{it acc:Value}(a:Nat->Shared->Prop)
 (y:∀n s,a n s->wpAny (model prog w) A (pyNext it) (fun r e=>match r with
  |none=>R (.ok .next) e
  |some v=>wpAny (model prog w) A (letOwnedTupleGo target it v) (fun b f=>wpAny (model prog w) A (assign target env v) (fun b j=>
   wpAny (model prog w) A (forIn t true fun c r=>if r=true then do let z ← isTrue c env (eval c env);pure (ForInStep.yield z)else pure (ForInStep.yield r)) (fun z g=>
    if z=true then wpAny (model prog w) A (eval elt env) (fun x l=>
     wpAny (model prog w) A (call (.builtin "list.append") [acc,x]) (fun b o=>∃m,m<n∧a m o) (fun b b=>False) l) (fun b b=>False) g
    else ∃m,m<n∧a m g) (fun b b=>False) j) (fun b b=>False) f) (fun b b=>False) e) (fun b b=>False) s)
 (n:Nat) (h:a n s) :
 codeAny (model prog w) A (.compLoop (.ListComp elt [⟨target,i,t,0⟩] scope pos) 0 it acc env) R s:=by
 refine codeAny_loop rfl a (fun n s G=>?_) n h;refine(?_:wpAny _ A ((compTurn (.ListComp elt [⟨target,i,t,0⟩] scope pos) 0 it acc env).onRaise (fun x=>do noteFrame x env;theTreesLotGoes x)) _ _ s);refine wpAny_noted ?_;rewrite[compTurn_list];refine wpAny_bind (wpAny_standAt (wpAny_bind (wpAny_mono (y n s G) (fun r e p=>?_) fun b b h'=>h'.elim)));induction r with
 |none=>exact wpAny_pure p
 |some v=>
  refine wpAny_bind (wpAny_mono p (fun b f u=>?_) fun b b h'=>h'.elim);refine wpAny_bind (wpAny_mono u (fun b j B=>wpAny_bind (wpAny_mono B (fun z g q=>?_) fun b b h'=>h'.elim)) fun b b h'=>h'.elim);induction z with
  |false=>exact wpAny_pure ⟨rfl,q⟩
  |true=>exact wpAny_bind (wpAny_bind (wpAny_mono q (fun x l D=>wpAny_bind (wpAny_mono D (fun b o F=>wpAny_pure (wpAny_pure ⟨rfl,F⟩)) fun b b h'=>h'.elim)) fun b b h'=>h'.elim))
end
theorem pw(env:Env):∀(names:List (Str×NameKind))(acc:List (Str×Addr)),(∀x∈names,x.2=.free->∃c,env.cells.lookup x.1=some c)->
 ∃b,(forIn names acc (fun x r=>match x with|(name,a)=>if(a==NameKind.free)=true then do let c ← cellOf env name;pure (ForInStep.yield ((name,c)::r))else pure (ForInStep.yield r)):Sem (List (Str×Addr)))=pure b∧
  (∀n c,b.lookup n=some c->acc.lookup n=some c∨env.cells.lookup n=some c)∧(∀n,(∃c,acc.lookup n=some c)∨(n,NameKind.free)∈names->∃c,b.lookup n=some c):=by
 intro f;induction f with
 |nil=>intro acc H;exact(cc acc (by exact aa List.forIn_nil rfl) (fun n c h=>.inl h) (fun n h=>by simpa using h))
 |cons g names p=>
  intro acc H;obtain⟨name,a⟩:=g;by_cases i:a=.free
  ·subst i;refine Aa (fun c s=>?_)<|H _ (.head _) rfl
   refine Pb (fun b e j l=>?_)<|p ((name,c)::acc) fun x m=>H x (.tail _ m)
   refine(cc b ?_ (fun n o h=>?_) (fun n h=>?_))
   ·rewrite[List.forIn_cons];have:cellOf env name=pure c:=by unfold cellOf;exact aa s rfl
    simp only[beq_self_eq_true,if_true,this,pure_bind];exact e
   ·rcases j n o h with h|h
    ·rw[List.lookup_cons]at h;by_cases q:n==name
     ·rw[q]at h;refine Cb (Bb h) ?_;refine aa (eq_of_beq q) ?_;exact .inr s
     ·rw[show(n==name)=false by simpa using q]at h;exact .inl h
    ·exact .inr h
   ·refine l n ?_;by_cases q:n==name
    ·left;exact⟨c,by exact aa List.lookup_cons (aa q rfl)⟩
    ·rcases h with⟨o,h⟩|h
     ·left;exact⟨o,by refine aa List.lookup_cons (aa (show(n==name)=false by simpa using q) ?_);exact h⟩
     ·right;rcases pg h with h|h
      ·cases h;simp at q
      ·exact h
  ·refine Pb (fun b e j l=>?_)<|p acc fun x m=>H x (.tail _ m)
   refine(cc b ?_ j (fun n h=>l n ?_))
   ·rewrite[List.forIn_cons];have:(a==NameKind.free)=false:=by simpa using i
    simp only[this,Bool.false_eq_true,if_false,pure_bind];exact e
   ·rcases h with h|h
    ·exact .inl h
    ·right;rcases pg h with h|h
     ·cases h;exact absurd rfl i
     ·exact h
theorem Du(H:∀x∈scope.names,x.2=.free->∃c,env.cells.lookup x.1=some c) : ∃a,closureFor scope env=pure a∧(∀n c,a.lookup n=some c->env.cells.lookup n=some c)∧(∀n,(n,NameKind.free)∈scope.names->∃c,a.lookup n=some c):=by
 refine Pb (fun a e b f=>?_)<|pw env scope.names [] H
 refine(cc a ?_ (fun n c h=>(b n c h).resolve_left (by exact Ub rfl)) (fun n h=>f n (.inr h)));simp only[closureFor];first|exact e|(refine Cb e ?_;rfl)|(rfl;rfl)|(rw[e];rfl)
noncomputable def Ru(T:Tm):Tm:=fun b=>match T b with
 |some e=>if e.Vp=true then some e else none
 |none=>none
theorem IA:Vd T (Ru T):=fun b e hs hb=>by simp[Ru,hb,hs]
set_option tactic.hygienic true in
theorem ZD(x:Vd T T'):Vd (Ru T) T':=fun b e hs hb=>by
 unfold Ru at hb;split at hb
 ·rename_i c a;split at hb
  ·(replace hb:=Bb hb;cases hb);exact x b e hs a
  ·injection hb
 ·injection hb
set_option tactic.hygienic true in
theorem sr{b:Addr}(x:Vd T T')(h:T' b=none):Ru T b=none:=by
 unfold Ru;split
 ·rename_i e a;by_cases hs:e.Vp=true
  ·have:=x b e hs a;rw[h]at this;injection this
  ·exact aa (if_neg hs) rfl
 ·rfl
noncomputable def Ww(p:Nat->Bool)(I:zc):zc:=fun i=>if p i=true then I i else none
theorem qv(p:Nat->Bool)(I:zc)(i:Nat):Ke (Ww p I) i=if p i=true then Ke I i else none:=rfl
theorem Fo(scope C:Scope):∀(names:List (Str×NameKind))(n:Str),(names.map fun(n,k)=>if(k==.free&&C.kind==.function&&C.names.lookup n==some .cell)then(n,NameKind.cell)else(n,k)).lookup n = (names.lookup n).map fun k=>if(k==.free&&C.kind==.function&&C.names.lookup n==some .cell)then .cell else k:=by
 intro a;induction a with
 |nil=>intro n;exact rfl
 |cons b r e=>
  intro n;obtain⟨m,k⟩:=b;refine aa List.map_cons ?_;by_cases q:n==m
  ·have:=eq_of_beq q;refine Cb this ?_;induction c:(k==.free&&C.kind==.function&&C.names.lookup n==some .cell)<;>simp only[c,List.lookup_cons,beq_self_eq_true,Option.map_some,if_true,if_false,Bool.false_eq_true]
  ·have f:(n==m)=false:=by exact(Bool.not_eq_true _).mp q
   induction c:(k==.free&&C.kind==.function&&C.names.lookup m==some .cell)<;>simp only[c,List.lookup_cons,f,if_true,if_false,Bool.false_eq_true]<;>exact(e n)
theorem Hf{f:Type}:∀{l:List (Str×f)}{n:Str}{b:f},l.lookup n=some b->(n,b)∈l:=by
 intro a;induction a with
 |nil=>intro n b h;injection h
 |cons e r g=>
  intro n b h;obtain⟨m,c⟩:=e;rw[List.lookup_cons]at h;by_cases q:n==m
  ·rw[q]at h;(replace h:=Bb h;induction h);refine aa (eq_of_beq q) ?_;exact .head _
  ·rw[show(n==m)=false by simpa using q]at h;exact .tail _ (g h)
structure vg(d:List Str)(t:Tg)(scope C:Scope):Prop where
 kind:scope.kind=.function
 dH:C.names.lookup (".0" : Str)=none
 EL:scope.names.lookup (".0" : Str)=some .local
 tg:∀j n,d[j]?=some n->scope.names.lookup n=some .local->j∈zv t
 gt:∀j∈zv t,∃n,d[j]?=some n∧scope.names.lookup n=some .local
 AB:∀x∈scope.names,x.2≠.cell
 I:∀x∈scope.names,x.2=.local->scope.names.lookup x.1=some .local∧C.names.lookup x.1≠some .cell
 free:∀x∈scope.names,x.2=.free->C.names.lookup x.1=some .cell
set_option tactic.hygienic true in
theorem Yg(h:Ys d t scope C=true):vg d t scope C:=by
 unfold Ys at h;simp only[Bool.and_eq_true,decide_eq_true_eq,List.all_eq_true]at h
 (refine Qa (fun e g=>?_) h;clear h;refine Qa (fun c o=>?_) e;clear e;refine Qa (fun b p=>?_) c;clear c;refine Qa (fun a s=>?_) b;clear b;refine Qa (fun u v=>?_) a;clear a)
 refine⟨u,v,gd s,fun j n i l=>?_,fun j i=>?_,fun x f q=>?_,fun x f q=>?_,fun x f q=>?_⟩
 ·have:=GA d 0 p j n i l;simpa using this
 ·have:=o j i;split at this
  ·rename_i n l;exact(pb n l (gd this))
  ·injection this
 ·have:=g x f;obtain⟨n,m⟩:=x;simp only at q this;rw[q]at *;clear q;simp at this
 ·have:=g x f;obtain⟨n,m⟩:=x;simp only at q this;rw[q]at *;clear q;replace this:=Eb this;refine⟨gd this.1,fun z=>?_⟩;have w:=this.2;unfold kf at w;rw[z]at w;simp at w
 ·have:=g x f;obtain⟨n,m⟩:=x;simp only at q this;rw[q]at *;clear q;exact gd this
theorem Ec.ZF{I2:zc}(R:Ec G T d env cs I U s)(h:∀i x n,Ke I2 i=some x->d[i]?=some n->((cs.lookup n=none∧env.scope.names.lookup n=some .local)∨∃c,cs.lookup n=some c)->Ke I i=some x):Ec G T d env cs I2 U s:=by obtain⟨M,F⟩:=R;refine⟨M,⟨?_,fun i x n c a b e=>F.cell i x n c (h i x n a b (.inr ⟨c,e⟩)) b e,F.lo,F.af,F.sub,F.has,F.I,F.cells,F.inj,F.nd,F.tp⟩⟩;refine ya (fun m f g=>?_) F.ns;exact(pb m f (fun i x n a b c e=>g i x n (h i x n a b (.inl ⟨c,e⟩)) b c e))
structure yG(d:List Str)(cs:List (Str×Addr))(I I0:zc):Prop where
 sub:∀i x,Ke I0 i=some x->Ke I i=some x
 all:∀i x n c,Ke I i=some x->d[i]?=some n->cs.lookup n=some c->Ke I0 i=some x
 rv:∀i x,Ke I0 i=some x->∃n c,d[i]?=some n∧cs.lookup n=some c
noncomputable def Ul(d:List Str)(cs:List (Str×Addr))(i:Nat):Bool:=match d[i]? with|some n=>(cs.lookup n).isSome|none=>false
noncomputable def jk(d:List Str)(cs:List (Str×Addr))(I:zc):zc:=Ww (Ul d cs) I
theorem dp(d:List Str)(cs:List (Str×Addr))(I:zc):yG d cs I (jk d cs I):=by
 have key:=fun i=>qv (Ul d cs) I i;refine⟨fun i x h=>?_,fun i x n c a b f=>?_,fun i x h=>?_⟩
 ·unfold jk at h;rw[key]at h;by_cases q:Ul d cs i=true
  ·rw[if_pos q]at h;exact h
  ·rw[if_neg q]at h;injection h
 ·have q:Ul d cs i=true:=by unfold Ul;refine aa b ?_;simp[f]
  unfold jk;refine aa (key _) (aa (if_pos q) ?_);exact a
 ·unfold jk at h;rw[key]at h;by_cases q:Ul d cs i=true
  ·unfold Ul at q;induction e:d[i]? with
   |none=>rw[e]at q;injection q
   |some n=>
    rw[e]at q;refine Aa (fun c g=>?_)<|Option.isSome_iff_exists.mp q
    exact(ej n c rfl g)
  ·rw[if_neg q]at h;injection h
noncomputable def yk(G:Og)(k:Nat)(d:List Str)(g:Scope)(I:zc)(tg:Expr)(h:List Expr)(elt:Expr)(step:V->Mem->(Option V->Mem->Prop)->Prop):Prop:=
 ∀A T env cs I0 U s X v(K:Option V->Mem->Prop),El k A->Hd g env->Ec G T d env cs I0 U s->yG d cs I I0->VR T X v->step X U K->
  wpAny (model G.prog G.w) A (assign tg env v) (fun b e=>wpAny (model G.prog G.w) A (forIn h true fun c r=>if r=true then do let i ← isTrue c env (eval c env);pure (ForInStep.yield i)else pure (ForInStep.yield r)) (fun i a=>
   if i=true then wpAny (model G.prog G.w) A (eval elt env) (fun y f=>∃T' U' Y,Vd T T'∧Ec G T' d env cs I0 U' f∧VR T' Y y∧K (some Y) U') (fun b b=>False) a
   else ∃T' U',Vd T T'∧Ec G T' d env cs I0 U' a∧K none U') (fun b b=>False) e) (fun b b=>False) s
theorem Dm{n:Str}:(Qh scope C).names.lookup n=some .local↔scope.names.lookup n=some .local:=by
 refine aa (Fo scope C _ _) ?_;induction h:scope.names.lookup n with
 |none=>rfl
 |some a=>induction a<;>simp;split<;>simp
theorem Ko(j:vg d t scope C)(l:Hd (Qh scope C) env){I0:zc}{ps:List (Nat×V)}(o:ps.map (·.1)=zv t)(se:yG d cs I I0)(R:Ec G T d env cs (De I0 ps) U s) : Ec G T d env cs (De I ps) U s∧∀{T':Tm}{U':Mem}{s':Shared},Ec G T' d env cs (De I ps) U' s'->Ec G T' d env cs I0 U' s':=by
 refine⟨R.ZF fun i x n g h b=>?_,fun{T' U' s'} p=>p.ZF fun i x n g h A=>?_⟩
 ·refine Cb g ?_;refine(Cv ps I0 I i ?_);rcases b with⟨_,b⟩|⟨c,b⟩
  ·left;refine aa o ?_;exact j.tg i n h (Dm.mp (by refine Cb l.scope ?_;exact b))
  ·right;induction e:Ke I i with
   |some y=>exact se.all i y n c e h b
   |none=>
    induction u:Ke I0 i with
    |none=>rfl
    |some y=>have:=se.sub i y u;rw[e]at this;injection this
 ·refine pd (fun m c v w=>?_)<|se.rv i x g
  have f:i∉ps.map (·.1):=fun q=>by
   rw[o]at q;refine ya (fun B a z=>?_)<|j.gt i q
   rw[v]at a;(replace a:=Bb a;induction a);have:=p.F.I m (by refine aa l.scope ?_;exact Dm.mpr z);rw[w]at this;injection this
  refine aa (Cg ps I i f) ?_;exact se.sub i x g
theorem Up{y:Expr}(i:vg d t scope C)(j:ak d (Qh scope C) t tg=true)(m:fc G d elt)(n:Va d (Qh scope C) elt y=true) : yk G k d (Qh scope C) I tg [] y (fun x U K=>Oh t x U I fun I=>wb G k false elt I U fun v U=>K (some v) U):=by
 intro A T env cs I0 U s X v K g b R se hv h;refine Pb (fun ps o q u=>?_)<|qw t X I _ h;refine wpAny_mono (Zh b g t tg X v T I0 s (fun l=>l=De I0 ps) j R hv (u I0 _ rfl)) (fun c z p=>?_) fun c c e=>e.elim
 (refine Cd (fun B c D F f=>?_) p;clear p;subst f)
 refine Qa (fun H a=>?_)<|Ko i b o se F
 refine wpAny_tests_nil ?_;refine Oa ((m k (Qh scope C) y _ U n).1 _ q A B env cs z g b H) fun T' U' Y w s' L M N O=>?_;exact(Jj T' U' Y (D.trans L) (a M) N O)
theorem tx{c:E}{f y:Expr}(z:vg d t scope C)(D:ak d (Qh scope C) t tg=true)(F:fc G d c)(H:Va d (Qh scope C) c f=true)(L:fc G d elt)(M:Va d (Qh scope C) elt y=true) : yk G k d (Qh scope C) I tg [f] y (fun x U K=>Oh t x U I fun I=>wb G k true c I U fun v U=>yg U v fun b=>if b=true then wb G k false elt I U fun v U=>K (some v) U else K none U):=by
 intro A T env cs I0 U s X v K m i R se hv h;refine Pb (fun ps N O P=>?_)<|qw t X I _ h;refine wpAny_mono (Zh i m t tg X v T I0 s (fun l=>l=De I0 ps) D R hv (P I0 _ rfl)) (fun n Q p=>?_) fun n n e=>e.elim
 (refine Cd (fun W n q R2 o=>?_) p;clear p;subst o)
 refine Qa (fun R3 a=>?_)<|Ko z i N se R2
 refine wpAny_tests_one ?_;refine Oa ((F k (Qh scope C) f _ U H).2 (fun b U=>if b=true then wb G k false elt (De I ps) U fun v U=>K (some v) U else K none U) O A W env cs Q m i R3) fun T3 U3 B b s3 g u hb j=>?_;subst hb;induction b with
 |false=>exact(qf T3 U3 (q.trans g) (a u) j)
 |true=>refine Oa ((L k (Qh scope C) y _ U3 M).1 _ j A T3 env cs s3 m i u) fun T' U' Y w s' hT R' hw j=>?_;exact(Jj T' U' Y ((q.trans g).trans hT) (a R') hw j)
theorem qj.rv{S:Mem->Prop}{it:Value}{w:Bool}(a:qj T S O it w todo):∀b∈O,∃o,T b=some (.Kb o):=by
 intro b hb;induction a with
 |list c=>refine aa (Jd hb) ?_;exact⟨_,c⟩
 |Ba c=>refine aa (Jd hb) ?_;exact⟨_,c⟩
 |xD c=>refine aa (Jd hb) ?_;exact⟨_,c⟩
 | @iF e a _ _ _ _ _ _ h c=>
  rcases(show b=e∨b=a by simpa using hb)with rfl|rfl
  ·exact⟨_,h⟩
  ·exact⟨_,c⟩
 | @zp z TI TO i1 i2 _ _ _ _ _ _ _ _ _ _ i f g j _ _ l=>
  rcases(show b=z∨b=TI∨b=TO∨b=i1∨b=i2 by simpa using hb)with rfl|rfl|rfl|rfl|rfl
  ·exact⟨_,i⟩
  ·exact⟨_,f⟩
  ·exact⟨_,g⟩
  ·exact⟨_,j⟩
  ·exact⟨_,l⟩
theorem qj.KI{S:Mem->Prop}{it:Value}{w:Bool}(x:∀b o,b∈O->T b=some (.Kb o)->T' b=some (.Kb o))(f:jl T T')(a:qj T S O it w todo):qj T' S O it w todo:=by
 induction a with
 |list c e g h=>exact .list (x _ _ (by exact .head _) c) e g (h.za f)
 |Ba c e g h r=>exact .Ba (x _ _ (by exact .head _) c) e g (f _ _ rfl h) (r.ae f)
 |xD c=>exact .xD (x _ _ (by exact .head _) c)
 |iF i p c e g h=>exact .iF i (x _ _ (by exact .head _) p) (x _ _ (by exact .tail _ (.head _)) c) e g (h.za f)
 |zp nd q j l s t u v y z m n=>exact .zp nd (x _ _ (by exact .head _) q) (x _ _ (by exact .tail _ (.head _)) j) (x _ _ (by simp) l) (x _ _ (by simp) s) t u (x _ _ (by simp) v) y z (m.za f) (n.za f)
noncomputable def Kc(vs:List Value)(n:Nat):Obj:={cls:=.type "list",data:=.seq vs.toArray n}
noncomputable def qt(G:Og)(T:Tm)(d:List Str)(env:Env)(cs:List (Str×Addr))(I:zc)(Fin:List V->Mem->Prop)(acc:Value)(a:Addr)(s':Shared):Prop:=
 ∃b T' U' D l vs n c,acc=.ref D∧Vd T b∧Vd b T'∧b D=none∧b a=none∧D≠a∧Ec G T' d env cs I U' s'∧T' D=some (.Kb (Kc vs n))∧T' a=some (.Kb c)∧Se T' l vs∧Fin l U'∧∃m,s'.heap.Ns a m
noncomputable def CI(G:Og)(D:Addr)(O:List Addr)(Tl e:Tm)(d:List Str)(f:Env)(cs:List (Str×Addr))(l0:zc)(S:Mem->Prop)(c:Value)(b:Bool)(step:V->Mem->(Option V->Mem->Prop)->Prop)(Fin:List V->Mem->Prop)(n:Nat)(s':Shared):Prop:=
 ∃a U' todo acc vs g,n=todo.length∧xl (D::O) Tl a∧jl e a∧Ec G a d f cs l0 U' s'∧qj a S O c b todo∧a D=some (.Kb (Kc vs g))∧Se a acc vs∧bj S step Fin todo acc U'
theorem Cu(hG:G.Ok){N elt:Expr}{ua:List Expr}{cl:List (Str×Addr)}{step:V->Mem->(Option V->Mem->Prop)->Prop}{Fin:List V->Mem->Prop}(H1:∀e,it=.seq e∨it=.fj e∨it=.range e∨(∃b,it=.zip e b)∨(∃b,it=.zip b e)->fc G d e)(Ya:Eo d C it N t=true)(ht:ak d (Qh scope C) t tg=true)(cf:vg d t scope C)(ab:∀n c,cl.lookup n=some c->env.cells.lookup n=some c)(bb:∀n,(n,NameKind.free)∈scope.names->∃c,cl.lookup n=some c)(wa:yk G k d (Qh scope C) I tg ua elt step)(h:Xm G k it I U fun K U=>bj K.og step Fin K.vc [] U)(hA:El k A)(hE:Hd C env)(R:Ec G T d env cs I U s) : wpAny (model G.prog G.w) A (eval N env) (fun v cb=>wpAny (model G.prog G.w) A (pyIter v) (fun ha eb=>wpAny (model G.prog G.w) A (newList []) (fun acc fb=> wpAny (model G.prog G.w) A (newFunctionEnv scope env.globals cl [] env.qual none .none (some env)) (fun pa kb=> codeAny (model G.prog G.w) A (.compStart (.ListComp elt [⟨tg,N,ua,0⟩] scope pos) 0 ha acc {pa with scope:=relabel scope env}) (fun r s'=>r=.ok .next∧qt G T d env cs I Fin acc pa.locals s') kb) (fun l l=>False) fb) (fun l l=>False) eb) (fun l l=>False) cb) (fun l l=>False) s:=by
 refine wpAny_mono (ku hG H1 Ya h hA hE R) (fun v s1 p1=>wpAny_mono p1 (fun ha j p2=>?_) fun l l e=>e.elim) fun l l e=>e.elim
 (refine vI (fun T1 T2 U2 K O x1 x2 hO D I2 hS hq=>?_) p2;clear p2)
 refine wpAny_newObj_type (wpAny_newFunctionEnv cf.AB (by intro y hy;exact nomatch hy) (fun w P Q=>?_) cf.kind);have nD:=D.M.Ya (tf j.heap.objs.size)
 (change let R:Prop:=_;R;intro R);refine Qa (fun Ra xa=>?_)<|D.push j.toks (Kc [] 0) (.Kb (Kc [] 0)) (Heap.get?_push_size _ rfl) (fun x q=>by injection q)
 have nC:=Ra.M.Ya (tf _);have sC:(j.heap.push (Kc [] 0)).objs.size=j.heap.objs.size+1:=by simp
 change w.Ns (j.heap.push (Kc [] 0)).objs.size _ at P;change Heap.SameBut (j.heap.push (Kc [] 0)).objs.size ((j.heap.push (Kc [] 0)).push _) w at Q;refine(?_:codeAny _ _ (.compStart _ 0 _ _ (compEnvC scope cl (j.heap.push (Kc [] 0)).objs.size env)) (fun r s'=>r=.ok .next∧qt G T d env cs I Fin _ (j.heap.push (Kc [] 0)).objs.size s') {j with heap:=w,toks:=j.toks+0});generalize hC:(j.heap.push (Kc [] 0)).objs.size=f at *;have za:T2 f=none:=by rw[qa _ _ (Ne.symm (by refine aa sC ?_;exact Nat.ne_of_lt (Nat.lt_succ_self _):j.heap.objs.size≠f))]at nC;exact nC
 have ba:∀b o,(j.heap.push (Kc [] 0)).get? b=some o->w.get? b=some o:=fun b o hb=>Q.extBut b o (fun q=>by
  have:=Heap.lt_size hb;rw[hC,q]at this;exact absurd this (Nat.lt_irrefl _)) (Heap.get?_push_of_some _ hb)
 have Ea:env.locals≠j.heap.objs.size:=Nat.ne_of_lt D.F.lt;refine ya (fun mL lb Yb=>?_) D.F.ns;refine qh (fun oL Hc Lc mb uc=>?_)<|id lb
 have Ha:Hd (Qh scope C) (compEnvC scope cl f env):=by refine⟨?_,cf.kind,hE.globals,hE.builtins⟩;refine(?_:relabel scope env=Qh scope C);unfold relabel Qh;simp only[Env.kindOf,hE.scope]
 have FI:MC G (Ga T2 j.heap.objs.size (some (.Kb (Kc [] 0)))) d (compEnvC scope cl f env) cs (jk d cs I) w:=by
  refine⟨⟨_,P,fun i x n a b c g=>?_⟩,fun i x n c a b g=>?_,?_,nC,fun n c hc=>D.F.sub n c (ab n c hc),fun n F=>?_,fun n F=>?_,fun n c hc=>?_,D.F.inj,D.F.nd,fun hd=>?_⟩
  ·refine pd (fun n' c' B h2=>?_)<|(dp d cs I).rv i x a
   rw[b]at B;(replace B:=(Bb B).symm;subst B);rw[c]at h2;injection h2
  ·refine ya (fun v B h2=>?_)<|D.F.cell i x n c ((dp d cs I).sub i x a) b g
   exact⟨v,by refine aa (qa _ _ (fun q=>by rw[q,nD]at B;injection B)) ?_;exact B,h2.za xa⟩
  ·skip;refine aa sC ?_;exact Nat.le_succ_of_le D.hz
  ·rw[Ha.scope]at F;unfold Qh at F;rw[Fo scope C]at F;induction e:scope.names.lookup n with
   |none=>rw[e]at F;injection F
   |some kd=>
    rw[e]at F;by_cases hk:kd=.free
    ·subst hk;exact bb n (Hf e)
    ·have:(kd==NameKind.free)=false:=by exact decide_eq_false hk
     simp only[Option.map_some,this,Bool.false_and,Bool.false_eq_true,if_false,Option.some.injEq]at F;exact absurd F (cf.AB _ (Hf e))
  ·have hl:=Dm.mp (by exact F);induction e:cs.lookup n with
   |none=>rfl
   |some c=>have:=D.F.tp (by refine aa hE.scope ?_;exact cf.dH) n c e;rw[hE.scope]at this;exact absurd this (cf.I _ (Hf hl) rfl).2
  ·refine Aa (fun v hv=>?_)<|D.F.cells n c hc
   exact⟨v,by refine aa (qa _ _ (fun q=>by rw[q,nD]at hv;injection hv)) ?_;exact hv⟩
  ·have:=Dm (C:=C).mpr cf.EL;rw[Ha.scope,this]at hd;injection hd
 have RI:Ec G (Ga T2 j.heap.objs.size (some (.Kb (Kc [] 0)))) d (compEnvC scope cl f env) cs (jk d cs I) U2 {j with heap:=w,toks:=j.toks+0}:=⟨(Ra.keep (j.toks+0) ba).M,FI⟩;refine Qa (fun Rc xc=>?_)<|RI.Uv env.locals (.Kb oL) D.F.lo (by refine aa (qa _ _ Ea) ?_;exact D.F.af) ((Nat.ne_of_lt (by refine aa sC ?_;exact Nat.lt_succ_of_lt D.F.lt)):env.locals≠f) ((ba _ _ (Heap.get?_push_of_some _ mb)):w.get? env.locals=some oL)
 have ec:env.locals∉O:=fun q=>by refine Aa (fun o L=>?_)<|I2.rv _ q;rw[D.F.af]at L;injection L
 have ea:j.heap.objs.size∉O:=fun q=>by refine Aa (fun o L=>?_)<|I2.rv _ q;rw[nD]at L;injection L
 have Uc:f∉O:=fun q=>by refine Aa (fun o L=>?_)<|I2.rv _ q;rw[za]at L;injection L
 have ra:∀s4,s4={j with heap:=w,toks:=j.toks+0}->codeAny (model G.prog G.w) A (.compLoop (.ListComp elt [⟨tg,N,ua,0⟩] scope pos) 0 ha (.ref j.heap.objs.size) (compEnvC scope cl f env)) (fun r s'=>r=.ok .next∧qt G T d env cs I Fin (.ref j.heap.objs.size) f s') s4:=by
  (intro s4 gc;refine aa gc ?_)
  refine ik (CI G j.heap.objs.size O (Ga (Ga T2 j.heap.objs.size (some (.Kb (Kc [] 0)))) env.locals (some (.Kb oL))) T2 d (compEnvC scope cl f env) cs (jk d cs I) K.og ha (rx it) step Fin) (fun n s' F=>?_) K.vc.length ⟨_,U2,K.vc,[],[],0,rfl,fun l l l l h=>h,(xa.trans xc).f,Rc,I2.za (xa.trans xc),xc _ _ rfl (da ..),.nil,hq⟩
  (refine tK (fun Tn U' todo acc vs nn jc o3 f3 Rn In hD Ta hl=>?_) F;clear F;subst jc)
  have mc:K.og U':=by induction todo<;>(first|exact And.left (And.left hl)|exact And.left hl)
  refine wpAny_mono (Fx hA.1 Rn mc In (target:=tg) (BB Ya ht) (E:=fun l l=>False)) (fun r s3 p=>?_) fun l l e=>e.elim;induction r with
  |none=>
   (change let R:Prop:=_;R;intro R);(refine Qa (fun ka ob=>?_) p;clear p;subst ka;refine Pb (fun H o4 f4 W=>?_) ob;clear ob)
   have rb:xl (j.heap.objs.size::O) (Ga (Ga T2 j.heap.objs.size (some (.Kb (Kc [] 0)))) env.locals (some (.Kb oL))) H:=o3.trans fun b e hs F hb=>o4 b e hs (fun q=>F (.tail _ q)) hb;have fa:H env.locals=some (.Kb oL):=rb _ _ rfl (fun q=>by
    refine Or.elim (pg q) (fun q=>?_) (fun q=>?_)
    ·exact Ea q
    ·exact ec q) (da ..)
   have nc:H j.heap.objs.size=some (.Kb (Kc vs nn)):=o4 _ _ rfl ea hD;have la:H f=none:=W.F.af;refine ya (fun mC sb l=>?_) W.F.ns;refine qh (fun oC Vc Xc yb vc=>?_)<|id sb
   have fT:jl H (Ga (Ga H env.locals none) f (some (.Kb oC))):=fun b e hs hb=>by refine aa (qa _ _ (fun q=>by rw[q,la]at hb;injection hb)) (aa (qa _ _ (fun q=>by rw[q,fa]at hb;(replace hb:=(Bb hb).symm;subst hb);exact(Fc hs).elim)) ?_);exact hb
   refine⟨rfl,Ru T1,Ga (Ga H env.locals none) f (some (.Kb oC)),U',j.heap.objs.size,acc,vs,nn,oC,rfl,x1.trans IA,?_,sr x2 nD,sr x2 za,(by refine aa sC ?_;exact Nat.ne_of_lt (Nat.lt_succ_self _):j.heap.objs.size≠f),⟨⟨W.M.wi,W.M.Vc,fun b e hb=>?_,fun b m hb=>?_⟩,?_⟩,?_,da ..,(Ta.ae f4).ae fT,hl.2,mC,sb⟩
   ·intro b e hs hb;have M:=ZD x2 b e hs hb;have bO:b∉O:=fun q=>by
     have:=hO b q;unfold Ru at hb;rw[this]at hb;injection hb
    have b4:H b=some e:=rb b e hs (fun q=>by
     refine Or.elim (pg q) (fun q=>?_) (fun q=>?_)
     ·rw[q,nD]at M;injection M
     ·exact bO q) ((xa.trans xc) b e hs M)
    refine aa (qa _ _ (fun q=>by rw[q,za]at M;injection M)) (aa (qa _ _ (fun q=>by rw[q,D.F.af]at M;injection M)) ?_);exact b4
   ·by_cases qC:b=f
    ·subst qC;rw[da]at hb;refine Cb (Bb hb) ?_;exact⟨fun l=>W.F.lo,Heap.lt_size yb,yb⟩
    ·rw[qa _ _ qC]at hb;by_cases qL:b=env.locals
     ·rw[qL,da]at hb;injection hb
     ·rw[qa _ _ qL]at hb;refine Nb (fun g1 g2 g3=>?_)<|W.M.gc b e hb
      exact⟨g1,g2,g3.za fT (fun l h=>h) fun l l l l l h=>h⟩
   ·refine Aa (fun dx hd=>?_)<|W.M.mem b m hb
    exact⟨dx,by refine aa (qa _ _ (fun q=>by rw[q,la]at hd;injection hd)) (aa (qa _ _ (fun q=>by rw[q,fa]at hd;(replace hd:=Bb hd;cases hd))) ?_);exact hd⟩
   ·have Fb:jl T2 (Ga (Ga H env.locals none) f (some (.Kb oC))):=(f3.trans f4).trans fT;refine⟨⟨mL,Hm (fun o L=>by rw[mb]at L;refine Cb (Bb L) ?_;exact(((W.M.gc _ _ fa).2.2):s3.heap.get? env.locals=some oL)) lb,fun i x n a b c g=>?_⟩,fun i x n c a b g=>?_,D.F.lo,?_,D.F.sub,D.F.has,D.F.I,fun n c hc=>?_,D.F.inj,D.F.nd,D.F.tp⟩
    ·refine ya (fun u B h2=>?_)<|Yb i x n a b c g
     exact⟨u,B,h2.ae Fb⟩
    ·refine ya (fun u B h2=>?_)<|W.F.cell i x n c ((dp d cs I).all i x n c a b g) b g
     exact⟨u,by refine aa (qa _ _ (fun q=>by rw[q,la]at B;injection B)) (aa (qa _ _ (fun q=>by rw[q,fa]at B;(replace B:=Bb B;cases B))) ?_);exact B,h2.ae fT⟩
    ·exact aa (qa _ _ ((Nat.ne_of_lt (by rw[sC];exact Nat.lt_succ_of_lt D.F.lt)):env.locals≠f)) (aa (da _ _ _) rfl)
    ·refine Aa (fun u B=>?_)<|W.F.cells n c hc
     exact⟨u,by refine aa (qa _ _ (fun q=>by rw[q,la]at B;injection B)) (aa (qa _ _ (fun q=>by rw[q,fa]at B;(replace B:=Bb B;cases B))) ?_);exact B⟩
   ·refine aa (qa _ _ (by rw[sC];exact Nat.ne_of_lt (Nat.lt_succ_self _):j.heap.objs.size≠f)) (aa (qa _ _ Ea.symm) ?_);exact nc
  |some v=>
   refine wpAny_mono p (fun l s4 p=>?_) fun l l e=>e.elim
   (change let R:Prop:=_;R;intro R);(refine gJ (fun X xs H oc o4 f4 W hv I4=>?_) p;clear p;subst oc)
   (revert hl;intro Hb;refine Qa (fun ka hl=>?_) Hb;clear Hb;refine Qa (fun l Rb=>?_) ka;clear ka)
   refine wpAny_mono (wa A H (compEnvC scope cl f env) cs (jk d cs I) U' s4 X v _ hA Ha W (dp d cs I) hv hl) (fun l s5 p=>wpAny_mono p (fun ok s6 p=>?_) fun l l e=>e.elim) fun l l e=>e.elim;induction ok with
   |false=>
    (refine Cd (fun T5 U5 x5 R5 h5=>?_) p;clear p)
    exact⟨xs.length,by simp,T5,U5,xs,acc,vs,nn,rfl,((o3.trans fun b e hs F hb=>o4 b e hs (fun q=>F (.tail _ q)) hb):xl (j.heap.objs.size::O) (Ga (Ga T2 j.heap.objs.size (some (.Kb (Kc [] 0)))) env.locals (some (.Kb oL))) H).trans x5.o,(f3.trans f4).trans x5.f,R5,I4.za x5,x5 _ _ rfl ((o4 _ _ rfl ea hD):H j.heap.objs.size=some (.Kb (Kc vs nn))),(Ta.ae f4).za x5,h5⟩
   |true=>
    refine wpAny_mono p (fun y s7 p=>?_) fun l l e=>e.elim
    (refine Df (fun T5 U5 Y x5 R5 hy h5=>?_) p;clear p)
    have Ua:s7.heap.get? j.heap.objs.size=some {cls:=.type "list",data:=.seq vs.toArray nn}:=(R5.M.gc _ _ (x5 _ _ rfl ((o4 _ _ rfl ea hD):H j.heap.objs.size=some (.Kb (Kc vs nn))))).2.2;have sa:=(Ta.ae f4).za x5;refine call_meets PySem.F.slot_list_append (ph Ua) PySem.F.entry_list_append (PySem.F.args_list_append_2 _ _) (list_append _ _ _ _ (by refine aa List.size_toArray (aa sa.length ?_);exact ri Rb)) ⟨Ua,?_⟩;refine Aa (fun n' Sb=>?_)<|dq (c:=.type "list") (xs:=vs.toArray) (n:=nn) (fun z=>z.push y)
    have Tb:(s7.heap.update j.heap.objs.size (Obj.mapSeq fun z=>z.push y)).get? j.heap.objs.size=some (Kc (vs++[y]) n'):=by refine aa (Heap.get?_update_self _ Ua (by rw[Sb];rfl)) (aa Sb ?_);simp[Kc]
    refine Nb (fun R6 f6 o6=>?_)<|R5.jo [j.heap.objs.size] (fun b hb=>by refine aa (Jd hb) ?_;exact⟨_,(x5 _ _ rfl ((o4 _ _ rfl ea hD):H j.heap.objs.size=some (.Kb (Kc vs nn))))⟩) s7.toks (fun b o hb L=>(Heap.SameBut.update s7.heap j.heap.objs.size _).extBut b o (fun q=>hb (by simp[q])) L) (Ga T5 j.heap.objs.size (some (.Kb (Kc (vs++[y]) n')))) (fun b hb=>qa _ _ (by simpa using hb)) (fun b hb e he=>by
     rw[Jd hb]at he ⊢;rw[da]at he;refine Cb (Bb he) ?_;exact⟨_,rfl,Tb⟩)
    refine⟨xs.length,by simp,_,U5,xs,acc++[Y],vs++[y],n',rfl,(((o3.trans fun b e hs F hb=>o4 b e hs (fun q=>F (.tail _ q)) hb):xl (j.heap.objs.size::O) (Ga (Ga T2 j.heap.objs.size (some (.Kb (Kc [] 0)))) env.locals (some (.Kb oL))) H).trans x5.o).trans fun b e hs F hb=>o6 b e hs (fun q=>F (by refine aa (Jd q) ?_;exact .head _)) hb,((f3.trans f4).trans x5.f).trans f6,R6,(I4.za x5).KI (fun b o hb L=>?_) f6,da ..,(sa.ae f6).append (.cons (hy.ae f6) .nil),h5⟩;refine aa (qa _ _ (fun q=>ea (by rw[← q];exact hb))) ?_;exact L
 exact codeAny_compStart_list (ra _ rfl) (Cy Rc (I2.za (xa.trans xc)) (ra _ rfl))
theorem Dr(R:Ec G T d env cs I U s){i:Tm}{D:Addr}{vs:List Value}(x:Vd i T)(o:i D=none)(c:T D=some (.Kb (Kc vs n)))(hv:Se T l vs)(h:if Eh=true then Q (.fl l) U else Md U (.list l) Q) : ∃T' U' X,Vd i T'∧(∀b,b≠D->T' b=T b)∧Ec G T' d env cs I U' s∧VR T' X (.ref D)∧Q X U':=by
 have p:=(R.M.gc _ _ c).2.2;induction Eh with
 |true=>
  simp only[if_true]at h;refine Qa (fun j f=>?_)<|R.Iv s.toks c (fun a a a h=>h) (.fz true vs) (fun a=>⟨n,p⟩) (fun a q=>by injection q)
  exact⟨_,U,.fl l,x.Iv o,fun b hb=>qa _ _ hb,j,by exact⟨_,vs,rfl,da ..,hv.ae f⟩,h⟩
 |false=>
  simp only[Bool.false_eq_true,if_false]at h;refine Qa (fun j f=>?_)<|R.Iv s.toks c (fun a a a h=>h) (.mo (.list l) 0) (fun f=>⟨vs,n,p,hv.ae f⟩) (fun a q=>by injection q)
  refine⟨_,_,.ref D,x.Iv o,fun b hb=>qa _ _ hb,j,rfl,h D ?_⟩;induction e:U D with
  |none=>rfl
  |some m=>refine Aa (fun t g=>?_)<|R.M.mem _ _ e;rw[c]at g;(replace g:=Bb g;cases g)
theorem zu(R:Ec G T d env cs I U s){f:Addr}{o:Obj}(h:T f=some (.Kb o))(hs:Heap.SameBut f s.heap h'):Ec G (Ga T f none) d env cs I U {s with heap:=h'}∧xl [f] T (Ga T f none)∧jl T (Ga T f none):=by
 refine Nb (fun a b c=>?_)<|R.jo [f] (fun b hb=>by refine aa (Jd hb) ?_;exact⟨_,h⟩) s.toks (fun b o hb i=>hs.extBut b o (fun q=>hb (by simp[q])) i) (Ga T f none) (fun b hb=>qa _ _ (by simpa using hb)) (fun b hb e g=>by
  rw[Jd hb,da]at g;injection g)
 exact⟨a,c,b⟩
theorem Kx(b:vg d t scope C)(e:Hd C env)(R:Ec G T d env cs I U s) : ∃a,closureFor scope env=pure a∧(∀n c,a.lookup n=some c->env.cells.lookup n=some c)∧(∀n,(n,NameKind.free)∈scope.names->∃c,a.lookup n=some c):=
 Du fun x f g=>R.F.has _ (by refine aa e.scope ?_;exact b.free x f g)
theorem Yp(M:G.Ok){c elt:Expr}{q:List Expr}{step:V->Mem->(Option V->Mem->Prop)->Prop}(N:∀e,it=.seq e∨it=.fj e∨it=.range e∨(∃b,it=.zip e b)∨(∃b,it=.zip b e)->fc G d e)(u:yr c=false)(F:Eo d C it c t=true)(O:ak d (Qh scope C) t tg=true)(B:vg d t scope C)(j:yk G k d (Qh scope C) I tg q elt step)(h:Xm G k it I U fun w U=>bj w.og step (fun l U=>if Eh=true then Q (.fl l) U else Md U (.list l) Q) w.vc [] U) : WE G k d C (.ListComp elt [⟨tg,c,q,0⟩] scope pos) I U Q:=fun A T env cs s P L R=>by
 refine Pb (fun cl W Y c3=>?_)<|Kx B L R
 refine wpAny_comprehension_free (use:=none) rfl (zk u) W B.kind (fun x hx hl=>(B.I x hx hl).1) ?_;refine wpAny_mono (Cu M (pos:=pos) N F O B Y c3 j h P L R) (fun v s1 p=>wpAny_mono p (fun ba s2 p=>wpAny_mono p (fun acc s3 p=>wpAny_mono p (fun y s4 p=>codeAny_mono p fun r s' p=>?_) fun g g e=>e.elim) fun g g e=>e.elim) fun g g e=>e.elim) fun g g e=>e.elim
 (refine Qa (fun H z=>?_) p;clear p;refine aa H ?_;refine DJ (fun Ta T' U' D l vs i=>?_) z;clear z;refine hJ (fun n oC o x1 x2 nD nC K R' hD f=>?_) i;clear i;refine aa o ?_;refine nf (fun hC hv hf a=>?_) f;clear f;refine Aa (fun m hm=>?_) a;clear a)
 refine⟨m,hm,fun h' hs=>?_⟩;refine Nb (fun R2 o2 f2=>?_)<|zu R' hC hs
 refine Zq (fun T3 U3 X x3 g R3 hX hQ=>?_)<|Dr R2 ((x2.then o2 (fun b hb=>by refine aa (Jd hb) ?_;exact nC)):Vd Ta (Ga T' y.locals none)) nD (by refine aa (qa _ _ K) ?_;exact hD) (hv.ae f2) hf
 exact⟨T3,U3,X,x1.trans x3,R3,hX,hQ⟩
theorem bq(hG:G.Ok){a elt:Expr}{i:List Expr}{step:V->Mem->(Option V->Mem->Prop)->Prop}{y:Tg}{H:Expr}(H1:∀e,it=.seq e∨it=.fj e∨it=.range e∨(∃b,it=.zip e b)∨(∃b,it=.zip b e)->fc G d e)(K:yr a=false)(Y:Eo d C it a t=true)(ht:ak d (Qh scope C) t tg=true)(O:vg d t scope C)(L:ak d C y H=true)(z:yk G k d (Qh scope C) I tg i elt step)(h:Xm G k it I U fun M U=>bj M.og step (fun l U=>if Eh=true then Oh y (.fl l) U I (fun I=>Kn I U)else Md U (.list l) fun v U=>Oh y v U I fun I=>Kn I U) M.vc [] U)(hA:El k A)(hE:Hd C env)(R:Ec G T d env cs I U s) : wpAny (model G.prog G.w) A (comprehension (.ListComp elt [⟨tg,a,i,0⟩] scope pos) scope env (firstIterPos [⟨tg,a,i,0⟩] pos) (newList []) (firstAsync [⟨tg,a,i,0⟩]) (firstIter [⟨tg,a,i,0⟩] env) (some fun v=>assignAll v ((assignEach [H] env).map (·.2)))) (fun c s'=>nk G T d env cs Kn Kr .next s') (fun c c=>False) s:=by
 refine Pb (fun cl c1 c2 c3=>?_)<|Kx O hE R
 generalize hu:(fun v=>assignAll v ((assignEach [H] env).map (·.2)):Value->Sem Unit)=u;refine wpAny_comprehension_free (use:=some u) rfl (zk K) c1 O.kind (fun x hx hl=>(O.I x hx hl).1) ?_;refine wpAny_mono (Cu hG (pos:=pos) (Fin:=fun l U=>if Eh=true then Oh y (.fl l) U I (fun I=>Kn I U)else Md U (.list l) fun v U=>Oh y v U I fun I=>Kn I U) H1 Y ht O c2 c3 z h hA hE R) (fun v s1 p=>wpAny_mono p (fun ea s2 p=>wpAny_mono p (fun acc s3 p=>wpAny_mono p (fun f s4 p=>codeAny_mono p fun r s' p=>?_) fun c c e=>e.elim) fun c c e=>e.elim) fun c c e=>e.elim) fun c c e=>e.elim
 (refine Qa (fun ba N=>?_) p;clear p;refine aa ba ?_;refine DJ (fun Ta T' U' D l vs w=>?_) N;clear N;refine hJ (fun n P B x1 x3 nD nC F R' hD j=>?_) w;clear w;refine aa B ?_;refine nf (fun hC hv hf g=>?_) j;clear j;refine Aa (fun m hm=>?_) g;clear g)
 refine Zq (fun W U4 X x4 q R4 hX hQ=>?_)<|Dr (Q:=fun v U=>Oh y v U I fun I=>Kn I U) R' x3 nD hD hv hf
 refine(?_:wpAny _ _ (u (.ref D)) _ _ _);refine aa (by rw[← hu,Vk L];rfl:u (.ref D)=assign H env (.ref D)) ?_;refine wpAny_mono (Zh hE hA y H X _ W I s' (fun I=>Kn I U4) L R4 hX hQ) (fun c s5 p=>?_) fun c c e=>e.elim
 (refine Cd (fun T5 I5 x5 R5 h5=>?_) p;clear p)
 refine⟨m,Hm (fun o ho=>?_) hm,fun h' hs=>?_⟩
 ·have:=(R4.M.gc _ _ (by refine aa (q _ (Ne.symm F)) ?_;exact hC:W f.locals=some (.Kb P))).2.2;have h2:s'.heap.get? f.locals=some P:=this;rw[ho]at h2;refine aa (Bb h2) ?_;exact(R5.M.gc _ _ (x5 _ _ rfl (by refine aa (q _ (Ne.symm F)) ?_;exact hC:W f.locals=some (.Kb P)))).2.2
 ·refine Nb (fun R6 o6 c=>?_)<|zu R5 (x5 _ _ rfl (by refine aa (q _ (Ne.symm F)) ?_;exact hC:W f.locals=some (.Kb P))) hs
  exact⟨_,I5,U4,x1.trans ((x4.trans x5).then o6 (fun b hb=>by refine aa (Jd hb) ?_;exact nC)),R6,h5⟩
abbrev qI (G:Og) (d:List Str) (it:It):Prop:=∀e,it=.seq e∨it=.fj e∨it=.range e∨(∃b,it=.zip e b)∨(∃b,it=.zip b e)->fc G d e
theorem QD(g:G.Ok)(i:qI G d it)(j:fc G d elt):fc G d (.comp Eh t it elt):=Bc (fun k C x I U a=>by
 apply Om a;intro y tg e l scope pos b m a;apply kj a;intro a;refine jb a fun n a=>jb a fun f o=>?_;replace b:=Yg b;refine⟨rfl,fun Q h=>?_⟩;exact Yp g i m n f b (Up b f j o) h) (fun c c c c=>by rw[pF,pF])
theorem uz(j:G.Ok){c:E}(l:qI G d it)(m:fc G d c)(n:fc G d elt):fc G d (.Jf Eh t it c elt):=Bc (fun k C x I U a=>by
 apply Om a;intro y tg g o scope pos b p a;apply Vg a;intro f a;refine jb a fun q a=>jb a fun i a=>jb a fun s u=>?_;replace b:=Yg b;refine⟨rfl,fun Q h=>?_⟩;exact Yp j l p q i b (tx b i m s n u) h) (fun e e e e=>by rw[UI,UI])
set_option tactic.hygienic true in
theorem CG(v:fc G d e):fc G d (.Eh e):=fun k C x I U w=>by
 refine⟨fun Q h A T env cs s y z R=>?_,fun Q h=>?_⟩
 ·rw[pK]at h;refine Oa ((v k C x I U w).1 _ h.2 A T env cs s y z R) fun T' U' X u s' B g i f=>?_;split at f
  ·rename_i a;split at f
   ·rename_i l D;replace i:_=_:=i;subst i;refine Aa (fun F p=>?_)<|g.M.mem _ _ D
    refine pd (fun vs n H r=>?_)<|(g.M.gc _ _ p).2.2
    refine Qa (fun K t=>?_)<|g.Ak s'.toks a _ F (some (.fz true vs)) p (Heap.SameBut.refl _ _) (U':=Ga U' a none) (fun b m hb=>by
     by_cases q:b=a
     ·rw[q,da]at hb;injection hb
     ·rw[qa _ _ q]at hb;refine Aa (fun c j=>?_)<|g.M.mem b m hb
      exact⟨c,by refine aa (qa _ _ q) ?_;exact j⟩) (fun e o=>by(replace o:=Bb o;subst o);exact⟨n,H⟩)
    exact⟨_,_,.fl l,B.trans t,K,by exact⟨_,vs,rfl,da ..,r.za t⟩,f⟩
   ·exact f.elim
  ·exact f.elim
 ·rw[ck]at h;exact absurd h.1 (by decide)
theorem Hd.td(a:Hd C env):env.blockKind=.function:=by unfold Env.blockKind;refine aa a.zo ?_;split<;>rfl
theorem Az{y:Expr}{a:List Comprehension}{b:Scope}{n:Str}{line:Nat}(c:Hd C env)(e:kf C n .local=true)(f:p.line=pos.line)(g:(!(b.names.any fun(h,k)=>h==n&&(k==.local||k==.cell)))=true):swapsWith (.ListComp y a b pos) (some (.Name n p)) line env=pure true:=by refine(?_:(pure (env.blockKind==.function&&env.kindOf n==some .local&&p.line==(Expr.ListComp y a b pos).pos.line&&!(b.names.any fun x=>x.1==n&&(x.2==.local||x.2==.cell))):Sem Bool)=pure true);refine aa (by rw[c.td];rfl:(env.blockKind==ScopeKind.function)=true) (aa (by rw[c.kindOf,gd e];rfl:(env.kindOf n==some NameKind.local)=true) (aa ((beq_iff_eq.mpr f):(p.line==(Expr.ListComp y a b pos).pos.line)=true) ?_));simp only[Bool.and_self,Bool.true_and];exact aa g rfl
theorem Jr{v:Expr}(i:fc G d e)(a:ak d C t tg=true)(c:Va d C e v=true)(hs:swapsWith v (some tg) pos.line env=pure false)(j:swappedStores [tg] v env=pure none)(h:wb G k false e I U fun v U=>Oh t v U I fun I=>Kn I U)(f:El k A)(g:Hd C env)(R:Ec G T d env cs I U s) : wpAny (model G.prog G.w) A (exec (.Assign [tg] v pos) env) (nk G T d env cs Kn Kr) (fun b b=>False) s:=by
 refine wpAny_bind (wpAny_standAt ?_);refine aa (show swapsWithSole [tg] v pos.line env=swapsWith v (some tg) pos.line env from rfl) (aa hs ?_);refine wpAny_bind (wpAny_pure ?_);refine wpAny_bind (Oa ((i k C v I U c).1 _ h A T env cs s f g R) fun T' U' X u s' l m n o=>?_);refine aa j ?_;refine wpAny_bind (wpAny_pure ?_);refine aa (Vk a _) ?_;refine wpAny_bind ?_;refine wpAny_mono (Zh g f t tg X u T' I s' _ a m n o) (fun b z p=>wpAny_pure ?_) fun b b e=>e
 (refine Cd (fun q I5 w x y=>?_) p;clear p)
 exact(zi q I5 U' (l.trans w) x y)
theorem ux{ps:List (Nat×V)}:∀{I:zc}{i:Nat}{x:V},(ps.map (·.1)).Nodup->(i,x)∈ps->Ke (De I ps) i=some x:=by
 induction ps with
 |nil=>intro _ _ _ _ h;cases h
 |cons p ps a=>
  intro I i x nd h;rw[List.map_cons,List.nodup_cons]at nd;refine(?_:Ke (De (Ca I p.1 p.2) ps) i=_);rcases pg h with h|h
  ·subst h
   (refine aa (Cg ps _ i nd.1) ?_;rewrite[Qf];exact aa (if_pos rfl) rfl)
  ·exact a nd.2 h
theorem yz{ps:List (Nat×V)}(nd:(ps.map (·.1)).Nodup)(I:zc)(i:Nat):Ke (De I ps) i=Ke (De I ps.reverse) i:=by
 by_cases h:i∈ps.map (·.1)
 ·(refine ya (fun a c b=>?_)<|List.mem_map.mp h;obtain⟨j,x⟩:=a;rw[← b])
  exact aa (ux nd c) (aa (ux (by refine aa List.map_reverse ?_;exact(List.reverse_perm _).nodup_iff.mpr nd:(ps.reverse.map (·.1)).Nodup) (List.mem_reverse.mpr c)) rfl)
 ·exact aa (Cg ps I i h) (aa (Cg ps.reverse I i (by rw[List.map_reverse];simpa using h)) rfl)
structure Sw where
 n:Str
 i:Nat
 x:V
 v:Value
theorem Iy(h:Hd C env):∀(L:List Sw)(T:Tm)(I:zc)(s:Shared),(∀q∈L,d[q.i]?=some q.n∧C.names.lookup q.n=some .local∧VR T q.x q.v)->Ec G T d env cs I U s-> wpAny (model G.prog G.w) A (assignInOrder (L.map fun q=>bindName env q.n) (L.map (·.v))) (fun f s'=>∃T',Vd T T'∧Ec G T' d env cs (De I (L.map fun q=>(q.i,q.x))) U s') (fun f f=>False) s:=by
 intro g;induction g with
 |nil=>intro T I s H R;exact wpAny_pure (pb T (Vd.refl T) R)
 |cons q L i=>
  intro T I s H R;refine Nb (fun j l m=>?_)<|H q (.head _);refine wpAny_bind (wpAny_holding (wpAny_bindName (R.de h j l (.inl rfl) m fun T' s' x n=>?_)));refine wpAny_mono (i T' _ s' (fun p o=>Nb (fun a b c=>(yc a b (c.za x))) (H p (.tail _ o))) n) (fun f w p=>?_) fun f f e=>e
  (refine ya (fun t u v=>?_) p;clear p)
  exact(pb t (x.trans u) v)
theorem NL{b:Type}{a:b}{P:Prop}(h:(none:Option b)=some a):P:=nomatch h
theorem tE{line:Nat}{x:Expr}{id:Str}(h:(match x with| .Name id pos=>if(env.kindOf id==some .local&&pos.line==line)=true then some id else none|_=>none)=some id):∃p,x=.Name id p∧env.kindOf id=some .local:=by
 cases x with
 |Name id' p=>
  replace h:(if(env.kindOf id'==some .local&&p.line==line)=true then some id' else none)=some id:=h;by_cases a:(env.kindOf id'==some .local&&p.line==line)=true
  ·rw[if_pos a]at h;refine Cb (Bb h) ?_;exact⟨p,rfl,beq_iff_eq.mp (Eb a).1⟩
  ·rw[if_neg a]at h;exact nomatch h
 |_=>exact NL h
theorem fB(z:Hd C env):∀{ts:List Tg}{xs:List Expr}{l:List V}{vs:List Value}{names:List Str}{line:Nat},qr d C ts xs=true->l.length=ts.length->Se T l vs->
 xs.filterMap (fun x=>match x with| .Name id pos=>if(env.kindOf id==some .local&&pos.line==line)=true then some id else none|_=>none)=names->names.length=xs.length->
 ∃L:List Sw,L.map (·.n)=names∧L.map (·.v)=vs∧(∀q∈L,d[q.i]?=some q.n∧C.names.lookup q.n=some .local∧VR T q.x q.v)∧∀(I:zc)(K:zc->Prop),pq ts l U I K->K (De I (L.map fun q=>(q.i,q.x))):=by
 intro ts;induction ts with
 |nil=>
  intro xs l vs names line j n hv m g;rcases xs with _|⟨x,xs⟩
  ·rcases l with _|⟨X,l⟩
   ·exact(Kj [] m (show []=vs from Eq.symm hv) (fun w h=>nomatch h) (fun I K h=>h))
   ·exact nomatch n
  ·exact(Fc j).elim
 |cons t ts A=>
  intro xs l vs names line j n hv m g;rcases xs with _|⟨x,xs⟩
  ·exact(Fc j).elim
  ·rcases l with _|⟨X,l⟩
   ·exact nomatch n
   ·replace j:=Eb j;refine Cd (fun v B e D F=>?_) hv;refine aa e ?_;have o:=List.length_filterMap_le (fun x=>match x with|Expr.Name id pos=>if(env.kindOf id==some NameKind.local&&pos.line==line)=true then some id else none|_=>none) xs;rw[List.filterMap_cons]at m;generalize s:(match x with|Expr.Name id pos=>if(env.kindOf id==some NameKind.local&&pos.line==line)=true then some id else none|_=>none)=fx at m;rcases fx with _|id
    ·have y:names.length≤xs.length:=by refine Cb m ?_;exact o
     rw[g]at y;exact absurd y (Nat.not_succ_le_self _)
    ·refine ya (fun p G H=>?_)<|tE s
     rw[G]at j;replace m:id::_=names:=m;rcases t with i|M
     ·refine Nb (fun N w w=>?_)<|Ip (show Rl d C i id=true from j.1)
      refine eh (fun L a b c f=>?_)<|A (line:=line) j.2 (Nat.succ.inj n) F rfl (by rw[← m]at g;exact Nat.succ.inj g)
      refine(Kj (⟨id,i,X,v⟩::L) (by refine aa List.map_cons (aa a ?_);exact m) (by exact aa List.map_cons (aa b rfl)) (fun q u=>?_) (fun I K h=>?_))
      ·rcases pg u with rfl|u
       ·exact(yc N (by refine Cb (z.kindOf _) ?_;exact H) D)
       ·exact c q u
      ·rw[FE,cK]at h;exact f _ K h
     ·exact(Fc j.1).elim
theorem br{l:List Str}:∀(n:Nat),l.length≤n->l.eraseDups.length≤l.length:=by
 intro n;induction n generalizing l with
 |zero=>intro h;cases l with|nil=>assumption|cons=>cases h
 |succ n c=>
  intro h;cases l with
  |nil=>exact Nat.zero_le _
  |cons a l=>refine aa List.eraseDups_cons ?_;have e:(l.filter fun b=>!b==a).length≤l.length:=List.length_filter_le _ _;have:=c (l:=l.filter fun b=>!b==a) (by simp at h;exact bc (by assumption) (by assumption));simp only[List.length_cons];lia
theorem Pl:∀{l:List Str},l.eraseDups.length=l.length->l.Nodup:=by
 intro c;induction c with
 |nil=>intro h;exact List.nodup_nil
 |cons a l f=>
  intro h;rw[List.eraseDups_cons]at h;have i:=br (l:=l.filter fun b=>!b==a) _ (tf _);have j:(l.filter fun b=>!b==a).length≤l.length:=List.length_filter_le _ _;simp only[List.length_cons]at h;have e:(l.filter fun b=>!b==a).length=l.length:=by lia
  rw[((List.filter_eq_self.mpr (List.length_filter_eq_length_iff.mp e)):l.filter (fun b=>!b==a)=l)]at h;rewrite[List.nodup_cons];refine⟨fun g=>?_,f (by exact Nat.succ.inj (by assumption))⟩;have:=List.length_filter_eq_length_iff.mp e a g;simp at this
theorem Zs{v:Expr}(H:tg.ctorIdx=25∨tg.ctorIdx=24->v.ctorIdx=25->False):swappedStores [tg] v env=pure none:=by
 cases tg with
 |Tuple=>cases v with
  |Tuple=>exact(H (.inl rfl) rfl).elim
  |_=>rfl
 |List=>cases v with
  |Tuple=>exact(H (.inr rfl) rfl).elim
  |_=>rfl
 |_=>rfl
theorem Dy{x:Expr}(h:ak d C t x=true):x.ctorIdx≠24:=by
 cases t with
 |nm=>apply gf h;intro _ _ _;exact Mo rfl
 |tp=>apply Zl h;intro _ _ _ _;exact Mo rfl
theorem Mq{ts:List Expr}{vs:List Expr}{q:Pos}(h:DF (.Tuple ts n p) (.Tuple vs m q)=true) :
 swappedStores [.Tuple ts n p] (.Tuple vs m q) env=pure none∨∃names line,swappedStores [.Tuple ts n p] (.Tuple vs m q) env=pure (some names)∧names.Nodup∧names.length=ts.length∧
  ts.filterMap (fun x=>match x with| .Name id pos=>if(env.kindOf id==some .local&&pos.line==line)=true then some id else none|_=>none)=names:=by
 have a:(!(vs.all (constantsAlone 8))||vs.all (foldedForSure 8))=true:=h;rw[Bool.or_eq_true,Bool.not_eq_true']at a;unfold swappedStores;dsimp only;split
 ·exact .inl rfl
 ·split
  ·exact .inl rfl
  ·generalize e:(ts.filterMap fun x=>match x with| .Name id pos=>if(env.kindOf id==some .local&&pos.line==(Option.map (fun x=>x.pos.line) ts.head?).getD 0)=true then some id else none|_=>none)=names;split
   ·exact .inl rfl
   ·rename_i c;split
    ·exact .inl rfl
    ·rename_i f;split
     ·rename_i b;rcases a with a|a
      ·rw[a]at b;exact(Fc b).elim
      ·exact absurd a f
     ·simp only[Bool.or_eq_true,bne_iff_ne,ne_eq,not_or,Decidable.not_not]at c;exact .inr (Af names _ rfl (Pl c.2) c.1 e)
theorem Yy{L:List Sw}(b:(L.map (·.n)).Nodup)(H:∀q∈L,d[q.i]?=some q.n):((L.map fun q=>(q.i,q.x)).map (·.1)).Nodup:=by
 induction L with
 |nil=>exact Ub rfl
 |cons q L g=>
  simp only[List.map_cons,List.nodup_cons]at b ⊢;refine⟨fun c=>b.1 ?_,g b.2 fun p a=>H p (.tail _ a)⟩;simp only[List.map_map,List.mem_map,Function.comp_apply]at c
  (refine ya (fun p a e=>?_) c;clear c)
  have f:=H p (.tail _ a);have h:=H q (.head _);rw[e,h]at f;exact List.mem_map.mpr (pb p a ((Bb f).symm))
set_option tactic.hygienic true in
theorem Ou{ts:List Expr}{v:Expr}{names:List Str}{line:Nat}(He:fc G d e)(m:ak d C t (.Tuple ts n p)=true)(M:Va d C e v=true)(hs:swapsWith v (some (.Tuple ts n p)) pos.line env=pure false)
 (hw:swappedStores [.Tuple ts n p] v env=pure (some names)) (nd:names.Nodup) (g:names.length=ts.length) (N:ts.filterMap (fun x=>match x with| .Name id pos=>if(env.kindOf id==some .local&&pos.line==line)=true then some id else none|_=>none)=names)
 (h:wb G k false e I U fun v U=>Oh t v U I fun I=>Kn I U) (O:El k A) (P:Hd C env) (R:Ec G T d env cs I U s) :
 wpAny (model G.prog G.w) A (exec (.Assign [.Tuple ts n p] v pos) env) (nk G T d env cs Kn Kr) (fun y y=>False) s:=by
 refine Assign_Tuple_swapped (names:=names) (Oa ((He k C v I U M).1 _ h A T env cs s O P R) fun T' U' X u s' hT Q Y j=>?_) hs hw;cases t with
 |nm i=>exact(Fc m).elim
 |tp ba=>
  rw[zJ]at j;split at j
  ·rename_i l W
   (revert j;intro F;refine Qa (fun z j=>?_) F;clear F)
   have H:∀{w:List Value}(h':Heap),Heap.ExtBut s'.heap.objs.size s'.heap h'->Se T' l w->wpAny (model G.prog G.w) A (assignInOrder (names.reverse.map fun n=>bindName env n) w.reverse) (fun y=>nk G T d env cs Kn Kr .next) (fun y y=>False) {s' with heap:=h'}:=by
    intro w h' K r;refine eh (fun L a b c f=>?_)<|fB (U:=U') P m z r N g;have:=Iy (A:=A) P L.reverse T' I _ (fun q j=>c q (List.mem_reverse.mp j)) (Q.keep (h':=h') s'.toks fun b o B=>K b o (fun q=>by rw[q]at B;exact absurd (Heap.lt_size B) (Nat.lt_irrefl _)) B);rw[show L.reverse.map (fun q=>bindName env q.n)=names.reverse.map (fun n=>bindName env n) by refine Cb a (Cb List.map_reverse (aa List.map_map ?_));rfl,show L.reverse.map (·.v)=w.reverse by exact Cb b (aa List.map_reverse rfl)]at this;refine wpAny_mono this (fun y s5 p=>?_) fun y y e=>e
    (refine ya (fun T5 x5 R5=>?_) p;clear p)
    refine(zi T5 _ U' (hT.trans x5) (R5.JI (I':=De I (L.map fun q=>(q.i,q.x))) (fun i=>?_)) (f I _ j));refine aa List.map_reverse ?_;exact yz (Yy (a▸nd) fun q j=>(c q j).1) I i
   rcases Jp W with rfl|W
   ·(refine ve (fun a w n D B r=>?_)<|Qn Q.M Y;refine aa D ?_)
    have hn:names.length=w.toArray.size:=by exact aa List.size_toArray (aa r.length (aa z (aa g (aa (Gp m) rfl))))
    refine aa hn ?_;exact PyProof.Rows.unpackItems_tuple O.1 (Bm B) fun h' K=>H h' K r
   ·(refine ve (fun a w n D B r=>?_)<|Cc Q.M Y W;refine aa D ?_)
    refine aa (by rw[List.size_toArray,r.length,z,g,(Gp m)]:names.length=w.toArray.size) ?_;exact Gh O.1 (Wb B) fun h' K=>H h' K r
  ·exact j.elim
structure UJ(G:Og)(d:List Str)(e:E):Prop where
 ok:fc G d e
 comp:∀Eh t it elt,e=.comp Eh t it elt->qI G d it∧fc G d elt
 Jf:∀Eh t it c elt,e=.Jf Eh t it c elt->qI G d it∧fc G d c∧fc G d elt
theorem JA{P:E->Prop}{y:Expr}{g:List Comprehension}{i:Scope}(h:Va d C e (.ListComp y g i pos)=true)(j:Pw e=true)(F:∀Eh t it elt,P (.comp Eh t it elt))(l:∀Eh t it c elt,P (.Jf Eh t it c elt)):P e:=by
 cases e with
 |comp a b c f=>exact F a b c f
 |Jf a b c f e=>exact l a b c f e
 |Eh=>exact(Fc j).elim
 |_=>exact(Fc h).elim
theorem XB(P:G.Ok)(H:UJ G d e){y:Expr}{a:List Comprehension}{i:Scope}{nm:Str}{o:Pos}(B:Pw e=true)(Q:ak d C t (.Name nm o)=true)(n:Va d C e (.ListComp y a i p)=true)(hs:swapsWith (.ListComp y a i p) (some (.Name nm o)) pos.line env=pure true)(h:wb G k false e I U fun v U=>Oh t v U I fun I=>Kn I U)(W:El k A)(X:Hd C env)(R:Ec G T d env cs I U s) : wpAny (model G.prog G.w) A (exec (.Assign [.Name nm o] (.ListComp y a i p) pos) env) (nk G T d env cs Kn Kr) (fun g g=>False) s:=by
 refine wpAny_bind (wpAny_standAt ?_);refine aa (show swapsWithSole [.Name nm o] (.ListComp y a i p) pos.line env=swapsWith (.ListComp y a i p) (some (.Name nm o)) pos.line env from rfl) (aa hs ?_);refine wpAny_bind (wpAny_pure ?_);refine wpAny_bind ?_;have j:=n;have l:=B;revert H n h B;apply JA j l
 ·clear j l;intro Eh Y it elt H B n h;apply Om (R:=fun x=>x=.ListComp y a i p->wpAny _ _ _ _ _ _) n ?_ rfl;intro y' D q F scope u w K b m;revert m;apply kj b;intro b m;refine jb b fun L b=>jb b fun z M=>?_;cases m;refine Qa (fun N O=>?_)<|H.comp _ _ _ _ rfl
  exact wpAny_bind (wpAny_mono (bq (Kr:=Kr) P N K L z (Yg w) Q (Up (Yg w) z O M) h W X R) (fun g g p=>wpAny_pure (wpAny_pure p)) fun g g e=>e)
 ·clear j l;intro Eh Y it c elt H B n h;apply Om (R:=fun x=>x=.ListComp y a i p->wpAny _ _ _ _ _ _) n ?_ rfl;intro y' D q F scope u w K b m;revert m;apply Vg b;intro f b m;refine jb b fun L b=>jb b fun z b=>jb b fun M g6=>?_;cases m;refine Nb (fun N O k3=>?_)<|H.Jf _ _ _ _ _ rfl
  exact wpAny_bind (wpAny_mono (bq (Kr:=Kr) P N K L z (Yg w) Q (tx (Yg w) z O M k3 g6) h W X R) (fun g g p=>wpAny_pure (wpAny_pure p)) fun g g e=>e)
theorem mH(F:G.Ok)(H:UJ G d e):zy G d (.Wc t e):=fun k C x I U Kn Kr c h A T env cs s u l R=>by
 apply Tp c;intro ts v pos c;apply Vg c;intro tg c;refine jb c fun K c=>jb c fun f c=>jb c fun i c=>jb c fun g w=>?_;induction hv:Dn v with
 |true=>unfold RB at g;rw[hv]at g;revert i;apply Zr g;intro y D O p g i;revert f;apply gf g;intro nm P g f;refine jb g fun L g=>jb g fun M N=>?_;exact XB F H K f i (Az (line:=pos.line) l L (Ub M) N) h u l R
 |false=>
  have hs:swapsWith v (some tg) pos.line env=pure false:=Sh hv;by_cases j:tg.ctorIdx=25∧v.ctorIdx=25
  ·revert f i w hs;refine Expr.Tuple.elim tg j.1 ?_;intro ts n p;refine Expr.Tuple.elim v j.2 ?_;intro vs m q;intro f i w hs;rcases Mq (env:=env) w with z|⟨names,line,z,nd,o,B⟩
   ·exact Jr H.ok f i hs z h u l R
   ·exact Ou H.ok f i hs z nd o B h u l R
  ·exact Jr H.ok f i hs (Zs fun a b=>a.elim (fun a=>j ⟨a,b⟩) fun a=>Dy f a) h u l R
theorem Sk{x y:Nat}{r:List Nat}:Be x (y::r)=if x<y then x::y::r else if x=y then y::r else y::Be x r:=rfl
noncomputable def ft(l:List Nat)(j:Nat):Nat:=(l.takeWhile (·<j)).length
theorem Et(l:List Nat)(j:Nat):ft l j≤l.length:=by exact(List.takeWhile_prefix _).length_le
theorem Bx:∀{l:List Nat}{j:Nat},l.Pairwise (·<·)->∀i x,l[i]?=some x->(x<j↔i<ft l j):=by
 intro a;induction a with
 |nil=>intro j b i x h;exact nomatch h
 |cons y c e=>
  intro j b i x h;rw[List.pairwise_cons]at b;unfold ft;refine aa List.takeWhile_cons ?_;by_cases q:y<j
  ·simp only[q,decide_true,if_true,List.length_cons];cases i with
   |zero=>replace h:=Bb h;refine Cb h ?_;simp[q]
   |succ i=>have:=e (j:=j) b.2 i x (by exact h);unfold ft at this;exact this.trans Nat.succ_lt_succ_iff.symm
  ·simp only[q,decide_false,Bool.false_eq_true,if_false,List.length_nil,Nat.not_lt_zero,iff_false];cases i with
   |zero=>replace h:=Bb h;refine Cb h ?_;exact q
   |succ i=>have:x∈c:=jr (by exact h);have:=b.1 x this;omega
theorem WK{a b:Nat}(h:a<b):a≤(a+b)/2∧(a+b)/2<b:=
 ⟨(Nat.le_div_iff_mul_le (Nat.le_succ 1)).mpr (Nat.mul_two a▸Nat.add_le_add_left (Nat.le_of_lt h) a),(Nat.div_lt_iff_lt_mul (Nat.le_succ 1)).mpr (Nat.mul_two b▸Nat.add_lt_add_right h b)⟩
theorem FC{l:List Nat}(n:l.Pairwise (·<·)):∀(c a b:Nat),a≤ft l j->ft l j≤b->b≤l.length->b - a≤c->SetTable.below.go l.toArray j c a b=ft l j:=by
 intro e;induction e with
 |zero=>exact fun a b f g m h=>Nat.le_antisymm f (bc g (Nat.le_of_sub_eq_zero (Nat.le_zero.mp h)))
 |succ c o=>
  intro a b f g m h;refine(?_:(if a<b then(if l.toArray.getD ((a+b)/2) j<j then SetTable.below.go l.toArray j c ((a+b)/2+1) b else SetTable.below.go l.toArray j c a ((a+b)/2))else a)=_);by_cases q:a<b
  ·refine aa (if_pos q) ?_;have p:=(WK q).1;have m2:=(WK q).2;have i:(a+b)/2<l.length:=Nat.lt_of_lt_of_le m2 m;refine aa (by simp[Array.getD,i]:l.toArray.getD ((a+b)/2) j=l[(a+b)/2]) ?_;by_cases z:l[(a+b)/2]<j
   ·refine aa (if_pos z) ?_;exact o _ b ((Bx (j:=j) n ((a+b)/2) l[(a+b)/2] (by simp[i])).mp z) g m (bc (Nat.sub_le_sub_left (Nat.succ_le_succ p) b) (Nat.pred_le_pred h))
   ·refine aa (if_neg z) ?_;exact o a _ f (Nat.not_lt.mp (mt (Bx (j:=j) n ((a+b)/2) l[(a+b)/2] (by simp[i])).mpr z)) (Nat.le_of_lt i) (Nat.sub_le_of_le_add (Nat.le_of_lt_succ (Nat.lt_of_lt_of_le m2 (Nat.succ_add c a▸Nat.le_add_of_sub_le h))))
  ·refine aa (if_neg q) ?_;exact Nat.le_antisymm f (bc g (Nat.not_lt.mp q))
theorem BA{l:List Nat}(a:l.Pairwise (·<·))(j:Nat):SetTable.below l.toArray j=ft l j:=by exact FC a _ _ _ (Nat.zero_le _) (by simpa using Et l j) (by simp) (by simp)
theorem Jt:∀{l:List Nat}{x:Nat},x∉l->l.Pairwise (·<·)->Be x l=l.take (ft l x)++x::l.drop (ft l x):=by
 intro a;induction a with
 |nil=>intro x h b;exact rfl
 |cons y e c=>
  intro x h b;rw[List.pairwise_cons]at b;simp only[List.mem_cons,not_or]at h;refine aa Sk ?_;unfold ft;refine aa List.takeWhile_cons ?_;by_cases q:x<y
  ·refine aa (if_pos q) ?_;have:¬y<x:=by exact Nat.not_lt_of_lt (by assumption)
   simp[this]
  ·refine aa (if_neg q) (aa (if_neg h.1) ?_);have:y<x:=by lia
   simp only[this,decide_true,if_true,List.length_cons,List.take_succ_cons,List.drop_succ_cons,List.cons_append];refine aa (c h.2 b.2) ?_;rfl
theorem Yx{x:Nat}:∀{l:List Nat}{y:Nat},y∈Be x l↔y=x∨y∈l:=by
 intro a;induction a with
 |nil=>intro y;simp[Be]
 |cons z e c=>
  intro y;refine aa Sk ?_;by_cases q:x<z
  ·refine aa (if_pos q) ?_;simp
  ·refine aa (if_neg q) ?_;by_cases b:x=z
   ·refine aa b ?_;refine aa (if_pos rfl) ?_;simp
   ·(refine aa (if_neg b) ?_;rewrite[List.mem_cons,c,List.mem_cons])
    constructor
    ·rintro(h|h|h)
     ·exact .inr (.inl h)
     ·exact .inl h
     ·exact .inr (.inr h)
    ·rintro(h|h|h)
     ·exact .inr (.inl h)
     ·exact .inl h
     ·exact .inr (.inr h)
theorem Rw{x:Nat}:∀{l:List Nat},l.Pairwise (·<·)->(Be x l).Pairwise (·<·):=by
 intro c;induction c with
 |nil=>intro b;exact Ub rfl
 |cons z h g=>
  intro b;have e:=b;rw[List.pairwise_cons]at b;refine aa Sk ?_;by_cases q:x<z
  ·(refine aa (if_pos q) ?_;rewrite[List.pairwise_cons])
   refine⟨fun y a=>?_,e⟩;rcases pg a with rfl|a
   ·exact q
   ·have:=b.1 y a;exact Nat.lt_trans (by assumption) (by assumption)
  ·refine aa (if_neg q) ?_;by_cases f:x=z
   ·refine aa (if_pos f) ?_;exact e
   ·(refine aa (if_neg f) ?_;rewrite[List.pairwise_cons])
    refine⟨fun y a=>?_,g b.2⟩;rcases Yx.mp a with rfl|a
    ·lia
    ·exact b.1 y a
theorem Fm{x:Nat}{l:List Nat}(h:x∉l)(a:l.Pairwise (·<·)):(Be x l).length=l.length+1:=by refine aa (Jt h a) ?_;rw[List.length_append,List.length_cons,List.length_take,List.length_drop,Nat.min_eq_left (Et l x)];exact congrArg Nat.succ (Nat.add_sub_of_le (Et l x))
theorem Xw{x:Nat}:∀{l:List Nat},l.Pairwise (·<·)->x∈l->Be x l=l:=by
 intro a;induction a with
 |nil=>intro b h;exact nomatch h
 |cons z e c=>
  intro b h;rw[List.pairwise_cons]at b;refine aa Sk ?_;rcases pg h with rfl|h
  ·exact aa (if_neg (Nat.lt_irrefl _)) (aa (if_pos rfl) rfl)
  ·have:=b.1 x h;exact aa (if_neg (by exact Nat.not_lt_of_lt (by assumption))) (aa (if_neg (by exact Nat.ne_of_gt (by assumption))) (aa (c b.2 h) rfl))
theorem Al{a:Type}(l:List a)(p:Nat)(x:a)(b:p≤l.length):SetTable.insertAt l.toArray p x=(l.take p++x::l.drop p).toArray:=by unfold SetTable.insertAt;apply Array.ext';simp;exact List.take_of_length_le (by refine aa List.length_drop ?_;exact tf _)
theorem et:∀{l m:List Nat}{es f:List (Int×Value)},Rg l es->Rg m f->Rg (l++m) (es++f):=by
 intro a;induction a with
 |nil=>intro b c e h h';replace h:_=_:=h;refine aa h ?_;exact h'
 |cons g i j=>intro b c e h h';obtain⟨t,n,h,r⟩:=h;exact h▸(ej t _ rfl (j r h'))
theorem Fw:∀{l:List Nat}{es:List (Int×Value)}(i:Nat),Rg l es->Rg (l.take i) (es.take i):=by
 intro b;induction b with
 |nil=>
  intro c a h;rcases a with _|e
  ·rfl
  ·replace h:_=_:=h;refine aa h ?_;simp[Rg]
 |cons f g j=>
  intro c a h;rcases a with _|i
  ·rfl
  ·obtain⟨t,m,h,r⟩:=h;exact h▸(ej t _ rfl (j i r))
theorem Vv:∀{l:List Nat}{es:List (Int×Value)}(i:Nat),Rg l es->Rg (l.drop i) (es.drop i):=by
 intro b;induction b with
 |nil=>
  intro c a h;rcases a with _|e
  ·exact h
  ·replace h:_=_:=h;refine aa h ?_;simp[Rg]
 |cons f g j=>
  intro c a h;rcases a with _|i
  ·exact h
  ·obtain⟨t,m,h,r⟩:=h;refine aa h ?_;exact j i r
theorem Wv{h:Nat}(q:h<2^60):SetTable.bits (h:Int)=h:=by unfold SetTable.bits;have:((h:Int)%(2^64:Int))=h:=Int.emod_eq_of_lt (by exact Ub rfl) (by lia);refine aa this ?_;simp
theorem gy{l:List Nat}{es:Array (Int×Value)}{t:SetTable}(a:xf l m es t){h:Nat}(i:h≤m)(c:h∉l):t.freeSlot (h:Int)=some (h,false):=by
 have hb:=a.Ac;have hs:t.slot h=.empty:=by
  unfold SetTable.slot;have e:(t.place[SetTable.below t.place h]?==some h)=false:=by refine aa a.place ?_;refine beq_eq_false_iff_ne.mpr fun q=>c ?_;rw[List.getElem?_toArray]at q;exact jr q
  simp only[e,(by refine aa a.dummies ?_;rfl:SetTable.has t.dummies h=false),Bool.false_eq_true,if_false]
 unfold SetTable.freeSlot SetTable.probe SetTable.probeStart;simp only[(Wv (h:=h) (by exact Nat.lt_of_le_of_lt (by assumption) (Nat.lt_of_lt_of_le (by assumption) (Pa rfl)))),a.Jo,Nat.mod_eq_of_lt (show h<m+1 by exact Nat.succ_le_succ (by assumption))];have b:∃f,10*SetTable.turns m=f+1:=⟨10*SetTable.turns m - 1,by unfold SetTable.turns;rfl⟩
 (refine Aa (fun f g=>?_) b;clear b)
 refine aa g ?_;unfold SetTable.probe.go;simp only[hs];rfl
theorem HE{l:List Nat}{es:Array (Int×Value)}{t:SetTable}(a:xf l m es t){h:Nat}(n:h≤m)(b:h∉l)(q:l.length<m)(s:l.length+1<4000)(tk:Tok) : ∃c f,layNew t es (h:Int) (.int h tk)=(c,f,false,false)∧xf (Be h l) m c f∧f.plain=t.plain:=by
 have o:es.toList.length=l.length:=jf a.es;have p:=Et l h;have g:SetTable.insertAt es (ft l h) ((h:Int),Value.int h tk)=(es.toList.take (ft l h)++((h:Int),Value.int h tk)::es.toList.drop (ft l h)).toArray:=by have:=Al es.toList (ft l h) ((h:Int),Value.int h tk) (by lia);simpa using this
 have e:xf (Be h l) m (es.toList.take (ft l h)++((h:Int),Value.int h tk)::es.toList.drop (ft l h)).toArray {t with place:=(Be h l).toArray}:=by
  refine⟨?_,a.Jo,rfl,a.dummies,a.finger,Rw a.yh,fun i j=>?_,a.Ac,?_,?_⟩
  ·skip;refine aa (Jt b a.yh) ?_;exact et (Fw _ a.es) (ej tk _ rfl (Vv _ a.es))
  ·rcases Yx.mp j with rfl|j
   ·exact n
   ·exact a.small i j
  ·refine aa (Fm b a.yh) ?_;assumption
  ·refine aa (Fm b a.yh) ?_;assumption
 refine(qf _ _ ?_ e rfl);unfold layNew;refine aa (gy a n b) ?_;simp only[SetTable.put,(by refine aa a.place ?_;exact BA a.yh h:SetTable.below t.place h=ft l h),(by refine aa a.dummies ?_;rfl:SetTable.has t.dummies h=false),Bool.false_eq_true,if_false,g,(by exact aa a.place (aa (Al l _ _ p) (aa (Jt b a.yh) rfl)):SetTable.insertAt t.place (ft l h) h=(Be h l).toArray)];simp only[SetTable.orStandIn];refine aa (Rf e) ?_;rfl
theorem kJ(finger moves:Nat)(led plain:Bool):SetTable.laid 31 finger moves led plain #[0,1,2,3,4]=some ({mask:=31,place:=#[0,1,2,3,4],dummies:=#[],finger,led,moves,plain},#[0,1,2,3,4]):=by kernel_rfl
theorem yH{es:Array (Int×Value)}{t:SetTable}(c:xf [0,1,2,3,4] 7 es t):∃p,relayAll t es (SetTable.grown es.size)=(es,p,false)∧xf [0,1,2,3,4] 31 es p∧t.tooFull=true:=by
 (change let R:Prop:=_;R;intro R);(refine pd (fun g h j f=>?_) c.es;refine pd (fun l h q e=>?_) f;clear f;refine pd (fun m h s b=>?_) e;clear e;refine pd (fun n h u a=>?_) b;clear b;refine pd (fun o h v w=>?_) a;clear a)
 subst w v u s q;refine(cc ({mask:=31,place:=#[0,1,2,3,4],dummies:=#[],finger:=t.finger,led:=t.led,moves:=t.movedTo 31,plain:=t.plain}) ?_ ⟨c.es,rfl,rfl,rfl,c.finger,c.yh,fun i x=>bc (c.small i x) (by exact Pa rfl),by exact Pa rfl,by exact Pa rfl,by exact Pa rfl⟩ ?_)
 ·have y:t.relaid (es.map (·.1)) (SetTable.grown es.size)=some ({mask:=31,place:=#[0,1,2,3,4],dummies:=#[],finger:=t.finger,led:=t.led,moves:=t.movedTo 31,plain:=t.plain},#[0,1,2,3,4]):=by
   refine aa (by rw[((Array.toList_inj.mp (by exact j)):es=#[(((0:Nat):Int),Value.int ((0:Nat):Int) g),(((1:Nat):Int),Value.int ((1:Nat):Int) l),(((2:Nat):Int),Value.int ((2:Nat):Int) m),(((3:Nat):Int),Value.int ((3:Nat):Int) n),(((4:Nat):Int),Value.int ((4:Nat):Int) o)])];simp:es.map (·.1)=#[0,1,2,3,4]) (aa (by rw[((Array.toList_inj.mp (by exact j)):es=#[(((0:Nat):Int),Value.int ((0:Nat):Int) g),(((1:Nat):Int),Value.int ((1:Nat):Int) l),(((2:Nat):Int),Value.int ((2:Nat):Int) m),(((3:Nat):Int),Value.int ((3:Nat):Int) n),(((4:Nat):Int),Value.int ((4:Nat):Int) o)])];rfl:es.size=5) ?_);exact(kJ t.finger (t.movedTo 31) t.led t.plain)
  unfold relayAll;refine aa y ?_;dsimp only;refine aa (by rw[((Array.toList_inj.mp (by exact j)):es=#[(((0:Nat):Int),Value.int ((0:Nat):Int) g),(((1:Nat):Int),Value.int ((1:Nat):Int) l),(((2:Nat):Int),Value.int ((2:Nat):Int) m),(((3:Nat):Int),Value.int ((3:Nat):Int) n),(((4:Nat):Int),Value.int ((4:Nat):Int) o)])];rfl:(#[0,1,2,3,4]:Array Nat).filterMap (es[·]?)=es) (aa (by rw[((Array.toList_inj.mp (by exact j)):es=#[(((0:Nat):Int),Value.int ((0:Nat):Int) g),(((1:Nat):Int),Value.int ((1:Nat):Int) l),(((2:Nat):Int),Value.int ((2:Nat):Int) m),(((3:Nat):Int),Value.int ((3:Nat):Int) n),(((4:Nat):Int),Value.int ((4:Nat):Int) o)])];rfl:es.size=5) ?_);rfl
 ·unfold SetTable.tooFull SetTable.fill;refine aa c.place (aa c.dummies (aa c.Jo ?_));decide
theorem Uy{l:List Nat}{es:List (Int×Value)}{x:Nat}(h:Rg l es)(b:x∉l):es.findIdx? (fun e=>(intKind G.prog G.w).is (x:Int) e.2)=none:=by
 rewrite[List.findIdx?_eq_none_iff];intro e c
 (refine pd (fun i t f a=>?_)<|rj h e c;refine aa a ?_)
 have:(x:Int)≠(i:Int):=fun q=>b (by refine aa (show x=i by exact Int.ofNat.inj (by assumption)) ?_;exact f);simp only[intKind,Value.isInt];simpa using fun q=>this q.symm
theorem wz{l:List Nat}{es:List (Int×Value)}{x:Nat}(h:Rg l es)(a:x∈l):∃j,es.findIdx? (fun e=>(intKind G.prog G.w).is (x:Int) e.2)=some j:=by
 induction e:es.findIdx? (fun e=>(intKind G.prog G.w).is (x:Int) e.2)with
 |some j=>exact⟨j,rfl⟩
 |none=>
  rw[List.findIdx?_eq_none_iff]at e;have:=(Hr (x:Int) h).mp (by simp only[List.any_eq_true,beq_iff_eq];exact(pb x a rfl))
  (refine ya (fun q b c=>?_) this;clear this)
  have:=e q b;simp only[intKind]at this;rw[c]at this;exact(Fc this.symm).elim
theorem fi{l:List Nat}{x:Nat}(f:l.contains x=false)(hs:Bf l m x=some (l',m')):(l=[0,1,2,3]∧x=4∧m=7)∨(l'=Be x l∧m'=m∧((m=7∧l.length≤3∧x≤7)∨(m=31∧l.length≤17∧x≤31))):=by
 unfold Bf at hs;rw[if_neg (by refine aa f ?_;exact Fc)]at hs;by_cases a:m=7
 ·rw[if_pos a]at hs;by_cases c:l.length≤3∧x≤7
  ·rw[if_pos c]at hs;have hs:=Bb hs;exact .inr ⟨(congrArg Prod.fst hs).symm,(congrArg Prod.snd hs).symm.trans a.symm,.inl ⟨a,c⟩⟩
  ·rw[if_neg c]at hs;by_cases e:l=[0,1,2,3]∧x=4
   ·exact .inl ⟨e.1,e.2,a⟩
   ·rw[if_neg e]at hs;exact nomatch hs
 ·rw[if_neg a]at hs;by_cases b:m=31∧l.length≤17∧x≤31
  ·rw[if_pos b]at hs;have hs:=Bb hs;exact .inr ⟨(congrArg Prod.fst hs).symm,(congrArg Prod.snd hs).symm.trans b.1.symm,.inr b⟩
  ·rw[if_neg b]at hs;exact nomatch hs
theorem Uk{l:List Nat}{x:Nat}(h:(l=[0,1,2,3]∧x=4∧m=7)∨(l'=Be x l∧m'=m∧((m=7∧l.length≤3∧x≤7)∨(m=31∧l.length≤17∧x≤31)))):x≤m∧l.length<m∧x<2^60∧l.length+1<4000:=by
 rcases h with h|h
 ·refine aa h.1 (aa h.2.1 (aa h.2.2 ?_));exact Ub rfl
 ·rcases h.2.2 with h|h<;>refine aa h.1 ?_<;>exact⟨h.2.2,Nat.lt_of_le_of_lt h.2.1 (by decide),Nat.lt_of_le_of_lt h.2.2 (by decide),Nat.lt_of_le_of_lt (Nat.succ_le_succ h.2.1) (by decide)⟩
theorem yA{l:List Nat}{x:Nat}(h:(m=7∧l.length≤3∧x≤7)∨(m=31∧l.length≤17∧x≤31)):¬m*3≤(l.length+1)*5:=by rcases h with h|h<;>refine aa h.1 ?_<;>exact Nat.not_le.mpr (Nat.lt_of_le_of_lt (Nat.mul_le_mul_right 5 (Nat.succ_le_succ h.2.1)) (by decide))
theorem MA{l:List Nat}{es:Array (Int×Value)}{D:Nat}{t:SetTable}(y:s.heap.get? a=some {cls:=.type "set",data:=.set es D t})(f:xf l m es t){x:Nat}{tk:Tok}(hs:Bf l m x=some (l',m')){E:Value->Shared->Prop}{Q:Bool->Shared->Prop}(q:∀b h' H N T,Heap.SameBut a s.heap h'->h'.get? a=some {cls:=.type "set",data:=.set H N T}->xf l' m' H T->Q b {s with heap:=h'}) : wpAny (model G.prog G.w) A (setAddHashed a (.int (x:Int) tk) ((intKind G.prog G.w).hash (x:Int))) Q E s:=by
 have hb:=f.Ac;refine wpAny_holding (wpAny_bind (wpAny_setState_of y rfl (Rf f) ?_));dsimp only;have Y:es.size=l.length:=by simpa using jf f.es
 have hr:=f.zG;refine aa (byScan_of rfl (by unfold scanBound;omega) ((Gk f.es fun i O=>by have:=f.small i O;exact Nat.lt_of_le_of_lt (by assumption) (Nat.lt_of_lt_of_le (by assumption) (Pa rfl))):ElemsOf (intKind G.prog G.w) es.toList)) ?_;refine wpAny_bind ?_;refine wpAny_bind (wpAny_rule ?_);refine wpAny_bind (wpAny_setScan_of (intKind_is G.prog G.w (x:Int) tk) y rfl (Rf f) ((Gk f.es fun i O=>by have:=f.small i O;exact Nat.lt_of_le_of_lt (by assumption) (Nat.lt_of_lt_of_le (by assumption) (Pa rfl))):ElemsOf (intKind G.prog G.w) es.toList) ?_);by_cases n:x∈l
 ·refine Aa (fun j hj=>?_)<|wz (G:=G) f.es n
  refine aa hj ?_;refine wpAny_pure (wpAny_pure ?_);have K:l'=l∧m'=m:=by
   unfold Bf at hs;rw[if_pos (by simpa using n)]at hs
   (replace hs:=Bb hs;cases hs);exact⟨rfl,rfl⟩
  rw[K.1,K.2]at q;exact q false s.heap es D t (Heap.SameBut.refl _ _) y f
 ·refine aa (Uy (G:=G) f.es n) ?_;refine aa (by simp[intKind,Ll (Uk (fi (by simpa using n:l.contains x=false) hs)).2.2.1]:(intKind G.prog G.w).hash (x:Int)=(x:Int)) ?_;refine Cd (fun c o e1 h ba=>?_)<|HE f (Uk (fi (by simpa using n:l.contains x=false) hs)).1 n (Uk (fi (by simpa using n:l.contains x=false) hs)).2.1 (Uk (fi (by simpa using n:l.contains x=false) hs)).2.2.2 tk
  refine aa e1 ?_;have W:c.size=l.length+1:=by have:=jf h.es;rw[Fm n f.yh]at this;simpa using this
  refine wpAny_bind (wpAny_pure ?_);have e:(s.heap.update a (Obj.putSet c o)).get? a=some {cls:=.type "set",data:=.set c (D+1) o}:=by exact aa (Heap.get?_update_self _ y (by rw[putSet_of c o rfl];rfl)) (aa (putSet_of c o rfl) rfl)
  have z:o.fill=l.length+1:=by unfold SetTable.fill;refine aa h.place (aa h.dummies ?_);simp[Fm n f.yh]
  by_cases p:l=[0,1,2,3]∧x=4∧m=7
  ·(refine Nb (fun P L M=>?_) p;clear p;subst P;rw[L]at *;clear L;rw[M]at *;clear M)
   have K:l'=[0,1,2,3,4]∧m'=31:=by
    (replace hs:=Bb hs;cases hs);exact⟨rfl,rfl⟩
   refine Pb (fun F X R u=>?_)<|yH ((h):xf [0,1,2,3,4] 7 c o)
   have B:((s.heap.update a (Obj.putSet c o)).update a (Obj.putSet c F)).get? a=some {cls:=.type "set",data:=.set c (D+1+1) F}:=by exact aa (Heap.get?_update_self _ e (by rw[putSet_of c F rfl];rfl)) (aa (putSet_of c F rfl) rfl)
   have v:wpAny (model G.prog G.w) A (pure true) Q E {s with heap:=(s.heap.update a (Obj.putSet c o)).update a (Obj.putSet c F)}:=wpAny_pure (q true _ c _ F ((Heap.SameBut.update ..).trans (Heap.SameBut.update ..)) B (by refine aa K.1 (aa K.2 ?_);exact R));split
   ·refine wpAny_bind ?_;refine aa (show plainKind (.int ((4:Nat):Int) tk)=true from rfl) ?_;refine wpAny_pure ?_;simp only[↓reduceIte];refine wpAny_bind (wpAny_storeSet_of y rfl ?_ (by unfold sizeLine;lia));refine aa u (aa X ?_);simp only[Bool.not_false,Bool.and_self,↓reduceIte];refine wpAny_bind (wpAny_pure ?_);refine wpAny_bind (wpAny_storeSet_of e rfl ?_ (by unfold sizeLine;lia));exact wpAny_pure v
   ·refine wpAny_bind (wpAny_pure ?_);simp only[↓reduceIte];refine wpAny_bind (wpAny_storeSet_of y rfl ?_ (by unfold sizeLine;lia));refine aa u (aa X ?_);simp only[Bool.not_false,Bool.and_self,↓reduceIte];refine wpAny_bind (wpAny_pure ?_);refine wpAny_bind (wpAny_storeSet_of e rfl ?_ (by unfold sizeLine;lia));exact wpAny_pure v
  ·have w:=(fi (by simpa using n:l.contains x=false) hs).resolve_left p;have g:o.tooFull=false:=by
    unfold SetTable.tooFull;refine aa z (aa h.Jo ?_);exact decide_eq_false (yA w.2.2)
   have v:∀h',Heap.SameBut a s.heap h'->h'.get? a=some {cls:=.type "set",data:=.set c (D+1) o}->wpAny (model G.prog G.w) A (pure true) Q E {s with heap:=h'}:=fun h' h1 h2=>wpAny_pure (q true h' c (D+1) o h1 h2 (by refine aa (((⟨w.1,w.2.1⟩):l'=Be x l∧m'=m).1) (aa (((⟨w.1,w.2.1⟩):l'=Be x l∧m'=m).2) ?_);exact h));split
   ·refine wpAny_bind ?_;refine aa (show plainKind (.int (x:Int) tk)=true from rfl) ?_;refine wpAny_pure ?_;simp only[↓reduceIte];refine wpAny_bind (wpAny_storeSet_of y rfl ?_ (by unfold sizeLine;lia));refine aa g ?_;simp only[Bool.not_false,Bool.and_false,Bool.false_eq_true,↓reduceIte];exact wpAny_pure (v _ (Heap.SameBut.update ..) e)
   ·refine wpAny_bind (wpAny_pure ?_);simp only[↓reduceIte];refine wpAny_bind (wpAny_storeSet_of y rfl ?_ (by unfold sizeLine;lia));refine aa g ?_;simp only[Bool.not_false,Bool.and_false,Bool.false_eq_true,↓reduceIte];exact wpAny_pure (v _ (Heap.SameBut.update ..) e)
theorem ju{l:List Nat}{es:Array (Int×Value)}{g:Nat}{t:SetTable}(h:s.heap.get? a=some {cls:=.type "set",data:=.set es g t})(i:xf l m es t){x:Nat}{tk:Tok}(hs:Bf l m x=some (l',m')){E:Value->Shared->Prop}{Q:Bool->Shared->Prop}(q:∀b h' c e f,Heap.SameBut a s.heap h'->h'.get? a=some {cls:=.type "set",data:=.set c e f}->xf l' m' c f->Q b {s with heap:=h',toks:=s.toks+1}) : wpAny (model G.prog G.w) A (setAdd a (.int (x:Int) tk)) Q E s:=by refine wpAny_holding ?_;refine wpAny_bind ((intKind G.prog G.w).pyHash (k:=(x:Int)) (intKind_is _ _ _ _) ?_);exact MA (s:={s with toks:=s.toks+1}) h i hs fun b h' c e f j n o=>q b h' c e f j n o
theorem VD{o:E}(H:fc G d o)(K:fc G d e):fc G d (.Bf o e):=Bc (fun k C x I U L=>by
 apply il L;intro ox y a pos M N O P
 ·refine⟨rfl,fun Q h=>Hx (id:="set.add") (W:=Tt) H K M N O P PySem.F.plainAttrs_set PySem.F.slot_set_add PySem.F.type_set_add (fun R hv h=>ZC R hv h) h fun{A T env cs s X Y u v U} hA hE R z hv f=>?_⟩;obtain⟨x,i,l,m,l',m',e1,e2,hx,h0,hs,f⟩:=f
  ·rw[e1]at z;rw[e2]at hv;subst z
   ·skip
    ·(refine Aa (fun t c=>?_)<|vd hv;subst c)
     (refine Aa (fun n c=>?_)<|Int.eq_ofNat_of_zero_le h0;subst c)
     refine Aa (fun B g=>?_)<|R.M.mem _ _ hx
     refine qh (fun es ep tt D F=>?_)<|(R.M.gc _ _ g).2.2
     refine wpAny_call_entry PySem.F.slot_set_add (sh (G:=G) D F).typeIs PySem.F.entry_set_add ?_ (PySem.F.args_set_add_2 _ _);unfold Builtin.«set.add» Builtin.Frozenset.oneOther;simp only[List.isEmpty_nil,bind_assoc];refine wpAny_bind (wpAny_pure ?_)
     try dsimp only
     refine wpAny_bind (wpAny_pure ?_)
     try dsimp only
     refine wpAny_bind (ju D F (by exact hs) fun b h' j p t' g1 g2 g3=>?_);refine wpAny_pure ⟨_,rfl,?_⟩;refine Qa (fun R' x'=>?_)<|R.Ak (s.toks+1) x _ B (some (.mo (.set l' m') B)) g g1 (Pm R.M g) (fun e q=>by(replace q:=(Bb q).symm;subst q);exact⟨j,p,t',g2,g3⟩)
     exact Vb.xh (X:=.none) x' R' (by exact rfl) f) (fun w w w w=>by rw[iJ,iJ])
theorem Ju:∀{l:List V}{a:List Nat}{vs:List Value},jh l=some a->Se T l vs->∀i:Nat,(∀n,a[i]?=some n->∃t,vs[i]?=some (.int (n:Int) t))∧(a[i]?=none->vs[i]?=none):=by
 intro l;induction l with
 |nil=>intro a vs h r i;refine Cb (Bb h) (aa (show vs=[] from r) ?_);exact⟨fun c h=>(nomatch h),fun c=>rfl⟩
 |cons x l f=>
  intro a vs h r i;rcases x with _|_|j|_|_|_|_|_;all_goals first|exact nomatch(show Option.none=some a from h)|skip
  replace h:(if 0≤j then(jh l).map (j.toNat::·)else Option.none)=some a:=h;by_cases q:0≤j
  ·rw[if_pos q]at h;refine ya (fun g m e=>?_)<|Option.map_eq_some_iff.mp h
   refine Cd (fun v o p s r=>?_) r;refine Aa (fun t u=>?_)<|vd s
   refine Cb e (aa p (aa u ?_));rcases i with _|i
   ·refine⟨fun n b=>⟨t,?_⟩,fun b=>(nomatch b)⟩;refine Cb (Bb b) (aa (Int.toNat_of_nonneg q) ?_);rfl
   ·exact f m r i
  ·rw[if_neg q]at h;exact nomatch h
theorem Jw{acc:List Nat}{x:Nat}(a:acc.Pairwise (·<·))(b:acc.length≤3)(c:x≤7):Bf acc 7 x=some (Be x acc,7):=by
 unfold Bf;by_cases h:x∈acc
 ·exact aa (if_pos (by simpa using h)) (aa (Xw a h) rfl)
 ·exact aa (if_neg (by simpa using h)) (aa (if_pos rfl) (aa (if_pos ⟨b,c⟩) rfl))
theorem Bw{x:Nat}{l:List Nat}(a:l.Pairwise (·<·)):(Be x l).length≤l.length+1:=by
 by_cases h:x∈l
 ·refine aa (Xw a h) ?_;exact Nat.le_succ _
 ·refine aa (Fm h a) ?_;exact tf _
theorem uC{S a l:Addr}{vs:List Value}{f:List Nat}(hh:A.handled=none)(X:∀i:Nat,(∀n,f[i]?=some n->∃t,vs[i]?=some (.int (n:Int) t))∧(f[i]?=none->vs[i]?=none))(h7:∀n∈f,n≤7)(h4:f.length≤4)(h:S≠a)(K:l≠a)(L:l≠S){R:Result->Shared->Prop}:∀(c i:Nat)(s:Shared)(acc:List Nat),f.length - i=c->i≤f.length->acc.length≤i->s.heap.IsListIter a l i->s.heap.IsList l vs.toArray-> (∃es j t,s.heap.get? S=some {cls:=.type "set",data:=.set es j t}∧xf acc 7 es t)-> (∀h' tk,(∀b o,b≠S->b≠a->s.heap.get? b=some o->h'.get? b=some o)->(∃es j t,h'.get? S=some {cls:=.type "set",data:=.set es j t}∧xf ((f.drop i).foldl (fun acc n=>Be n acc) acc) 7 es t)->R (.ok (.ret .none)) {s with heap:=h',toks:=tk})-> codeAny (model G.prog G.w) A (.builtin "set.update.loop" ⟨[.ref S,.ref a],[]⟩) R s:=by
 intro w;induction w with
 |zero=>intro i s acc M hi ha m H g N;obtain⟨es,j,t,p,y⟩:=g;have e:i=f.length:=Nat.le_antisymm (by assumption) (Nat.le_of_sub_eq_zero (by assumption));refine codeAny_builtin F.entry_set_update_loop ?_;refine aa (Around.under_plainId F.plain_set_update_loop _) ?_;refine(?_:wpAny _ A.in1 (pyNext (.ref a) >>= _) _ _ s);refine wpAny_bind (wpAny_pyNext_list_end hh m H (by simpa using(X i).2 (by refine aa e ?_;simp)) fun h' Y=>?_);refine(?_:wpAny _ A.in1 (ret Value.none) _ _ _);refine wpAny_pure (N h' s.toks (fun b o ζ hb q=>Y b o hb q) ⟨es,j,t,Y S _ h p,?_⟩);refine aa e (aa List.drop_length ?_);exact y
 |succ c ih=>
  intro i s acc M hi ha m H g N;obtain⟨es,j,t,p,y⟩:=g;have u:i<f.length:=Nat.lt_of_sub_pos (M▸Nat.succ_pos c);refine Aa (fun tk hv=>?_)<|(X i).1 f[i] (by simp[u]);refine codeAny_builtin F.entry_set_update_loop ?_;refine aa (Around.under_plainId F.plain_set_update_loop _) ?_;refine(?_:wpAny _ A.in1 (pyNext (.ref a) >>= _) _ _ s);refine wpAny_bind (wpAny_pyNext_list_item m H (x:=.int (f[i]:Int) tk) (by simpa using hv) fun h1 z v=>?_);have O:h1.get? S=some {cls:=.type "set",data:=.set es j t}:=v.extBut _ _ h p;refine(?_:wpAny _ A.in1 (holding [Value.int (f[i]:Int) tk] (setAdd S (.int (f[i]:Int) tk)) >>= _) _ _ _);refine wpAny_bind (wpAny_holding (ju (s:={s with heap:=h1}) O y (Jw y.yh (by lia) (h7 _ (List.getElem_mem u))) fun b h2 P Q t2 T g2 g3=>?_));refine wpAny_pure ⟨plainId_quiet F.plain_set_update_loop _,ih (i+1) _ (Be f[i] acc) (by refine aa (Nat.sub_add_eq _ _ _) (aa M ?_);rfl) (by assumption) (by have:=Bw (x:=f[i]) y.yh;lia) ?_ ?_ ⟨P,Q,t2,g2,g3⟩ fun h' W B hS=>?_⟩
  ·exact z.at fun o p=>T.extBut _ o (Ne.symm h) p
  ·exact(H.extBut v.extBut K).at fun o p=>T.extBut _ o L p
  ·refine N h' W (fun b o hb D q=>B b o hb D (T.extBut b o hb (v.extBut b o D q))) ?_;refine aa (List.drop_eq_getElem_cons u) (aa List.foldl_cons ?_);exact hS
theorem SG(id:String)(s o:Addr):Builtin.Frozenset.merge id s o=(do
 let was ← setEpoch o
 setMerge s o (Builtin.Frozenset.unchanged id o was)):=rfl
section
variable{E:Value->Shared->Prop}
noncomputable def Oc(led:Bool):Obj:={cls:=.type "set",dict:=none,data:=.set #[] 0 (.fresh 0 0 led)}
set_option maxHeartbeats 3200000 in
theorem Io{x:Value}{P:Heap->Prop}{Q:Value->Shared->Prop}(i:∀led(R:Unit->Shared->Prop),(∀h' tk,P h'->R () {s with heap:=h',toks:=tk})->wpAny (model G.prog G.w) A.in1.in1 (Builtin.Frozenset.updateFrom "set.__init__" s.heap.objs.size x) R E {s with heap:=s.heap.push (Oc led)})(h:∀h' tk,P h'->Q (.ref s.heap.objs.size) {s with heap:=h',toks:=tk}) : wpAny (model G.prog G.w) A (call (.type "set") [x]) Q E s:=by
 refine Lk (fun c tl w=>?_) F.called_set.mro;have p:=F.called_set.made;have y:=F.called_set.sub;refine wpAny_call (codeAny_of_tree ?_);refine(?_:wpAny _ _ (callAny (.type "set") _) _ _ _);refine wpAny_pure ⟨Code.quiet_builtin _ (by decide +kernel),codeAny_builtin F.entry_type_call ?_⟩;refine aa (Around.under_plain (weight_type_call_type "set" [x] []) rfl) ?_;have M:=F.called_set.notType;have N:=F.called_set.canCreate;have z:=F.typeCall_set_1 x;repeat(any_goals(first|assumption|wp_step))
 refine codeAny_mono (code_set_new_1 x (E:=E) (Q₁:=fun obj f=>∃led:Bool,obj=.ref s.heap.objs.size∧f={s with heap:=s.heap.push (Oc led)}) fun led=>(pb led rfl rfl)) fun r f o=>?_;cases r with
 |error e=>exact o
 |ok fl=>
  cases fl with
  |ret obj=>
   (refine ya (fun led q t=>?_) o;clear o;subst q;subst t)
   have B:(s.heap.push (Oc led)).get? s.heap.objs.size=some (Oc led):=Heap.get?_push_size _ rfl;have D:Shared.TypeIs {s with heap:=s.heap.push (Oc led)} (.ref s.heap.objs.size) "set":=(pb _ B rfl);have H:=F.called_set.init.lookup;have K:=F.called_set.init.bind (.ref s.heap.objs.size);repeat(any_goals(first|assumption|wp_step))
   refine codeAny_mono (codeAny_call_builtin (R:=wants (fun r g=>r=.none∧∃h' tk,g={s with heap:=h',toks:=tk}∧P h') E) F.called_set.init.plain F.entry_set_init (check_set_init_1 D ?_)) fun l g b=>?_
   ·unfold Builtin.«set.__init__» noKeywords;generalize L:Builtin.Frozenset.updateFrom=a
    wp_walk
    subst L;exact i led _ (fun h' tk u=>wpAny_pure (uu rfl (ej h' tk rfl u)))
   ·cases l with
    |error e=>exact b
    |ok j=>
     cases j with
     |ret r=>
      (refine Qa (fun v m=>?_) b;clear b;subst v;refine pd (fun h' tk n u=>?_) m;clear m;subst n)
      repeat(any_goals(first|assumption|wp_step))
      exact h _ _ u
     |_=>exact b.elim
  |_=>exact o.elim
noncomputable def Qm(s:Shared)(l:List Nat)(m:Nat)(h':Heap):Prop:=(∀b o,s.heap.get? b=some o->h'.get? b=some o)∧∃es a t,h'.get? s.heap.objs.size=some {cls:=.type "set",data:=.set es a t}∧xf l m es t
theorem wu(led:Bool):xf [] 7 #[] (.fresh 0 0 led):=⟨rfl,rfl,rfl,rfl,rfl,List.Pairwise.nil,(fun a h=>nomatch h),by decide,by decide,by decide⟩
theorem wy(v:A.handled=none){vs:List Value}{h:Nat}{e:List Nat}(m:s.heap.get? a=some {cls:=.type "list",data:=.seq vs.toArray h})(w:∀i:Nat,(∀n,e[i]?=some n->∃t,vs[i]?=some (.int (n:Int) t))∧(e[i]?=none->vs[i]?=none))(x:∀n∈e,n≤7)(y:e.length≤4)(led:Bool){R:Unit->Shared->Prop}(q:∀h' tk,Qm s (e.foldl (fun acc n=>Be n acc) []) 7 h'->R () {s with heap:=h',toks:=tk}) : wpAny (model G.prog G.w) A (Builtin.Frozenset.updateFrom "set.__init__" s.heap.objs.size (.ref a)) R E {s with heap:=s.heap.push (Oc led)}:=by
 have c:(s.heap.push (Oc led)).get? a=some {cls:=.type "list",dict:=none,data:=.seq vs.toArray h,slots:=#[]}:=Heap.get?_push_of_some _ m;have p:=F.sub_list_set;have u:=F.sub_list_frozenset;unfold Builtin.Frozenset.updateFrom;generalize j:pyIter=z
 wp_walk
 subst j;refine wpAny_pyIter_list (((cc _ c rfl (Ks h rfl))):(s.heap.push (Oc led)).IsList a vs.toArray) ?_;refine wpAny_bind (wpAny_runValue ?_);have l:((s.heap.push (Oc led)).push {cls:=.type "list_iterator",data:=.fields #[.ref a,.int 0 0]}).IsList a vs.toArray:=(cc _ (Heap.get?_push_of_some _ c) rfl (Ks h rfl));refine uC v w x y ((Nat.ne_of_lt (Heap.lt_size ((Heap.get?_push_size _ rfl):(s.heap.push (Oc led)).get? s.heap.objs.size=some (Oc led)))):s.heap.objs.size≠(s.heap.push (Oc led)).objs.size) ((Nat.ne_of_lt (Heap.lt_size c)):a≠(s.heap.push (Oc led)).objs.size) ((Nat.ne_of_lt (Heap.lt_size m)):a≠s.heap.objs.size) (e.length - 0) 0 _ [] rfl (Nat.zero_le _) (by exact Nat.zero_le _) (cc _ (Heap.get?_push_size _ rfl) rfl rfl) l (Gm (#[]) 0 _ (Heap.get?_push_of_some _ ((Heap.get?_push_size _ rfl):(s.heap.push (Oc led)).get? s.heap.objs.size=some (Oc led))) (wu led)) fun h' tk f g=>?_;refine wpAny_pure (q h' tk ⟨fun b o hb=>f b o (Nat.ne_of_lt (Heap.lt_size hb)) (Nat.ne_of_lt (Nat.lt_trans (Heap.lt_size hb) (by simp))) (Heap.get?_push_of_some _ (Heap.get?_push_of_some _ hb)),?_⟩);exact g
end
theorem wH(a:Addr)(b:Nat):setRelay a b=(do
 let(es,_,t) ← setState a
 if SetTable.sizeAbove b > sizeLine then unsupported "set:memory"
 let(es,t) ← (do
  let some (t,order):=t.relaid (es.map (·.1)) b|unsupported "internal:set-table-without-room"
  let c:=order.filterMap (es[·]?)
  if c.size != es.size then unsupported "internal:set-table-lost-an-element"
  pure (c,t):Sem (Array (Int×Value)×SetTable))
 storeSet a es t):=rfl
theorem av(h:8≤n∧n≤15):SetTable.sizeAbove (n*2)=32:=(by decide:∀n,n<16->8≤n->SetTable.sizeAbove (n*2)=32) n (Nat.lt_succ_of_le h.2) h.1
theorem HI(finger moves:Nat)(led plain:Bool):SetTable.laid 31 finger moves led plain #[]=some ({mask:=31,place:=#[],dummies:=#[],finger,led,moves,plain},#[]):=by kernel_rfl
section
variable{E:Value->Shared->Prop}
theorem eA{l:List Nat}{es:Array (Int×Value)}{F:Nat}{t:SetTable}(H:s.heap.get? a=some {cls:=.type "set",data:=.set es F t})(e:xf l m es t)(K:(m=7∧l.length≤4)∨(m=31∧8≤l.length∧l.length≤15))(led:Bool){R:Unit->Shared->Prop}(q:∀h' tk,Qm s l m h'->R () {s with heap:=h',toks:=tk}) : wpAny (model G.prog G.w) A (Builtin.Frozenset.updateFrom "set.__init__" s.heap.objs.size (.ref a)) R E {s with heap:=s.heap.push (Oc led)}:=by
 have n:(s.heap.push (Oc led)).get? a=some {cls:=.type "set",data:=.set es F t}:=Heap.get?_push_of_some _ H;have g:(s.heap.push (Oc led)).get? s.heap.objs.size=some (Oc led):=Heap.get?_push_size _ rfl;have L:Shared.TypeIs {s with heap:=s.heap.push (Oc led)} (.ref a) "set":=⟨_,n,rfl⟩;have i:es.size=l.length:=by simpa using jf e.es
 have old:∀b o,s.heap.get? b=some o->b≠s.heap.objs.size:=fun b o hb=>Nat.ne_of_lt (Heap.lt_size hb);refine wpAny_bind (wpAny_bind (wpAny_isInstance L (b:=true) sub_set_self ?_));refine wpAny_pure ?_;simp only[↓reduceIte];refine wpAny_bind (wpAny_pure ?_);refine wpAny_bind (wpAny_setEpoch_of n rfl (Rf e) ?_);unfold setMerge;refine aa (if_neg (by simpa using((Nat.ne_of_gt (Heap.lt_size H)):s.heap.objs.size≠a))) ?_;refine wpAny_bind (wpAny_setState_of n rfl (Rf e) ?_);dsimp only;induction l with
 |nil=>
  have w:es.isEmpty=true:=by
   have:es.size=0:=by exact i
   simpa[Array.isEmpty]using this
  refine aa w ?_;simp only[↓reduceIte];have M:m=7:=by
   refine Or.elim (K) (fun h=>?_) (fun h=>?_)
   ·exact h.1
   ·exact nomatch h
  subst M;exact wpAny_pure (q _ s.toks ⟨fun b o hb=>Heap.get?_push_of_some _ hb,_,_,_,g,wu led⟩)
 |cons y N=>
  have w:es.isEmpty=false:=by
   have:es.size≠0:=by refine aa i ?_;exact Ub rfl
   simpa[Array.isEmpty]using this
  refine aa w ?_;simp only[Bool.false_eq_true,↓reduceIte];have j:∀c:SetTable,c.mask=m->c.place=#[]->c.dummies=#[]->c.road t=.slotForSlot:=fun c O P Q=>by unfold SetTable.road SetTable.fill;refine aa P (aa Q (aa O (aa e.Jo (aa e.dummies ?_))));simp
  have v:∀c:SetTable,c.finger=0->xf (y::N) m es {t with finger:=c.finger,led:=c.led&&t.led,moves:=c.moves,plain:=c.plain&&t.plain}:=fun c h=>⟨e.es,e.Jo,e.place,e.dummies,h,e.yh,e.small,e.Ac,e.Pd,e.zG⟩;rcases K with⟨rfl,z⟩|⟨rfl,z⟩
  ·refine wpAny_bind (wpAny_bind (wpAny_setState_of g rfl (by rfl:(SetTable.fresh 0 0 led).fits (#[]:Array (Int×Value)).size=true) ?_));have B:(SetTable.fresh 0 0 led).roomFor es.size=none:=by
    unfold SetTable.roomFor SetTable.fill SetTable.fresh;simp only[List.size_toArray,List.length_nil];exact aa (if_neg (by lia)) rfl
   refine aa B ?_;refine wpAny_pure ?_;refine wpAny_bind (wpAny_setState_of g rfl (by rfl:(SetTable.fresh 0 0 led).fits (#[]:Array (Int×Value)).size=true) ?_);refine aa (j (.fresh 0 0 led) rfl rfl rfl) ?_;refine wpAny_storeSet_of g rfl ?_ (by unfold sizeLine;lia);refine q _ s.toks ⟨fun b o hb=>(Heap.SameBut.update ..).extBut b o (old b o hb) (Heap.get?_push_of_some _ hb),es,0+1,_,?_,v (.fresh 0 0 led) rfl⟩;refine aa (Heap.get?_update_self _ g (by rw[putSet_of _ _ rfl];rfl)) (aa (putSet_of _ _ rfl) ?_);rfl
  ·refine wpAny_bind (wpAny_bind (wpAny_setState_of g rfl (by rfl:(SetTable.fresh 0 0 led).fits (#[]:Array (Int×Value)).size=true) ?_));have B:(SetTable.fresh 0 0 led).roomFor es.size=some (es.size*2):=by
    unfold SetTable.roomFor SetTable.fill SetTable.fresh;simp only[List.size_toArray,List.length_nil];exact aa (if_pos (by lia)) (aa (Nat.zero_add _) rfl)
   refine aa B ?_;refine wpAny_bind (wpAny_setState_of g rfl (by rfl:(SetTable.fresh 0 0 led).fits (#[]:Array (Int×Value)).size=true) ?_);dsimp only;have p:(SetTable.fresh 0 0 led).relaid ((#[]:Array (Int×Value)).map (·.1)) (es.size*2)=some ({mask:=31,place:=#[],dummies:=#[],finger:=0,led:=led,moves:=(SetTable.fresh 0 0 led).movedTo 31,plain:=true},#[]):=by unfold SetTable.relaid;refine aa ((av (by exact i▸z)):SetTable.sizeAbove (es.size*2)=32) (aa (show((#[]:Array (Int×Value)).map (·.1))=#[] by simp) ?_);exact HI _ _ _ _
   refine aa ((av (by exact i▸z)):SetTable.sizeAbove (es.size*2)=32) ?_;refine aa p ?_;refine wpAny_bind ?_;refine wpAny_pure ?_;refine wpAny_storeSet_of g rfl ?_ (by exact Pa rfl);generalize f:({mask:=31,place:=#[],dummies:=#[],finger:=0,led:=led,moves:=(SetTable.fresh 0 0 led).movedTo 31,plain:=true}:SetTable)=c;generalize D:(#[]:Array Nat).filterMap (fun x=>(#[]:Array (Int×Value))[x]?)=T;refine aa (by rw[← D];rfl:T=#[]) ?_;have u:((s.heap.push (Oc led)).update s.heap.objs.size (Obj.putSet #[] c)).get? s.heap.objs.size=some {cls:=.type "set",data:=.set #[] 1 c}:=by refine aa (Heap.get?_update_self _ g (by rw[putSet_of _ _ rfl];rfl)) (aa (putSet_of _ _ rfl) ?_);rfl
   refine wpAny_bind (wpAny_setState_of u rfl (by refine Cb f ?_;rfl:c.fits (#[]:Array (Int×Value)).size=true) ?_);refine aa (j c (by rw[← f]) (by rw[← f]) (by rw[← f])) ?_;refine wpAny_storeSet_of u rfl ?_ (by unfold sizeLine;lia);refine q _ s.toks ⟨fun b o hb=>(Heap.SameBut.update ..).extBut b o (old b o hb) ((Heap.SameBut.update ..).extBut b o (old b o hb) (Heap.get?_push_of_some _ hb)),es,1+1,_,?_,v c (by exact Cb f rfl)⟩;exact aa (Heap.get?_update_self _ u (by rw[putSet_of _ _ rfl];rfl)) (aa (putSet_of _ _ rfl) rfl)
theorem vC(K:G.Ok){e:Mine.E}(L:fc G d e):fc G d (.Pk e):=Bc (fun k C x I U w=>by
 apply sg w;intro p a pos M N O;refine⟨rfl,fun Q h=>NB K (id:="set") L M N O (by decide) (by kernel_rfl) (by decide) h fun{A T env cs s X v U} W hE R hv b=>?_⟩;have f:∀{l:List Nat}{m:Nat},Md U (.set l m) Q->∀h' tk,Qm s l m h'->Vb G T d env cs I VR Q (.ref s.heap.objs.size) {s with heap:=h',toks:=tk}:=by
  (intro l m Y h' tk g;(refine Qa (fun i j=>?_) g;clear g;refine qh (fun es H t o y=>?_) j;clear j))
  have z:U s.heap.objs.size=none:=by
   induction e:U s.heap.objs.size with
   |none=>rfl
   |some m'=>refine Aa (fun dx u=>?_)<|R.M.mem _ _ e;rw[R.M.Ya (tf _)]at u;injection u
  refine Qa (fun R2 x2=>?_)<|(R.keep tk i).Uv s.heap.objs.size (.mo (.set l m) 0) R.hz (R.M.Ya (tf _)) (Nat.ne_of_gt R.F.lt) ⟨es,H,t,o,y⟩
  exact Vb.xh (X:=.ref s.heap.objs.size) x2 R2 (by exact rfl) (Y _ z)
 rcases b with b|b
 ·refine Ig (fun l ns e B q b=>?_) b
  ·rw[e]at hv
   (refine Qa (fun h4 h7=>?_) q;clear q)
   (refine ve (fun a vs n D o r=>?_)<|Cc R.M (X:=.fl l) hv rfl;subst D)
   exact Io (P:=Qm s (ns.foldl (fun acc n=>Be n acc) []) 7) (fun led R' c=>wy (A:=A.in1.in1) W.1 o (Ju B r) h7 h4 led c) (f b)
 ·refine Df (fun a l m e hl w b=>?_) b
  ·rw[e]at hv;refine aa (show v=.ref a from hv) ?_;refine Aa (fun dx u=>?_)<|R.M.mem _ _ hl
   refine qh (fun es H t o y=>?_)<|(R.M.gc _ _ u).2.2
   exact Io (P:=Qm s l m) (fun led R' c=>eA (A:=A.in1.in1) o y w led c) (f b)) (fun F F F F=>by rw[TJ,TJ])
end
theorem EG:fc G d (.var i):=Bc (fun k C x I U a=>by
 apply gf a;intro n p a
 ·exact⟨rfl,fun Q h=>JH a h⟩) (fun b b b b=>by rw[VH,VH])
theorem LG{i:Int}:fc G d (.int i):=Bc (fun k C x I U b=>by
 apply gF b
 ·intro k p;exact⟨rfl,fun Q h=>QG h⟩
 ·intro j k p q e;subst e;exact⟨rfl,fun Q h=>SH h⟩) (fun a a a a=>by rw[VK,VK])
theorem vH{w:Wd}:fc G d (.str w):=Bc (fun k C x I U a=>by
 apply gh a;intro c k p a;apply Wz a;intro s a
 ·obtain rfl:=Rh a;exact⟨rfl,fun Q h=>MH h⟩) (fun b b b b=>by rw[gL,gL])
theorem rJ:fc G d .tt:=Bc (fun k C x I U a=>by
 apply gh a;intro c k p a;apply Qr a;intro b a
 ·subst a;exact⟨rfl,fun Q h=>px h⟩) (fun e e e e=>by rw[ZK,ZK])
theorem rI:fc G d .ff:=Bc (fun k C x I U a=>by
 apply gh a;intro c k p a;apply Qr a;intro b a
 ·induction b
  ·exact⟨rfl,fun Q h=>px h⟩
  ·injection a) (fun e e e e=>by rw[UK,UK])
theorem SD:fc G d .none:=Bc (fun k C x I U a=>by
 apply gh a;intro c k p a;apply zz a
 ·exact⟨rfl,fun Q h=>CE h⟩) (fun b b b b=>by rw[cL,cL])
theorem zF(c:G.Ok){g:Gi}:fc G d (.Tj g):=Bc (fun k C x I U a=>by
 apply gf a;intro n p a
 ·exact⟨rfl,fun Q h=>BD c a h⟩) (fun b b b b=>by rw[jL,jL])
theorem lG(H:∀e∈es,fc G d e):fc G d (.Ba es):=Bc (fun k C x I U a=>by
 apply Zl a;intro xs m p a
 ·exact⟨rfl,fun Q h=>LH H a h⟩) (fun b b b b=>by rw[ax,ax])
theorem vG(H:∀e∈es,fc G d e):fc G d (.xb Eh es):=Bc (fun k C x I U c=>by
 apply Fz c;intro xs p b
 ·refine⟨rfl,fun Q h=>?_⟩;induction Eh
  ·exact uF H b h
  ·exact qD H b h) (fun a a a a=>by induction Eh<;>rfl)
theorem YC(f:G.Ok){a:At}(H:fc G d e):fc G d (.ma e a):=Bc (fun k C x I U b=>by
 apply yn b;intro v n p b
 ·exact⟨rfl,fun Q h=>oD f H b h⟩) (fun c c c c=>by rw[RJ,RJ])
theorem sG{i:E}(H:fc G d e)(c:fc G d i):fc G d (.Ma e i):=Bc (fun k C x I U a=>by
 apply Lm a;intro v y p a
 ·exact⟨rfl,fun Q h=>wG H c a h⟩) (fun b b b b=>by rw[OJ,OJ])
theorem CA{i:E}(H:fc G d e)(c:fc G d i):fc G d (.wh e i):=Bc (fun k C x I U a=>by
 apply Vy a;intro v l q p a
 ·exact⟨rfl,fun Q h=>RA H c a h⟩) (fun b b b b=>by rw[iI,iI])
theorem lH{i:E}(H:fc G d e)(c:fc G d i):fc G d (.gr e i):=Bc (fun k C x I U a=>by
 apply OD a;intro v l q p a
 ·exact⟨rfl,fun Q h=>xG H c a h⟩) (fun b b b b=>by rw[oJ,oJ])
theorem mG{f:Operator}{a b:E}(g:fc G d a)(i:fc G d b):fc G d (.Fd f a b):=Bc (fun k C x I U c=>by
 apply Gu c;intro l o r p c
 ·exact⟨rfl,fun Q h=>TG g i c h⟩) (fun e e e e=>by rw[cC,cC])
theorem iH{a b:E}(f:fc G d a)(g:fc G d b):fc G d (.rr a b):=Bc (fun k C x I U c=>by
 apply Gu c;intro l o r p c
 ·exact⟨rfl,fun Q h=>zH f g c h⟩) (fun e e e e=>by rw[RH,RH])
abbrev Fp (G:Og) (d:List Str):Prop:=∀a b:E,fc G d a->fc G d b->fc G d (.Th a b)
mutual
theorem Mc(f:G.Ok)(g:Fp G d):∀e:E,fc G d e
 | .var _=>EG
 | .int _=>LG
 | .str _=>vH
 | .tt=>rJ
 | .ff=>rI
 | .none=>SD
 | .Tj _=>zF f
 | .Ba es=>lG (xo f g es)
 | .xb _ es=>vG (xo f g es)
 | .dict es=>PE (xo f g es)
 | .ma e _=>YC f (Mc f g e)
 | .Ma e i=>sG (Mc f g e) (Mc f g i)
 | .wh e i=>CA (Mc f g e) (Mc f g i)
 | .gr e i=>lH (Mc f g e) (Mc f g i)
 | .Fd _ a b=>mG (Mc f g a) (Mc f g b)
 | .ta _ a b=>HG f (Mc f g a) (Mc f g b)
 | .Pg _ _ a b c=>oF f (Mc f g a) (Mc f g b) (Mc f g c)
 | .and es=>aD (xo f g es)
 | .or es=>aH (xo f g es)
 | .not e=>JG (Mc f g e)
 | .ite c a b=>GH (Mc f g c) (Mc f g a) (Mc f g b)
 | .call _ es=>CD f (xo f g es)
 | .new _ es=>nG f (xo f g es)
 | .Pd e=>RG f (Mc f g e)
 | .mf e=>Kz f (Mc f g e)
 | .Pk e=>vC f (Mc f g e)
 | .xk e=>CB f (Mc f g e)
 | .Nj e=>ny f (Mc f g e)
 | .all e=>EH f (Mc f g e)
 | .max a b=>nH f (Mc f g a) (Mc f g b)
 | .Th a b=>g a b (Mc f g a) (Mc f g b)
 | .rr a b=>iH (Mc f g a) (Mc f g b)
 | .append a b=>Fy (Mc f g a) (Mc f g b)
 | .Ez a=>BG (Mc f g a)
 | .Sm a b=>zC (Mc f g a) (Mc f g b)
 | .Yl a b=>JB (Mc f g a) (Mc f g b)
 | .Bf a b=>VD (Mc f g a) (Mc f g b)
 | .Su a b c=>uD f (Mc f g a) (Mc f g b) (Mc f g c)
 | .Ay _ e _=>gH f (Mc f g e)
 | .comp _ _ it elt=>QD f (Ku f g it) (Mc f g elt)
 | .Jf _ _ it c elt=>uz f (Ku f g it) (Mc f g c) (Mc f g elt)
 | .Eh e=>CG (Mc f g e)
theorem xo(a:G.Ok)(b:Fp G d):∀es:List E,∀e∈es,fc G d e
 | [],_,h=>nomatch h
 |e::es,x,h=>(pg h).elim (fun q=>q▸Mc a b e) (xo a b es x)
theorem Ku(c:G.Ok)(f:Fp G d):∀it:It,qI G d it
 | .seq e,x,h=>by have:fc G d e:=Mc c f e;rcases h with h|h|h|⟨b,h⟩|⟨b,h⟩<;>(first|(injection h;done)|cases h);exact this
 | .fj e,x,h=>by have:fc G d e:=Mc c f e;rcases h with h|h|h|⟨b,h⟩|⟨b,h⟩<;>(first|(injection h;done)|cases h);exact this
 | .range e,x,h=>by have:fc G d e:=Mc c f e;rcases h with h|h|h|⟨b,h⟩|⟨b,h⟩<;>(first|(injection h;done)|cases h);exact this
 | .zip a b,x,h=>by
  have g:fc G d a:=Mc c f a;have i:fc G d b:=Mc c f b;rcases h with h|h|h|⟨b,h⟩|⟨b,h⟩<;>(first|(injection h;done)|cases h)
  ·exact g
  ·exact i
end
mutual
theorem yK(f:G.Ok)(g:Fp G d):∀s:S,zy G d s
 | .Wc _ e=>mH f ⟨Mc f g e,fun h h it elt h=>⟨Ku f g it,Mc f g elt⟩,fun h h it c elt h=>⟨Ku f g it,Mc f g c,Mc f g elt⟩⟩
 | .Zf o _ e=>WD f (Mc f g o) (Mc f g e)
 | .Ph o i e=>tD f (Mc f g o) (Mc f g i) (Mc f g e)
 | .expr e=>qF (Mc f g e)
 | .ret e=>pG (Mc f g e)
 | .Pc c a b=>AI (Mc f g c) (zj (fq f g a)) (zj (fq f g b))
 | .Ad _ it body=>KG f (Ku f g it) (zj (fq f g body))
 | .bh c body=>TB (Mc f g c) (zj (fq f g body))
 | .Nc=>xA
 | .Hw body=>qH (zj (fq f g body))
theorem fq(a:G.Ok)(b:Fp G d):∀ss:List S,∀s∈ss,zy G d s
 | [],_,h=>nomatch h
 |s::ss,x,h=>(pg h).elim (fun q=>q▸yK a b s) (fq a b ss x)
end
noncomputable def Ss(a:Value)(b:Bool)(TI TO:Addr):Obj:={cls:=.type "zip",dict:=none,data:=.fields #[a,.bool b,.bool false,.ref TI,.ref TO],slots:=#[]}
structure ZS(h:Heap)(z TI TO i1 i2 l1 l2:Addr)(xs ys:Array Value)(k:Nat):Prop where
 z:(IsZip h z TI TO .none∧∃a b,IsPair h TO a b)∨∃(T:Addr)(b:Bool)(o:Obj),h.get? z=some (Ss (rawInt T) b TI TO)∧h.get? T=some o
 ti:IsPair h TI (.ref i1) (.ref i2)
 i1:h.IsListIter i1 l1 k
 i2:h.IsListIter i2 l2 k
 l1:h.IsList l1 xs
 l2:h.IsList l2 ys
section
variable{prog:Program}{w:World}{E:Value->Shared->Prop}
theorem Zu{o:Obj}{Q:Option Obj->Shared->Prop}(c:s.heap.get? a=some o)(h:Q (some o) s):wpAny M A (loadIfAlive a) Q E s:=fun e p b=>by
 unfold loadIfAlive
 (rewrite[Sem.wp_loadIfAlive];refine aa c ?_)
 exact wpAny_pure h e p b
theorem vx{T:Addr}{f:Bool}{K:Bool->Shared->Prop}(g:s.heap.get? z=some (Ss (rawInt T) f TI TO))(h:∀a,a.get? z=some (Ss (rawInt T) true TI TO)->Heap.SameBut z s.heap a->K false {s with heap:=a}):wpAny (model prog w) A (do
 let b ← field (.ref z) 1
 if(b != .bool true)=true then do
  setField (.ref z) 1 (.bool true)
  pure false
 else pure false:Sem Bool) K E s:=by
 refine wpAny_bind (wpAny_field g rfl (x:=.bool f) rfl ?_);induction f with
 |true=>exact wpAny_pure (h s.heap g (Heap.SameBut.refl _ _))
 |false=>exact wpAny_bind (wpAny_setField_rec g (by exact Pa rfl) fun a c e=>wpAny_pure (h a c e))
theorem xy{l1 l2 T:Addr}{R:Bool}{p q:Nat}{L:Array Value}{x y:Value}{M:Obj}{Q:Value->Shared->Prop}(D:ZipApart z TI TO i1 i2 l1 l2)(n:s.heap.get? z=some (Ss (rawInt T) R TI TO))(W:s.heap.get? T=some M)(t:IsPair s.heap TI (.ref i1) (.ref i2))(X:s.heap.IsListIter i1 l1 p)(Y:s.heap.IsListIter i2 l2 q)(u:s.heap.IsList l1 xs)(B:s.heap.IsList l2 L)(hx:xs[p]?=some x)(hy:L[q]?=some y)(hQ:∀h',h'.get? z=some (Ss (rawInt T) true TI TO)->h'.IsListIter i1 l1 (p+1)->h'.IsListIter i2 l2 (q+1)->IsPair h' s.heap.objs.size x y-> (∀c o,c≠z->c≠i1->c≠i2->s.heap.get? c=some o->h'.get? c=some o)->Q (.ref s.heap.objs.size) {s with heap:=h'}) : wpAny (model prog w) A (Builtin.«zip.__next__» ⟨[.ref z],[]⟩) (fun F s'=>∃v,F=.done (.ret v)∧Q v s') E s:=by refine(?_:wpAny _ _ (field (.ref z) 2 >>= _) _ _ _);refine wpAny_bind (wpAny_field n rfl (x:=.bool false) rfl ?_);refine wpAny_bind (wpAny_field n rfl (x:=.ref TI) rfl ?_);refine wpAny_bind (wpAny_seqItems t rfl ?_);refine wpAny_bind ?_;refine wpAny_bind (wpAny_field n rfl (x:=rawInt T) rfl ?_);refine wpAny_bind (Zu (o:=M) (by exact W) ?_);simp only[Option.isNone_some,Bool.false_eq_true,if_false];refine vx n fun N i b=>?_;simp only[Bool.false_eq_true,if_false];refine Cb Array.forIn_toList ?_;simp only[List.forIn_cons,List.forIn_nil];refine wpAny_bind (wpAny_bind (wpAny_bind (wpAny_holding ?_)));refine wpAny_bind (wpAny_nextOf_list_item (X.extBut b.extBut D.i1z) (u.extBut b.extBut D.l1z) hx fun O j f=>wpAny_pure ?_);refine wpAny_pure ?_;refine wpAny_bind (wpAny_bind (wpAny_holding ?_));refine wpAny_bind (wpAny_nextOf_list_item ((Y.extBut b.extBut D.i2z).extBut f.extBut D.i12.symm) ((B.extBut b.extBut D.l2z).extBut f.extBut D.l2i1) hy fun a l g=>wpAny_pure ?_);refine wpAny_pure (wpAny_pure ?_);refine wpAny_bind (wpAny_newTuple ?_ (by refine(?_:2≤sizeLine);decide));have m:∀c o,c≠z->c≠i1->c≠i2->s.heap.get? c=some o->a.get? c=some o:=fun c o G H K e=>g.extBut _ _ K (f.extBut _ _ H (b.extBut _ _ G e));have h:∀c o,a.get? c=some o->(a.push {cls:=.type "tuple",data:=.seq #[x,y]}).get? c=some o:=fun c o e=>Heap.get?_push_of_some _ e;refine wpAny_pure (pb _ rfl ?_);refine(?_:Q (.ref a.objs.size) {s with heap:=a.push {cls:=.type "tuple",data:=.seq #[x,y]}});have P:IsPair (a.push {cls:=.type "tuple",data:=.seq #[x,y]}) a.objs.size x y:=Heap.get?_push_size _ rfl;rw[(by exact aa g.1 (aa f.1 (aa b.1 rfl)):a.objs.size=s.heap.objs.size)]at P ⊢;exact hQ _ (h _ _ ((g.extBut _ _ D.i2z.symm (f.extBut _ _ D.i1z.symm i)):a.get? z=some (Ss (rawInt T) true TI TO))) ((j.extBut g.extBut D.i12).at (h i1)) (l.at (h i2)) P fun c o G H K e=>h _ _ (m c o G H K e)
theorem Nq{l1 l2 T:Addr}{p:Bool}{l:Nat}{m:Obj}{Q:Fin->Shared->Prop}(q:A.handled=none)(D:ZipApart z TI TO i1 i2 l1 l2)(g:s.heap.get? z=some (Ss (rawInt T) p TI TO))(t:s.heap.get? T=some m)(h:IsPair s.heap TI (.ref i1) (.ref i2))(u:s.heap.IsListIter i1 l1 l)(i:s.heap.IsList l1 xs)(v:xs[l]?=none)(y:∀h' e,(∀c o,c≠z->c≠i1->s.heap.get? c=some o->h'.get? c=some o)->(∃o,h'.get? e=some o∧o.cls=.type "StopIteration")->E (.ref e) {s with heap:=h'}) : wpAny (model prog w) A (Builtin.«zip.__next__» ⟨[.ref z],[]⟩) Q E s:=by refine(?_:wpAny _ _ (field (.ref z) 2 >>= _) _ _ _);refine wpAny_bind (wpAny_field g rfl (x:=.bool false) rfl ?_);refine wpAny_bind (wpAny_field g rfl (x:=.ref TI) rfl ?_);refine wpAny_bind (wpAny_seqItems h rfl ?_);refine wpAny_bind ?_;refine wpAny_bind (wpAny_field g rfl (x:=rawInt T) rfl ?_);refine wpAny_bind (Zu (o:=m) (by exact t) ?_);simp only[Option.isNone_some,Bool.false_eq_true,if_false];refine vx g fun n j a=>?_;simp only[Bool.false_eq_true,if_false];refine Cb Array.forIn_toList ?_;simp only[List.forIn_cons,List.forIn_nil];refine wpAny_bind (wpAny_bind (wpAny_bind (wpAny_holding ?_)));refine wpAny_bind (wpAny_nextOf_list_end q (u.extBut a.extBut D.i1z) (i.extBut a.extBut D.l1z) v fun f e b B=>?_);exact y f e (fun c o F G x=>b _ _ G (a.extBut _ _ F x)) B
theorem wD{l1 l2:Addr}{l:Array Value}{x y:Value}{Q:Option Value->Shared->Prop}(D:ZipApart z TI TO i1 i2 l1 l2)(S:ZS s.heap z TI TO i1 i2 l1 l2 xs l k)(t:xs[k]?=some x)(u:l[k]?=some y)(v:∀h' p,ZS h' z TI TO i1 i2 l1 l2 xs l (k+1)->IsPair h' p x y->(∀c o,c≠z->c≠TO->c≠i1->c≠i2->s.heap.get? c=some o->h'.get? c=some o)->Q (some (.ref p)) {s with heap:=h'}) : wpAny (model prog w) A (pyNext (.ref z)) Q E s:=by
 rcases S.z with⟨h,a,b,m⟩|⟨T,X,o,h,B⟩
 ·refine wpAny_pyNext_zip_item D h S.ti m S.i1 S.i2 S.l1 S.l2 t u fun h' i j g n G Y f=>?_;exact v h' _ ⟨.inr (Gm _ false _ i G),f _ _ D.TIz D.TITO D.TIi1 D.TIi2 S.ti,g,n,S.l1.at (fun o e=>f _ o D.l1z D.l1TO D.l1i1 D.l1i2 e),S.l2.at (fun o e=>f _ o D.l2z D.l2TO D.l2i1 D.l2i2 e)⟩ G f
 ·have H:s.TypeIs (.ref z) "zip":=(pb _ h rfl)
  refine wpAny_bind (wpAny_attempt (wpAny_callSpecial?_slot (name:=Str.ofString "__next__") H F.slot_zip_next
   (wpAny_call_entry F.slot_zip_next H F.entry_zip_next
    (xy D h B S.ti S.i1 S.i2 S.l1 S.l2 t u fun h' i j g n f=>wpAny_pure ?_) (F.args_zip_next_1 _))))
  have K:∃o,h'.get? T=some o:=by
   by_cases L:T=z
   ·refine aa L ?_;exact⟨_,i⟩
   by_cases M:T=i1
   ·refine aa M ?_;(refine ya (fun o e N=>?_) j;clear j);exact⟨o,e⟩
   by_cases O:T=i2
   ·refine aa O ?_;(refine ya (fun o e N=>?_) g;clear g);exact⟨o,e⟩
   exact⟨o,f T o L M O B⟩
  (refine Aa (fun o' q=>?_) K;clear K)
  exact v h' _ ⟨.inr (Gm _ true _ i q),f _ _ D.TIz D.TIi1 D.TIi2 S.ti,j,g,S.l1.at (fun o e=>f _ o D.l1z D.l1i1 D.l1i2 e),S.l2.at (fun o e=>f _ o D.l2z D.l2i1 D.l2i2 e)⟩ n fun c o P N R W e=>f c o P R W e
theorem YG{l1 l2:Addr}{p:Array Value}{Q:Option Value->Shared->Prop}(i:A.handled=none)(D:ZipApart z TI TO i1 i2 l1 l2)(S:ZS s.heap z TI TO i1 i2 l1 l2 xs p k)(j:xs[k]?=none)(l:∀h',(∀c o,c≠z->c≠TO->c≠i1->c≠i2->s.heap.get? c=some o->h'.get? c=some o)->Q none {s with heap:=h'}) : wpAny (model prog w) A (pyNext (.ref z)) Q E s:=by
 rcases S.z with⟨f,a,b,g⟩|⟨T,y,o,f,h⟩
 ·exact wpAny_pyNext_zip_end i D f S.ti g S.i1 S.i2 S.l1 S.l2 (.inl j) l
 ·have m:s.TypeIs (.ref z) "zip":=(pb _ f rfl)
  refine wpAny_bind (wpAny_attempt (wpAny_callSpecial?_slot (name:=Str.ofString "__next__") m F.slot_zip_next
   (wpAny_call_entry F.slot_zip_next m F.entry_zip_next (Nq i D f h S.ti S.i1 S.l1 j fun h' e q n=>?_) (F.args_zip_next_1 _))))
  (refine ya (fun o h t=>?_) n;clear n)
  refine wpAny_bind (wpAny_isInstance (T:="StopIteration") (b:=true) (pb o h t) isSubtype_stop ?_);exact wpAny_pure (l _ fun c o u v x v e=>q c o u x e)
end
theorem Nk:entryFor table "dict.update.loop" = some Builtin.«dict.update.loop»:=entryFor_of_tree (by kernel_rfl)
section
variable{prog:Program}{w:World}{E:Value->Shared->Prop}
theorem Iq{p:Addr}{x y:Value}{Q:List Value->Shared->Prop}(a:IsPair s.heap p x y)(h:Q [x,y] s):wpAny (model prog w) A (Builtin.Dict.pairItems (.ref p)) Q E s:=by have b:s.TypeIs (.ref p) "tuple":=(pb _ a rfl);refine wpAny_bind (wpAny_typeOf b ?_);refine wpAny_bind (wpAny_seqItems a rfl ?_);exact wpAny_pure h
theorem rk(args:Args):(Code.builtin "dict.update.loop" args).quiet=true:=Code.quiet_builtin _ (by decide +kernel)
noncomputable def BC(T:Tm)(xs a:Array Value)(k:Nat)(ps:List (Int×V)):Prop:=xs.size=k+ps.length∧∀j p,ps[j]?=some p->∃t v,xs[k+j]?=some (.int p.1 t)∧a[k+j]?=some v∧VR T p.2 v
theorem bB(hh:A.handled=none){l1 l2 f:Addr}(D:ZipApart z TI TO i1 i2 l1 l2)(F:z≠f)(u:TO≠f)(X:i1≠f)(Y:i2≠f)(ba:TI≠f)(ea:l1≠f)(fa:l2≠f){ys:Array Value}:∀(ps:List (Int×V))(k:Nat)(acc:List (Int×V))(cacc:List (Int×Value))(s:Shared)(i:Int)(t:Tok)(R:Value->Shared->Prop), BC T xs ys k ps->acc.length+ps.length≤100000->Oo T acc cacc->s.heap.DictOf (intKind prog w) f cacc->ZS s.heap z TI TO i1 i2 l1 l2 xs ys k-> (∀h' tk cvs,h'.DictOf (intKind prog w) f cvs->Oo T (ps.foldl (fun acc p=>Ue acc p.1 p.2) acc) cvs->(∀c o,c≠z->c≠TO->c≠i1->c≠i2->c≠f->s.heap.get? c=some o->h'.get? c=some o)->R .none {s with heap:=h',toks:=tk})-> codeAny (model prog w) A (.builtin "dict.update.loop" ⟨[.ref f,.ref z,.int i t,.none],[]⟩) (wants R E) s:=by
 intro ps;induction ps with
 |nil=>
  intro k acc cacc s i t R M hl m G S hR;refine codeAny_builtin Nk ?_;refine wpAny_bind (YG hh D S (by(rewrite[Array.getElem?_eq_none_iff];refine aa M.1 ?_);simp) fun h' g=>?_);refine wpAny_bind (wpAny_pure ?_);exact wpAny_pure (hR h' s.toks cacc (by
   (refine qh (fun o es ep ho r=>?_) G;clear G)
   exact(Gm o es ep (g _ _ F.symm u.symm X.symm Y.symm ho) r)) m fun c o N O P Q ζ e=>g c o N O P Q e)
 |cons p ps ih=>
  intro k acc cacc s i t R M hl m G S hR
  (refine Qa (fun H n=>?_) M;clear M)
  refine Cd (fun t0 v hx hy hv=>?_)<|n 0 p rfl
  refine codeAny_builtin Nk ?_;refine wpAny_bind (wD D S hx hy fun h' q B hq g=>?_);have ka:h'.DictOf (intKind prog w) f cacc:=by
   (refine qh (fun o es ep ho r=>?_) G;clear G)
   exact(Gm o es ep (g _ _ F.symm u.symm X.symm Y.symm ho) r)
  have sa:=Ds m;simp only[List.length_cons]at hl H;refine wpAny_bind (wpAny_holding ?_);refine wpAny_bind (wpAny_tryCatch (Iq hq ?_));refine wpAny_holding (wpAny_dictSet_pairs (intKind_is prog w p.1 t0) ka (fun h2 x K=>?_) (by unfold sizeLine;lia));refine wpAny_pure ⟨rk _,?_⟩;have ua:(Ue acc p.1 p.2).length≤acc.length+1:=by unfold Ue;split<;>simp
  have S2:ZS h2 z TI TO i1 i2 l1 l2 xs ys (k+1):=by
   have l:∀c o,c≠f->h'.get? c=some o->h2.get? c=some o:=fun c o e h=>K.extBut _ _ e h;refine⟨?_,l _ _ ba B.ti,B.i1.at (fun o e=>l _ o X e),B.i2.at (fun o e=>l _ o Y e),B.l1.at (fun o e=>l _ o ea e),B.l2.at (fun o e=>l _ o fa e)⟩;rcases B.z with⟨W,a,b,g2⟩|⟨T,bb,o,W,g2⟩
   ·exact .inl (uu (l _ _ F W) (Aq a b (l _ _ u g2)))
   ·refine .inr ?_;by_cases e:T=f
    ·subst e
     (refine qh (fun o' ζ ζ la ζ=>?_) x;clear x)
     exact(Gm _ bb o' (l _ _ F W) la)
    ·exact(Gm T bb o (l _ _ F W) (l _ _ e g2))
  refine ih (k+1) (Ue acc p.1 p.2) _ _ _ _ R ⟨by refine aa H ?_;exact(Nat.succ_add _ _).symm,fun j p' pa=>?_⟩ (by lia) (Fs (i:=p.1) hv m) x S2 fun h3 tk cvs ra L y=>?_
  ·refine Cd (fun t' v' e1 e2 e3=>?_)<|n (j+1) p' (by exact pa)
   exact(qf t' v' (by refine aa (show k+1+j=k+(j+1) by exact Nat.add_right_comm _ _ _) ?_;exact e1) (by refine aa (show k+1+j=k+(j+1) by exact Nat.add_right_comm _ _ _) ?_;exact e2) e3)
  ·exact hR h3 tk cvs ra L fun c o N O P Q c5 e=>y c o N O P Q c5 (K.extBut _ _ c5 (g c o N O P Q e))
theorem ir(hh:A.handled=none){l1 l2:Addr}(D:ZipApart z TI TO i1 i2 l1 l2){K:Array Value}{ps:List (Int×V)}{Q:Value->Shared->Prop}(u:∃o,s.heap.get? TO=some o)(ha:BC T xs K 0 ps)(hl:ps.length≤100000)(S:ZS s.heap z TI TO i1 i2 l1 l2 xs K 0)(h:∀h' tk cvs,h'.DictOf (intKind prog w) s.heap.objs.size cvs->Oo T (Of ps) cvs->(∀c o,c≠z->c≠TO->c≠i1->c≠i2->s.heap.get? c=some o->h'.get? c=some o)->Q (.ref s.heap.objs.size) {s with heap:=h',toks:=tk}) : wpAny (model prog w) A (call (.type "dict") [.ref z]) Q E s:=by
 refine callType_codes (Q₁:=fun obj m=>obj=.ref s.heap.objs.size∧m={s with heap:=s.heap.push {cls:=.type "dict",data:=.dict #[]}}) F.kt_called_dict (F.kt_typeCall_dict_1 _) F.entry_dict_init (kt_code_dict_new _ ⟨rfl,rfl⟩) ?_
 (intro obj m v;(refine Qa (fun L M=>?_) v;clear v;refine aa L ?_;refine aa M ?_))
 have f:(s.heap.push {cls:=.type "dict",data:=.dict #[]}).DictOf (intKind prog w) s.heap.objs.size []:=Heap.DictOf.new s.heap;have zd:∃N b,s.heap.get? z=some (Ss N b TI TO):=by
  rcases S.z with⟨O,_⟩|⟨_,x,_,O,_⟩
  ·exact(Aq _ _ O)
  ·exact(Aq _ x O)
 refine(yc f.typeIs (F.args_dict_init_2 _ _) ?_)
 (refine Lk (fun N x p=>?_) zd;clear zd)
 have y:(s.heap.push {cls:=.type "dict",data:=.dict #[]}).get? z=some (Ss N x TI TO):=Heap.get?_push_of_some _ p;have P:Shared.TypeIs {s with heap:=s.heap.push {cls:=.type "dict",data:=.dict #[]}} (.ref z) "zip":=(pb _ y rfl);refine wpAny_bind ?_;refine wpAny_bind (wpAny_notOrdered_dict f.typeIs ?_);refine wpAny_pure ?_;refine wpAny_bind (wpAny_typeOf P ?_);refine wpAny_bind (PA y hh fun H R g=>?_);refine wpAny_bind (wpAny_rule ?_);have n:∀{c:Addr}{o:Obj},s.heap.get? c=some o->c≠s.heap.objs.size:=fun h=>Nat.ne_of_lt (Heap.lt_size h);have j:∀c o,s.heap.get? c=some o->H.get? c=some o:=fun c o e=>g c o (Heap.get?_push_of_some _ e);have d2:H.DictOf (intKind prog w) s.heap.objs.size []:=by
  (refine qh (fun o es ep ho r=>?_) f;clear f)
  exact(Gm o es ep (g _ _ ho) r)
 have S2:ZS H z TI TO i1 i2 l1 l2 xs K 0:=⟨by
  rcases S.z with⟨W,a,b,X⟩|⟨T,x,o,W,X⟩
  ·exact .inl (uu (j _ _ W) (Aq a b (j _ _ X)))
  ·exact .inr (Gm T x o (j _ _ W) (j _ _ X)),j _ _ S.ti,S.i1.at (j i1),S.i2.at (j i2),S.l1.at (j l1),S.l2.at (j l2)⟩
 have q:Shared.TypeIs {s with heap:=H,toks:=R} (.ref z) "zip":=(pb _ (j _ _ p) rfl);have B:∀{a:Addr}{l:Array Value},s.heap.IsList a l->∃o,s.heap.get? a=some o:=fun⟨o,e,_⟩=>⟨o,e⟩;have G:∀{a b:Addr}{i:Nat},s.heap.IsListIter a b i->∃o,s.heap.get? a=some o:=fun⟨o,e,_⟩=>⟨o,e⟩;have Y:(∃o,s.heap.get? TO=some o):=by exact u
 refine wpAny_bind (wpAny_pyIter_slot q F.slot_zip_iter (wpAny_call_entry F.slot_zip_iter q F.entry_zip_iter ?_ (F.args_zip_iter_1 _)));refine wpAny_pure (pb _ rfl (qf "zip" _ q F.slot_zip_next.lookup ?_));refine wpAny_pure ⟨rk _,?_⟩;refine bB (A:=A.in1) hh D (n p) (n Y.choose_spec) (n (G S.i1).choose_spec) (n (G S.i2).choose_spec) (n S.ti) (n (B S.l1).choose_spec) (n (B S.l2).choose_spec) ps 0 [] [] _ _ _ _ ha (by simpa using hl) rfl d2 S2 fun h3 tk cvs ba ea t=>?_;exact⟨rfl,h h3 tk cvs ba ea fun c o c1 c2 c3 c4 e=>t c o c1 c2 c3 c4 (n e) (j c o e)⟩
end
theorem jw:∀{l:List V}{a:List Nat},jh l=some a->a.length=l.length:=by
 intro l;induction l with
 |nil=>intro a h;refine Cb (Bb h) ?_;rfl
 |cons x l b=>
  intro a h;rcases x with _|_|i|_|_|_|_|_;all_goals first|exact nomatch(show Option.none=some a from h)|skip
  replace h:(if 0≤i then(jh l).map (i.toNat::·)else Option.none)=some a:=h;by_cases q:0≤i
  ·rw[if_pos q]at h;refine ya (fun c f e=>?_)<|Option.map_eq_some_iff.mp h
   refine Cb e ?_;exact congrArg (·+1) (b f)
  ·rw[if_neg q]at h;exact nomatch h
theorem Lv(hG:G.Ok){ea eb:E}(Ha:fc G d ea)(Hb:fc G d eb):fc G d (.Th ea eb):=Bc (fun k C x I U hc=>by
 apply sg hc;intro p y pos h1 h2 h3;apply Wk h3;intro p' a b fb h4 h5 l;replace l:=Eb l;refine⟨rfl,fun Q h A T env cs s hA hE R=>?_⟩;refine Call_name1 rfl (eg hG hE R h1 h2 (by decide) (v:=.type "dict") (by kernel_rfl) (by decide) ?_);refine PySem.callWith_type1 ?_;refine wpAny_Call_Name_kw (eg hG hE R h4 h5 (by decide) (v:=.type "zip") (by kernel_rfl) (by decide) ?_);refine PyProof.Rows.callWith_type1 ?_ (ue l.1 env) (by refine aa (Co l.2 _) ?_;rfl);refine wpAny_items_cons ?_ (ue l.1 env);refine Oa ((Ha k C a I U l.1).1 _ h A T env cs s hA hE R) fun T' U' X u s' hT R' hu hq=>?_;refine wpAny_items_cons ?_ (ue l.2 env);refine Oa ((Hb k C b I U' l.2).1 _ hq A T' env cs s' hA hE R') fun M U'' Y v f N g sa z=>?_;refine wpAny_items_nil ?_;refine Zq (fun ks vs ns ua wa O P z=>?_) z
 ·skip
  ·(refine Qa (fun hn w=>?_) P;clear P)
   (refine ve (fun a1 W n1 B ba r1=>?_)<|Cc g.M (hu.za N) ua;subst B)
   (refine ve (fun a2 cvs n2 B fa r2=>?_)<|Cc g.M sa wa;subst B)
   have kb:=jw O;have ha:=Wb ba;have ka:=Wb fa;refine call_zip_2 ha ka fun h' kz xa la k1 k2 F i=>?_;have D:=zipApart_new (n:=f.heap.objs.size) (l1:=a1) (l2:=a2) (Heap.lt_size ba) (Heap.lt_size fa)
   have hS:ZS h' (f.heap.objs.size+4) (f.heap.objs.size+2) (f.heap.objs.size+3) f.heap.objs.size (f.heap.objs.size+1) a1 a2 W.toArray cvs.toArray 0:=
    ⟨.inl (uu kz (Aq _ _ la)),xa,k1,k2,ha.at (i a1),ka.at (i a2)⟩
   have lb:=r1.length;have hz:(((ns.map fun(n:Nat)=>(n:Int)).zip vs)).length=ns.length:=by simp[w]
   have za:BC M W.toArray cvs.toArray 0 ((ns.map fun(n:Nat)=>(n:Int)).zip vs):=by
    refine⟨by simp[w];lia,fun j p hp=>?_⟩;obtain⟨pi,pv⟩:=p;rw[List.getElem?_zip_eq_some]at hp
    (refine Qa (fun H Ea=>?_) hp;clear hp)
    simp only[List.getElem?_map,Option.map_eq_some_iff]at H
    (refine ya (fun m hm Ra=>?_) H;clear H;subst Ra)
    refine Aa (fun t ht=>?_)<|(Ju O r1 j).1 m hm
    refine ya (fun v' Ta Ua=>?_)<|r2.Pn Ea
    exact(qf t v' (by simpa using ht) (by simpa using Ta) Ua)
   refine ir (s:={f with heap:=h'}) hA.1 D ⟨_,la⟩ za (by refine aa hz ?_;exact bc (by assumption) (Pa rfl)) hS fun h3 tk pa Ya ab K=>?_;have lt:∀{c:Addr}{o:Obj},f.heap.get? c=some o->c<f.heap.objs.size:=fun h=>Heap.lt_size h;have R3:=g.keep (h':=h3) tk fun c o e=>K c o (fun q=>absurd (lt e) (by refine aa q ?_;exact Nat.not_lt.mpr (pn _ _))) (fun q=>absurd (lt e) (by refine aa q ?_;exact Nat.not_lt.mpr (pn _ _))) (fun q=>absurd (lt e) (by refine aa q ?_;exact Nat.lt_irrefl _)) (fun q=>absurd (lt e) (by refine aa q ?_;exact Nat.not_lt.mpr (pn _ _))) (i c o e);have L:M h'.objs.size=none:=g.M.Ya (by refine aa F ?_;exact pn _ _);have bb:U'' h'.objs.size=none:=by
    induction e:U'' h'.objs.size with
    |none=>rfl
    |some m'=>refine Aa (fun dx hd=>?_)<|g.M.mem _ _ e;rw[L]at hd;injection hd
   have cb:G.wg.heap.objs.size≤h'.objs.size:=bc g.hz (by refine aa F ?_;exact pn _ _);have ra:h'.objs.size≠env.locals:=Nat.ne_of_gt (Nat.lt_of_lt_of_le g.F.lt (by refine aa F ?_;exact pn _ _));refine Qa (fun R4 x4=>?_)<|R3.Uv h'.objs.size (.mo (.dict (Of ((ns.map fun(n:Nat)=>(n:Int)).zip vs))) 0) cb L ra (pb pa Ya (ab.za (fun b e hs hb=>by
    refine aa (qa _ _ (fun q=>by rw[q,L]at hb;injection hb)) ?_;exact hb)))
   exact Vb.xh (X:=.ref h'.objs.size) ((hT.trans N).trans x4) R4 (by exact rfl) (z _ bb)) (fun ζ ζ ζ ζ=>by rw[lI,lI])
theorem QH(a:G.Ok):Fp G d:=fun b b=>Lv a
theorem yt{x:Str}{c:Addr}:∀(names:List (Str×NameKind))(n:Nat)(acc:List (Str×Addr)),(cellsFrom n names acc).lookup x=some c->acc.lookup x=some c∨(x,NameKind.cell)∈names:=by
 intro a;induction a with
 |nil=>intro n acc h;exact .inl h
 |cons b r e=>
  intro n acc h;obtain⟨y,f⟩:=b;unfold cellsFrom at h;split at h
  ·rename_i g;rcases e _ _ h with h|h
   ·rw[List.lookup_cons]at h;by_cases q:x==y
    ·have:=eq_of_beq q;refine aa this ?_;have:f=.cell:=eq_of_beq g;refine aa this ?_;exact .inr (.head _)
    ·rw[show(x==y)=false by simpa using q]at h;exact .inl h
   ·exact .inr (.tail _ h)
  ·rcases e _ _ h with h|h
   ·exact .inl h
   ·exact .inr (.tail _ h)
theorem ur{x:Str}:∀(names:List (Str×NameKind))(n:Nat)(acc:List (Str×Addr)),((acc.lookup x).isSome=true∨(x,NameKind.cell)∈names)->((cellsFrom n names acc).lookup x).isSome=true:=by
 intro a;induction a with
 |nil=>intro n acc h;simpa[cellsFrom]using h
 |cons b r c=>
  intro n acc h;obtain⟨y,f⟩:=b;unfold cellsFrom;split
  ·rename_i e;refine c _ _ ?_;by_cases q:x==y
   ·left;refine aa List.lookup_cons (aa q ?_);rfl
   ·rcases h with h|h
    ·left;refine aa List.lookup_cons (aa (show(x==y)=false by simpa using q) ?_);exact h
    ·rcases pg h with h|h
     ·cases h;simp at q
     ·exact .inr h
  ·rename_i e;refine c _ _ ?_;rcases h with h|h
   ·exact .inl h
   ·rcases pg h with h|h
    ·cases h;exact nomatch e
    ·exact .inr h
theorem Yv:∀{l:List V}{j i:Nat}{x:V},Ke (Me j l) i=some x->∃m,i=j+m∧l[m]?=some x:=by
 intro a;induction a with
 |nil=>intro j i x h;injection h
 |cons y c b=>
  intro j i x h;unfold Ke Me at h;cases e:Nat.beq i j with
  |true=>rw[e]at h;(replace h:=(Bb h).symm;subst h);exact(pb 0 (Nat.eq_of_beq_eq_true e) rfl)
  |false=>
   rw[e]at h;refine ya (fun m f g=>?_)<|b h
   exact(pb (m+1) (by lia) (by assumption))
theorem Ly(b:Str->Option NameKind):∀{names:List Str}{a:List Value}{m:Str->Option Value}{i:Nat}{n:Str}{v:Value},names.Nodup->names[i]?=some n->a[i]?=some v->b n=some .local->bindL b (names.zip a) m n=some v:=by
 intro g;induction g with
 |nil=>intro e m f n v nd h c l;exact nomatch h
 |cons y q o=>
  intro e m f n v nd h c l;rcases e with _|⟨w,s⟩
  ·exact nomatch c
  ·rcases f with _|i
   ·simp at h c;subst h c
    (refine aa List.zip_cons_cons ?_;rewrite[bindL];refine aa (if_pos l) ?_)
    have j:∀{names:List Str}{a:List Value}{m:Str->Option Value},y∉names->bindL b (names.zip a) m y=m y:=by
     intro names;induction names with
     |nil=>intros;rfl
     |cons z t o=>
      intro a m p;induction a with
      |nil=>rfl
      |cons u x=>
       simp only[List.mem_cons,not_or]at p;refine aa List.zip_cons_cons (aa (o p.2) ?_);split
       ·simp[p.1]
       ·rfl
    refine aa (j (List.nodup_cons.mp nd).1) ?_;simp
   ·refine aa List.zip_cons_cons ?_;exact o (List.nodup_cons.mp nd).2 (by assumption) (by assumption) l
theorem Bz(b:Str->Option NameKind):∀{names:List Str}{a:List Value}{m:Str->Option Value}{i:Nat}{n:Str}{v:Value},names.Nodup->names[i]?=some n->a[i]?=some v->b n≠some .local->bindC b (names.zip a) m n=some v:=by
 intro g;induction g with
 |nil=>intro e m f n v nd h c l;exact nomatch h
 |cons y q o=>
  intro e m f n v nd h c l;rcases e with _|⟨w,s⟩
  ·exact nomatch c
  ·rcases f with _|i
   ·simp at h c;subst h c
    (refine aa List.zip_cons_cons ?_;rewrite[bindC];refine aa (if_neg l) ?_)
    have j:∀{names:List Str}{a:List Value}{m:Str->Option Value},y∉names->bindC b (names.zip a) m y=m y:=by
     intro names;induction names with
     |nil=>intros;rfl
     |cons z t o=>
      intro a m p;induction a with
      |nil=>rfl
      |cons u x=>
       simp only[List.mem_cons,not_or]at p;refine aa List.zip_cons_cons (aa (o p.2) ?_);split
       ·rfl
       ·simp[p.1]
    refine aa (j (List.nodup_cons.mp nd).1) ?_;simp
   ·refine aa List.zip_cons_cons ?_;exact o (List.nodup_cons.mp nd).2 (by assumption) (by assumption) l
structure dJ(G:Og)(a:Addr)(np:Nat)(d:List Str)(b:List S)(fd:FuncData)(x:List Stmt):Prop where
 jc:∃oc od sl,G.K.lookup a=some ⟨oc,od,.func fd,sl⟩
 body:fd.body=.stmts x
 pL:wm d fd.scope b x=true
 vL:fd.closure=[]
 kind:fd.scope.kind=.function
 co:fd.scope.isCoroutine=false
 zL:fd.scope.isGenerator=false
 rK:fd.globals=mainGlobals
 aI:fd.builtins=builtinsNs
 code:codeIn G.K fd.code fd.qualname=true
 nd:d.Nodup
 bind:∀vals:List Value,vals.length=np->bindArgs fd ⟨vals,[]⟩=pure ((d.take np).zip vals)
 DL:∀n∈d.take np,fd.scope.names.lookup n=some .local∨fd.scope.names.lookup n=some .cell
 cells:∀y∈fd.scope.names,y.2=.cell->fd.scope.names.lookup y.1=some .cell
theorem cy(h:cs.Pairwise fun x y=>x.2≠y.2){n f:Str}{c:Addr}(m:cs.lookup n=some c)(o:cs.lookup f=some c):n=f:=by
 (refine Aa (fun i a=>?_)<|List.mem_iff_getElem.mp (Hf m);refine Aa (fun g e=>?_) a;clear a)
 (refine Aa (fun j a=>?_)<|List.mem_iff_getElem.mp (Hf o);refine Aa (fun l b=>?_) a;clear a)
 rw[List.pairwise_iff_getElem]at h;rcases Nat.lt_trichotomy i j with q|q|q
 ·have:=h i j g l q;rw[e,b]at this;exact absurd rfl this
 ·subst q;rw[e]at b;cases b;rfl
 ·have:=h j i l g q;rw[e,b]at this;exact absurd rfl this
theorem PJ.deeper(h:PJ k A):El k (A.deeper env):=by
 (refine Nb (fun a b c=>?_) h;clear h)
 refine(yc a ?_ ?_)
 ·refine(?_:A.depth+1+4*k+4≤900);lia
 ·refine(?_:A.units+3+40*k+400≤9900);lia
open Classical in
theorem enter(hG:G.Ok)(hz:Fp G d){f:Fn}{K:Nat}{b:List S}{L:FuncData}{x:List Stmt}(F:dJ G (G.fn f) K d b L x)(hl:vs.length=K)(h:Ia G k b (Me 0 vs) U (fun w U=>Q .none U) Q):pe G k f vs U Q:=by
 intro A T s cvs hA P R r;refine CK (fun oc od sl ho=>?_) F.jc;have ka:=r.length;have N:cvs.length=K:=by lia
 have W:∀y∈(d.take K).zip cvs,y.1∈d.take K:=fun y hy=>(List.of_mem_zip (a:=y.1) (b:=y.2) hy).1;refine codeAny_call_cells (o:=⟨oc,od,.func L,sl⟩) (body:=x) (binds:=(d.take K).zip cvs) (by have:=hA.2.1;unfold recursionLimit;lia) (R.Uq hG _ _ ho) rfl (Ed.dE hG R) (codeRec_of (R.Uq hG) F.code) F.body (F.bind cvs N) F.vL (fun y hy=>?_) (fun s1 g=>?_) F.co F.zL F.kind
 ·rcases F.DL y.1 (W y hy)with q|q
  ·exact .inl q
  ·exact .inr ⟨q,ur _ _ _ (.inr (Hf q))⟩
 generalize t:callEnvC L s.heap.objs.size (G.fn f)=env at g ⊢;have eL:env.locals=s.heap.objs.size:=by refine Cb t ?_;rfl
 have eS:env.scope=L.scope:=by refine Cb t ?_;rfl
 have eC:env.cells=cellsFrom (s.heap.objs.size+1) L.scope.names []:=by refine Cb t ?_;rfl
 have hE:Hd L.scope env:=⟨eS,F.kind,by refine Cb t ?_;exact F.rK,by refine Cb t ?_;exact F.aI⟩;have j:∀n c,env.cells.lookup n=some c->L.scope.names.lookup n=some .cell:=fun n c l=>by
  rw[eC]at l;rcases yt _ _ _ l with q|q
  ·injection q
  ·exact F.cells _ q rfl
 have Y:∀n n' c,env.cells.lookup n=some c->env.cells.lookup n'=some c->n=n':=fun n n' c=>cy g.apart;have z:∀n c,env.cells.lookup n=some c->s.heap.objs.size<c:=fun n c l=>eL▸g.above n c (Hf l);have D:∀n c,env.cells.lookup n=some c->T c=none:=fun n c l=>R.Ya (Nat.le_of_lt (z n c l));let cm:=bindC env.kindOf ((d.take K).zip cvs) fun w=>none;let T':Tm:=fun a=>if q:∃n,env.cells.lookup n=some a then some (.cell (cm q.choose))else T a
 have O:∀n c,env.cells.lookup n=some c->T' c=some (.cell (cm n)):=fun n c l=>by have q:∃n,env.cells.lookup n=some c:=⟨n,l⟩;refine(?_:(if q:∃n,env.cells.lookup n=some c then some (Lp.cell (cm q.choose))else T c)=_);exact aa (dif_pos q) (aa (Y _ _ _ q.choose_spec l) rfl)
 have M:∀a,(¬∃n,env.cells.lookup n=some a)->T' a=T a:=fun a q=>dif_neg q;have hX:Vd T T':=fun a e w B=>by refine aa (M a (fun⟨n,u⟩=>by rw[D n a u]at B;injection B)) ?_;exact B
 (refine Lk (fun h' tk ea=>?_) g.toInCall.same;subst ea)
 have R1:Ed G T U {s with heap:=h',toks:=tk}:=R.keep g.toInCall.keep;have R2:Ed G T' U {s with heap:=h',toks:=tk}:=by
  refine⟨R1.wi,R1.Vc,fun a e B=>?_,fun a m B=>?_⟩
  ·by_cases q:∃n,env.cells.lookup n=some a
   ·(refine Aa (fun n u=>?_) q;clear q)
    rw[O n a u]at B;(replace B:=(Bb B).symm;subst B);have l:=g.cell n a u;refine ya (fun o ho w=>?_)<|id l
    exact(yc (fun w=>bc P (Nat.le_of_lt (z n a u))) (Heap.lt_size ho) l)
   ·rw[M a q]at B;refine Nb (fun g1 g2 g3=>?_)<|R1.gc a e B
    exact(yc g1 g2 (g3.za hX.f (fun w h=>h) fun w w w w w h=>h))
  ·refine Aa (fun dx hd=>?_)<|R1.mem a m B
   exact⟨dx,by refine aa (M a (fun⟨n,u⟩=>by rw[D n a u]at hd;injection hd)) ?_;exact hd⟩
 have H:∀{i:Nat}{X:V}{n:Str},Ke (Me 0 vs) i=some X->d[i]?=some n->∃v,(d.take K)[i]?=some n∧cvs[i]?=some v∧VR T X v:=fun{i X n} h1 h2=>by
  refine ya (fun m e h3=>?_)<|Yv h1
  rw[Nat.zero_add]at e;subst e;refine ya (fun v h4 h5=>?_)<|r.Pn h3
  have:i<K:=by have:=(Ro h3).1;lia
  exact(cc v (by refine aa (List.getElem?_take_of_lt this) ?_;exact h2) h4 h5)
 have ba:(d.take K).Nodup:=F.nd.sublist (List.take_sublist _ _);have FR:MC G T' d env env.cells (Me 0 vs) h':=by
  refine⟨(pb _ g.toInCall.ns (fun i X n h1 h2 w h4=>?_)),fun i X n c h1 h2 h3=>?_,by refine aa eL ?_;exact P,?_,fun n c l=>l,fun n u=>?_,fun n u=>?_,fun n c l=>⟨_,O n c l⟩,Y,F.nd,fun w n c l=>by refine aa eS ?_;exact j n c l⟩
  ·refine Pb (fun v g1 g2 g3=>?_)<|H h1 h2
   exact(pb v (Ly env.kindOf ba g1 g2 h4) (g3.za hX))
  ·refine Pb (fun v g1 g2 g3=>?_)<|H h1 h2
   have hk:env.kindOf n≠some .local:=by refine aa (hE.kindOf _) (aa (j n c h3) ?_);decide
   have fa:cm n=some v:=Bz env.kindOf ba g1 g2 hk;exact(pb v (by exact aa (O n c h3) (aa fa rfl)) (g3.za hX))
  ·refine aa (M _ (fun⟨n,u⟩=>by have:=z n _ u;rw[eL]at this;exact absurd this (Nat.lt_irrefl _))) (aa eL ?_);exact R.Ya (tf _)
  ·rw[eS]at u;have:=ur (x:=n) L.scope.names (s.heap.objs.size+1) [] (.inr (Hf u));rw[← eC]at this;exact Option.isSome_iff_exists.mp this
  ·cases e:env.cells.lookup n with
   |none=>rfl
   |some c=>have:=j n c e;rw[eS,this]at u;(replace u:=Bb u;cases u)
 refine wpAny_mono (zj (fq hG hz b) k L.scope x (Me 0 vs) U (fun w U=>Q .none U) Q F.pL h (A.deeper env) T' env env.cells _ hA.deeper hE ⟨R2,FR⟩) (fun fl s2 p=>?_) fun w w e=>e.elim;cases fl with
 |next=>
  (refine ve (fun T2 l2 U2 x2 R3 hq=>?_) p;clear p)
  exact(xF .none T2 U2 .none rfl (hX.trans x2) R3.M (by exact rfl) hq)
 |ret v=>
  (refine Df (fun T2 U2 X x2 R3 hv hq=>?_) p;clear p)
  exact(xF v T2 U2 X rfl (hX.trans x2) R3 hv hq)
 |brk=>exact p.elim
 |cont=>exact p.elim
theorem Mg(a:U x=some (.list l)):lv U (.ref x)=some l:=by refine(?_:(match U x with|some (.list l)=>some l|_=>Option.none)=some l);exact aa a rfl
theorem zg(a:U x=some (.list l)):sv U (.ref x)=some l:=Mg a
noncomputable def qb(G:Og)(k:Nat)(I:zc)(U:Mem)(e:E)(v:V):Prop:=∀Q:V->Mem->Prop,Q v U->wb G k false e I U Q
noncomputable def Ff(G:Og)(k:Nat)(I:zc)(U:Mem)(es:List E)(vs:List V):Prop:=∀Q:List V->Mem->Prop,Q vs U->gj G k es I U Q
noncomputable def Ng(G:Og)(k:Nat)(I:zc)(U:Mem)(e:E)(b:Bool):Prop:=∀Q:Bool->Mem->Prop,Q b U->ck G k e I U Q
noncomputable def FK(G:Og)(k:Nat)(I:zc)(U:Mem)(e:E)(v:V):Prop:=∀Q:V->Mem->Prop,(∀U',Sub U U'->Q v U')->wb G k false e I U Q
noncomputable def uh(U:Mem)(c:CmpOp)(a b:V)(r:Bool):Prop:=∀Q:Bool->Prop,Q r->ro U c a b Q
noncomputable def qg(G:Og)(k:Nat)(f:Fn)(vs:List V)(U:Mem)(v:V):Prop:=∀Q:V->Mem->Prop,Q v U->pe G k f vs U Q
noncomputable def rm(G:Og)(k:Nat)(f:Fn)(vs:List V)(U:Mem)(v:V):Prop:=∀Q:V->Mem->Prop,(∀U',Sub U U'->Q v U')->pe G k f vs U Q
theorem qb.var{v:V}(h:I i=some v):qb G k I U (.var i) v:=fun Q q=>by
 (refine aa VH ?_;rewrite[Ke]);refine aa h ?_;exact q
theorem qb.int{i:Int}:qb G k I U (.int i) (.int i):=fun a q=>q
theorem qb.str{w:Wd}:qb G k I U (.str w) (.wd w):=fun a q=>q
theorem qb.tt:qb G k I U .tt (.bool true):=fun a q=>q
theorem qb.ff:qb G k I U .ff (.bool false):=fun a q=>q
theorem qb.none:qb G k I U .none .none:=fun a q=>q
theorem qb.Tj{g:Gi}:qb G k I U (.Tj g) (.int g.val):=fun a q=>q
theorem Ff.nil:Ff G k I U [] []:=fun a q=>q
theorem Ff.cons{v:V}(h:qb G k I U e v)(hs:Ff G k I U es vs):Ff G k I U (e::es) (v::vs):=fun a q=>by exact h _ (hs _ q)
theorem qb.Ba(h:Ff G k I U es vs):qb G k I U (.Ba es) (.Ba vs):=fun a q=>h _ q
theorem qb.xb(h:Ff G k I U es vs):qb G k I U (.xb true es) (.fl vs):=fun a q=>h _ q
theorem qb.ma{a:At}{c:Cl}{b:List (At×V)}(h:qb G k I U e (.ref x))(f:U x=some (.ib c b))(g:Sq b a=some y):qb G k I U (.ma e a) y:=fun i q=>by refine h _ ?_;exact(jH x c b y rfl f g q)
theorem qb.Ma{i:E}{v:V}{j:Int}(h:qb G k I U e v)(a:qb G k I U i (.int j))(hv:sv U v=some l)(b:uk l j=some y)(c:l.length≤Ac):qb G k I U (.Ma e i) y:=fun f q=>by refine h _ (a _ ?_);exact⟨j,rfl,.inl (Af l y hv b c q)⟩
theorem qb.key{i:E}{j:Int}(h:qb G k I U e (.ref x))(a:qb G k I U i (.int j))(b:U x=some (.dict kvs))(c:Bd kvs j=some y):qb G k I U (.Ma e i) y:=fun f q=>by refine h _ (a _ ?_);exact⟨j,rfl,.inr (Jj x kvs y rfl b c q)⟩
theorem qb.wh{i:E}{v:V}{j:Int}(h:qb G k I U e v)(a:qb G k I U i (.int j))(hv:lv U v=some l)(b:0≤j)(c:l.length≤Ac):qb G k I U (.wh e i) (.fl (l.drop j.toNat)):=fun f q=>h _ (a _ (Af l j hv rfl ⟨b,c⟩ q))
theorem qb.gr{i:E}{v:V}{j:Int}(h:qb G k I U e v)(a:qb G k I U i (.int j))(hv:lv U v=some l)(b:0≤j)(c:l.length≤Ac):qb G k I U (.gr e i) (.fl (l.take j.toNat)):=fun f q=>h _ (a _ (Af l j hv rfl ⟨b,c⟩ q))
theorem qb.Pd{v:V}(h:qb G k I U e v)(hv:sv U v=some l)(a:l.length≤Ac):qb G k I U (.Pd e) (.int l.length):=fun b q=>h _ (cc l hv a q)
theorem qb.mf{v:V}(h:qb G k I U e v)(hv:lv U v=some l)(a:l.length≤Ac):qb G k I U (.mf e) (.fl l):=fun b q=>h _ (cc l hv a q)
noncomputable def vp(U:Mem)(c:Operator)(a b r:V):Prop:=∀Q:V->Prop,Q r->Bu U c a b Q
theorem qb.Fd{c:Operator}{a b:E}{x r:V}(h:qb G k I U a x)(h':qb G k I U b y)(e:vp U c x y r):qb G k I U (.Fd c a b) r:=fun f q=>by exact h _ (h' _ (e _ q))
theorem Nm{x y:Int}{P:Int->Int->Prop}(h:P x y):dh (.int x) (.int y) P:=qf x y rfl rfl h
theorem vp.add{x y:Int}:vp U .Add (.int x) (.int y) (.int (x+y)):=fun a q=>.inl (Nm q)
theorem vp.sub{x y:Int}:vp U .Sub (.int x) (.int y) (.int (x - y)):=fun a q=>Nm q
theorem vp.mod{x y:Int}(h:0<y):vp U .Mod (.int x) (.int y) (.int (x%y)):=fun a q=>Nm ⟨h,q⟩
theorem vp.div{x y:Int}(h:0<y∧y<2^30):vp U .FloorDiv (.int x) (.int y) (.int (x / y)):=fun a q=>Nm ⟨h,q⟩
theorem vp.mul{x y:Int}(h : -(2^62)<x∧x<2^62):vp U .Mult (.int x) (.int y) (.int (x*y)):=fun a q=>.inl (Nm ⟨.inl h,q⟩)
theorem vp.rr{a b:V}{x y:List V}(c:lv U a=some x)(hb:lv U b=some y)(e:x.length≤Ac)(f:y.length≤Ac):vp U .Add a b (.fl (x++y)):=fun Q q=>.inr (.inr (.inr (Af x y c hb ⟨e,f⟩ q)))
theorem qb.ta{c:CmpOp}{a b:E}{x:V}{r:Bool}(h:qb G k I U a x)(h':qb G k I U b y)(e:uh U c x y r):qb G k I U (.ta c a b) (.bool r):=fun f q=>by exact h _ (h' _ (e _ q))
theorem Ng.ta{c:CmpOp}{a b:E}{x:V}{r:Bool}(h:qb G k I U a x)(h':qb G k I U b y)(e:uh U c x y r):Ng G k I U (.ta c a b) r:=fun f q=>by exact h _ (h' _ (e _ q))
theorem Ng.Pg{o1 f:CmpOp}{a b c:E}{x z:V}{r r':Bool}(h:qb G k I U a x)(h':qb G k I U b y)(g:qb G k I U c z)(i:uh U o1 x y r)(e:uh U f y z r'):Ng G k I U (.Pg o1 f a b c) (r&&r'):=fun j q=>by
 refine h _ (h' _ (i _ ?_));induction r with
 |true=>refine aa (if_pos rfl) ?_;exact g _ (e _ q)
 |false=>refine aa (if_neg (by exact Ub rfl)) ?_;exact q
theorem uh.eqv{a b:V}{r:Bool}(c:V.ok 8 a=true)(hb:V.ok 8 b=true)(e:V.eqv a b=r):uh U .Eq a b r:=fun Q q=>by subst e;exact .inr ⟨⟨c,hb⟩,q⟩
theorem uh.ne{a b:V}{r:Bool}(h:uh U .Eq a b r):uh U .NotEq a b (!r):=fun c q=>h _ q
theorem uh.nil(h:U x=some (.list l)):uh U .Eq (.ref x) (.fl []) l.isEmpty:=fun Q q=>by exact .inl (Af x l rfl rfl h q)
theorem uh.wd{a b:Wd}:uh U .Eq (.wd a) (.wd b) (decide (a=b)):=uh.eqv rfl rfl rfl
theorem uh.Ag{a b:Int}:uh U .Eq (.int a) (.int b) (decide (a=b)):=uh.eqv rfl rfl rfl
theorem uh.fL{a b:Bool}:uh U .Eq (.bool a) (.bool b) (a==b):=uh.eqv rfl rfl rfl
theorem uh.lt{a b:Int}:uh U .Lt (.int a) (.int b) (decide (a<b)):=fun c q=>Nm q
theorem uh.le{a b:Int}:uh U .LtE (.int a) (.int b) (decide (a≤b)):=fun c q=>.inl (Nm q)
theorem uh.gt{a b:Int}:uh U .Gt (.int a) (.int b) (decide (b<a)):=fun c q=>Nm q
theorem uh.ge{a b:Int}:uh U .GtE (.int a) (.int b) (decide (b≤a)):=fun c q=>Nm q
theorem uh.isNone{a:V}{r:Bool}(h:(match a with| .none=>true|_=>false)=r):uh U .Is a .none r:=fun b q=>⟨rfl,by subst h;exact q⟩
theorem uh.gx{a:V}{r:Bool}(h:(match a with| .none=>false|_=>true)=r):uh U .IsNot a .none r:=fun b q=>⟨rfl,by subst h;exact q⟩
theorem uh.inDict{i:Int}(h:U x=some (.dict kvs)):uh U .In (.int i) (.ref x) (Bd kvs i).isSome:=fun Q q=>.inl (Jj i x kvs rfl rfl h q)
theorem uh.fJ{i:Int}{l:List Nat}(h:U x=some (.set l m)):uh U .In (.int i) (.ref x) (l.any fun j=>(j:Int)==i):=fun Q q=>.inr (.inl (jH i x l m rfl rfl h q))
theorem uh.Lh{a:V}{r:Bool}(b:V.ok 8 a=true)(c:V.zj 8 l=true)(e:(l.any fun y=>V.eqv y a)=r):uh U .In a (.Ba l) r:=fun Q q=>by subst e;exact .inr (.inr (Kj l (.inl rfl) b c q))
theorem uh.DG{a:V}{r:Bool}(b:V.ok 8 a=true)(c:V.zj 8 l=true)(e:(l.any fun y=>V.eqv y a)=r):uh U .In a (.fl l) r:=fun Q q=>by subst e;exact .inr (.inr (Kj l (.inr rfl) b c q))
theorem uh.ZG{i:Int}{r:Bool}(h:U x=some (.list l))(a:V.zj 8 l=true)(b:(l.any fun y=>V.eqv y (.int i))=r):uh U .In (.int i) (.ref x) r:=fun Q q=>by subst b;exact .inr (.inr (Kj l (.inr (Mg h)) rfl a q))
theorem uh.Ri{a b:V}{r:Bool}(h:uh U .In a b r):uh U .NotIn a b (!r):=fun c q=>h _ q
theorem Ng.var{b:Bool}(h:I i=some (.bool b)):Ng G k I U (.var i) b:=fun Q q=>by
 (rewrite[ck];refine aa VH ?_;rewrite[Ke]);refine aa h ?_;exact q
theorem Ng.ma{a:At}{c:Cl}{f:List (At×V)}{b:Bool}(h:qb G k I U e (.ref x))(g:U x=some (.ib c f))(i:Sq f a=some (.bool b)):Ng G k I U (.ma e a) b:=fun j q=>by refine h _ ?_;exact(jH x c f _ rfl g i q)
theorem Ng.not{b:Bool}(h:Ng G k I U e b):Ng G k I U (.not e) (!b):=fun Q q=>by have:=h (fun b U=>Q (!b) U) q;rewrite[ck];unfold ck at this;exact this
theorem Ng.Od:Ng G k I U (.and []) true:=fun Q q=>by exact⟨rfl,q⟩
theorem Ng.ud:Ng G k I U (.or []) false:=fun Q q=>by exact⟨rfl,q⟩
theorem Ng.ua{r r':Bool}(h:Ng G k I U e r)(hs:r=true->Ng G k I U (.and es) r'):Ng G k I U (.and (e::es)) (r&&r'):=fun Q q=>by
 (rewrite[ck];refine aa lD ?_)
 have:=h (fun b U=>if b=true then Sf G k true true es I U (fun v U=>yg U v fun b=>Q b U)else Q b U) ?_
 ·unfold ck at this;refine cast ?_ this;congr 1<;>(funext v U;rw[if_neg (fun h=>by cases h.1)])
 ·induction r with
  |false=>exact q
  |true=>have:=hs rfl Q q;rw[ck]at this;exact this
theorem Ng.Ea{r r':Bool}(h:Ng G k I U e r)(hs:r=false->Ng G k I U (.or es) r'):Ng G k I U (.or (e::es)) (r||r'):=fun Q q=>by
 (rewrite[ck];refine aa MD ?_)
 have:=h (fun b U=>if b=false then Sf G k true false es I U (fun v U=>yg U v fun b=>Q b U)else Q b U) ?_
 ·unfold ck at this;refine cast ?_ this;congr 1<;>(funext v U;rw[if_neg (fun h=>by cases h.1)])
 ·induction r with
  |true=>exact q
  |false=>have:=hs rfl Q q;rw[ck]at this;exact this
theorem Ng.call{f:Fn}{b:Bool}(h:Ff G (k+1) I U es vs)(a:qg G k f vs U (.bool b)):Ng G (k+1) I U (.call f es) b:=fun Q q=>by exact h _ (a _ q)
theorem Ng.Ay{a:Bool}{g:Gd}{w:Wd}(h:qb G k I U e (.wd w)):Ng G k I U (.Ay a e g) (g.has w != a):=fun Q q=>h _ ⟨w,rfl,q⟩
theorem qb.call{f:Fn}{v:V}(h:Ff G (k+1) I U es vs)(a:qg G k f vs U v):qb G (k+1) I U (.call f es) v:=fun Q q=>by exact h _ (a _ q)
theorem FK.call{f:Fn}{v:V}(h:Ff G (k+1) I U es vs)(a:rm G k f vs U v):FK G (k+1) I U (.call f es) v:=fun Q q=>by exact h _ (a _ q)
theorem qb.ite{c a b:E}{r:Bool}{v:V}(h:Ng G k I U c r)(e:r=true->qb G k I U a v)(hb:r=false->qb G k I U b v):qb G k I U (.ite c a b) v:=fun Q q=>by
 refine⟨rfl,?_⟩;refine h (fun r U=>if r=true then wb G k false a I U Q else wb G k false b I U Q) ?_;induction r with
 |true=>refine aa (if_pos rfl) ?_;exact e rfl Q q
 |false=>refine aa (if_neg (by exact Ub rfl)) ?_;exact hb rfl Q q
theorem qb.VE{v:V}(h:qb G k I U e v):qb G k I U (.and [e]) v:=fun Q q=>by exact h _ (by exact q)
theorem qb.ua{a:E}{r r':Bool}(h:qb G k I U e (.bool r))(hs:r=true->qb G k I U (.and (a::es)) (.bool r')):qb G k I U (.and (e::a::es)) (.bool (r&&r')):=fun Q q=>by
 refine aa lD ?_;refine h _ ?_;refine aa (if_neg (fun h=>by cases h.2)) ?_;induction r with
 |true=>have:=hs rfl Q q;refine(?_:(if true=true then Sf G k false true (a::es) I U Q else Q (if false=true then V.bool true else .bool true) U));exact this
 |false=>exact q
theorem Gb{v:V}(h:qb G k I U e v)(q:Ia G k ss (Ca I i v) U Kn Kr):Ia G k (.Wc (.nm i) e::ss) I U Kn Kr:=by refine h _ ?_;exact q
theorem kx{v:V}(h:FK G k I U e v)(q:∀U',Sub U U'->Ia G k ss (Ca I i v) U' Kn Kr):Ia G k (.Wc (.nm i) e::ss) I U Kn Kr:=by refine h _ fun U' s=>?_;exact q U' s
theorem wx{v:V}(h:qb G k I U e v)(q:Oh t v U I fun I=>Ia G k ss I U Kn Kr):Ia G k (.Wc t e::ss) I U Kn Kr:=by exact h _ q
theorem Ob(h:wb G k false e I U fun v U=>Oh t v U I fun I=>Ia G k ss I U Kn Kr):Ia G k (.Wc t e::ss) I U Kn Kr:=by exact h
theorem Ug{c:E}{a b:List S}{r:Bool}(h:Ng G k I U c r)(e:r=true->Ia G k a I U (fun I U=>Ia G k ss I U Kn Kr) Kr)(hb:r=false->Ia G k b I U (fun I U=>Ia G k ss I U Kn Kr) Kr):Ia G k (.Pc c a b::ss) I U Kn Kr:=by
 refine h _ ?_;induction r with
 |true=>refine aa (if_pos rfl) ?_;exact e rfl
 |false=>refine aa (if_neg (by exact Ub rfl)) ?_;exact hb rfl
theorem ja(h:Kn I U):Ia G k [] I U Kn Kr:=by refine aa mJ ?_;exact h
theorem sE{c:E}{a:List S}(h:Ng G k I U c false)(q:Ia G k ss I U Kn Kr):Ia G k (.Pc c a []::ss) I U Kn Kr:=
 Ug h (fun h=>by exact(Fc h).elim) fun b=>ja q
theorem Xa{v:V}(h:qb G k I U e v)(q:Kr v U):Ia G k (.ret e::ss) I U Kn Kr:=by exact h _ q
theorem Oj(h:wb G k false e I U Kr):Ia G k (.ret e::ss) I U Kn Kr:=by exact h
theorem yD{v:V}(h:qb G k I U e v)(hv:v=.none)(q:Ia G k ss I U Kn Kr):Ia G k (.expr e::ss) I U Kn Kr:=by subst hv;exact h _ q
theorem tj(h:wb G k false e I U fun v U=>(match v with| .none| .bool _| .int _=>Ia G k ss I U Kn Kr|_=>False)):Ia G k (.expr e::ss) I U Kn Kr:=by exact h
theorem md{o:E}(b:qb G k I U o (.ref x))(c:qb G k I U e y)(a:U x=some (.list l))(f:l.length≤Ac)(q:Ia G k ss I (Ga U x (some (.list (l++[y])))) Kn Kr):Ia G k (.expr (.append o e)::ss) I U Kn Kr:=by refine tj ?_;exact b _ ⟨by refine aa (Mg a) ?_;rfl,c _ (Af x l rfl a f q)⟩
theorem Qp{c:Cl}{b:List (At×V)}{a:At}{K:Mem->Prop}(e:U x=some (.ib c b))(f:b.length≤100)(q:K (Ga U x (some (.ib c (So b a y))))):Ct U (.ref x) a y K:=Jj x c b rfl e f q
theorem aw{j:Int}{K:Mem->Prop}(a:U x=some (.dict kvs))(b:kvs.length≤Ac)(q:K (Ga U x (some (.dict (Ue kvs j y))))):Xp U (.ref x) (.int j) y K:=qf x j rfl rfl (.inr (cc kvs a b q))
theorem yd{o:E}{a:At}{c:Cl}{b:List (At×V)}(f:qb G k I U e y)(g:qb G k I U o (.ref x))(h:U x=some (.ib c b))(i:b.length≤100)(q:Ia G k ss I (Ga U x (some (.ib c (So b a y)))) Kn Kr):Ia G k (.Zf o a e::ss) I U Kn Kr:=by refine f _ (g _ ?_);exact Qp h i q
theorem Xi{o i:E}{j:Int}(a:qb G k I U e y)(b:qb G k I U o (.ref x))(c:qb G k I U i (.int j))(f:U x=some (.dict kvs))(g:kvs.length≤Ac)(q:Ia G k ss I (Ga U x (some (.dict (Ue kvs j y)))) Kn Kr):Ia G k (.Ph o i e::ss) I U Kn Kr:=by refine a _ (b _ (c _ ?_));exact aw f g q
theorem vF{o i:E}{j:Int}(b:qb G k I U e y)(c:qb G k I U o (.ref x))(f:qb G k I U i (.int j))(g:U x=some (.list l))(a:0≤j∧j<l.length)(h:l.length≤Ac)(q:Ia G k ss I (Ga U x (some (.list (l.set j.toNat y)))) Kn Kr):Ia G k (.Ph o i e::ss) I U Kn Kr:=by refine b _ (c _ (f _ ?_));exact qf x j rfl rfl (.inl (cc l g ⟨a.1,a.2,h⟩ q))
theorem mm{f:Type}{R:f->V->Prop}{c:Mem->Prop}{step:V->zc->Mem->(zc->Mem->Prop)->Prop}(b:List f->zc->Mem->Prop)(g:∀as I U,b as I U->c U)(hs:∀a as x I U(K:zc->Mem->Prop),R a x->b (a::as) I U->(∀I' U',b as I' U'->K I' U')->step x I U K){K:zc->Mem->Prop}(e:∀I U,b [] I U->K I U) : ∀{as:List f}{l:List V}{I:zc}{U:Mem},ye R as l->b as I U->aj c step K l I U
 | [],[],I,U,_,h=>⟨g _ _ _ h,e _ _ h⟩
 |a::as,x::l,I,U,⟨h1,h2⟩,h=>⟨g _ _ _ h,hs a as x I U _ h1 h fun I' U' h'=>mm b g hs e h2 h'⟩
 | [],_::_,_,_,h,_=>h.elim
 |_::_,[],_,_,h,_=>h.elim
theorem rf{c:Type}{R:c->V->Prop}{body:List S}{v:V}{as:List c}{S:Mem->Prop}(g:qb G k I U e v)(hv:∀Q:Ln->Prop,Q ⟨l,S⟩->Zj U v Q)(b:List c->zc->Mem->Prop)(h:ye R as l)(i:b as I U)(j:∀as I U,b as I U->S U)(hs:∀a as x I U(K:zc->Mem->Prop),R a x->b (a::as) I U->(∀I' U',b as I' U'->K I' U')->Oh t x U I fun I=>Ia G k body I U K Kr)(f:∀I U,b [] I U->Ia G k ss I U Kn Kr):Ia G k (.Ad t (.seq e) body::ss) I U Kn Kr:=by refine aa my (aa mK ?_);exact g _ (hv _ (mm b j hs f h i))
theorem lh{c:Type}{R:c->V->Prop}{body:List S}{v:V}{as:List c}{S:Mem->Prop}(i:qb G k I U e v)(hv:∀Q:Ln->Prop,Q ⟨l,S⟩->Zj U v Q)(b:List c->zc->Prop)(j:ye R as l)(m:b as I)(n:S U)(hs:∀a as x I(K:zc->Mem->Prop),R a x->b (a::as) I->(∀I',b as I'->K I' U)->Oh t x U I fun I=>Ia G k body I U K Kr)(f:∀I,b [] I->Ia G k ss I U Kn Kr):Ia G k (.Ad t (.seq e) body::ss) I U Kn Kr:=
 rf i hv (fun as I U'=>U'=U∧b as I) j ⟨rfl,m⟩ (fun g g g h=>h.1.symm▸n) (fun a as x I U' K o h p=>by refine aa h.1 ?_;exact hs a as x I K o h.2 fun I' h'=>p I' U ⟨rfl,h'⟩) fun I U' h=>by refine aa h.1 ?_;exact f I h.2
theorem xe(Q:Ln->Prop)(q:Q ⟨l,fun a=>True⟩):Zj U (.fl l) Q:=.inr (.inl ⟨l,rfl,q⟩)
theorem bE(Q:Ln->Prop)(q:Q ⟨l,fun a=>True⟩):Zj U (.Ba l) Q:=.inl ⟨l,rfl,q⟩
theorem Vi(h:U a=some (.list l))(Q:Ln->Prop)(q:Q ⟨l,fun U=>U a=some (.list l)⟩):Zj U (.ref a) Q:=.inr (.inr (qf a l rfl h q))
theorem wc(h:Nat.ble n Ac=true):n≤Ac:=Pa h
theorem La{c:E}{a:List S}{r:Bool}(h:Ng G k I U c r)(e:r=false)(q:Ia G k ss I U Kn Kr):Ia G k (.Pc c a []::ss) I U Kn Kr:=sE (e▸h) q
theorem gb{c:E}{a b:List S}{r:Bool}(h:Ng G k I U c r)(e:r=true)(q:Ia G k a I U (fun I U=>Ia G k ss I U Kn Kr) Kr):Ia G k (.Pc c a b::ss) I U Kn Kr:=
 Ug h (fun f=>q) fun h'=>by rw[e]at h';injection h'
theorem Ka{c:E}{a b:List S}{r:Bool}(h:Ng G k I U c r)(e:r=false)(q:Ia G k b I U (fun I U=>Ia G k ss I U Kn Kr) Kr):Ia G k (.Pc c a b::ss) I U Kn Kr:=
 Ug h (fun h'=>by rw[e]at h';exact(Fc h').elim) fun f=>q
theorem Yo{ts:List Tg}{v:V}{K:zc->Prop}(hv:sv U v=some l)(a:l.length=ts.length)(q:pq ts l U I K):Oh (.tp ts) v U I K:=by refine aa zJ ?_;refine aa hv ?_;exact⟨a,q⟩
theorem vb{v:V}{K:zc->Prop}(q:K (Ca I i v)):Oh (.nm i) v U I K:=by refine aa cK ?_;exact q
theorem Oe{v x:V}{K:zc->Prop}(hv:sv U v=some [x,y])(q:K (Ca (Ca I i x) j y)):Oh (.tp [.nm i,.nm j]) v U I K:=Yo hv rfl q
theorem QF{v x z:V}{K:zc->Prop}(hv:sv U v=some [x,y,z])(q:K (Ca (Ca (Ca I i x) j y) k z)):Oh (.tp [.nm i,.nm j,.nm k]) v U I K:=Yo hv rfl q
theorem uo{v x z a b:V}{K:zc->Prop}(hv:sv U v=some [x,y,z,a,b])(q:K (Ca (Ca (Ca (Ca (Ca I i x) j y) k z) m a) n b)):Oh (.tp [.nm i,.nm j,.nm k,.nm m,.nm n]) v U I K:=Yo hv rfl q
theorem qe{v x:V}(h:qb G k I U e v)(hv:sv U v=some [x,y])(q:Ia G k ss (Ca (Ca I i x) j y) U Kn Kr):Ia G k (.Wc (.tp [.nm i,.nm j]) e::ss) I U Kn Kr:=wx h (Oe hv q)
theorem qb.as{v w:V}(h:qb G k I U e v)(q:v=w):qb G k I U e w:=q▸h
theorem Ng.as{v w:Bool}(h:Ng G k I U e v)(q:v=w):Ng G k I U e w:=q▸h
theorem Wr{f:Fn}(h:Ff G (k+1) I U es vs)(a:qg G k f vs U .none)(q:Ia G (k+1) ss I U Kn Kr):Ia G (k+1) (.expr (.call f es)::ss) I U Kn Kr:=
 yD (.call h a) rfl q
theorem ye.map{c g:Type}(f:c->g):∀l:List c,ye (fun a x=>x=f a) l (l.map f):=by
 intro b;induction b with
 |nil=>exact trivial
 |cons e l h=>exact⟨rfl,h⟩
noncomputable def AL:List (List Str):=
 ["self","op","dst","args","more"] ::
 ["self","number"] ::
 ["self","name"] ::
 ["block","end"] ::
 ["func","operand","where","kind","value"] ::
 ["step"] ::
 ["func","step","where"] ::
 ["func","step","where","many","operand"] ::
 ["func","block","where","end","wanted","operand","number"] ::
 ["func","block","known","waiting","at","now","step","number"] ::
 ["args","now","where","kind","value"] ::
 ["func","number","size","align","at","block","where","step","known","now"] ::
 ["func","found","is_new","block","step"] ::
 ["step","told","kind","value"] ::
 ["step","told","kind","value"] ::
 ["func","told","block","step","kind","value"] ::
 ["func","block","end","turns"] ::
 ["func","step"] ::
 ["func","block","at"] ::
 ["func","block","at","end","same","step","kind","value"] ::
 ["func","args","ahead","found","aside","index","operand","kind","value"] ::
 ["func","args","rows","found","register","operand"] ::
 ["func","block","at","line","rows","step"] ::
 ["func","found","block","at"] ::
 ["well","size","numbers","place"] ::
 ["code","kind","one","value","pick","other"] ::
 ["well","most","rows","turn"] ::
 ["well","code"] ::
 ["well","params","has_value","rows","given","which","dst","turn","code","goal","origin","way"] ::
 ["well","turned","params","has_value","entry","middle","given","base","last"] ::
 ["placed","params","has_value","drawn","number","rows","end","block","op","dst","args","more","firm","each"] ::
 ["func","placed","block","each","rows"] ::
 ["placed","number","seen","waiting","goal","rows","end","op","dst","args","more","firm","kind","which"] ::
 ["placed","out","rows","end","op","dst","args","more","firm","kind","which"] ::
 ["placed","at","has_value","rows","end","place","row","others","held","op","dst","args","more","firm","is_held","which"] ::
 ["left","was","place","rows","end","row"] ::
 ["op","one","two","value"] ::
 ["placed","params","given","memory","seen","touched","calls","most","held","at","place","home","goal","stack","turn","rows","end","op","dst","args","more","firm","kind","which","known","value"] ::
 ["script","number","well","placed","params","has_value","given","func","changed","left","gets_out","at","places","which","args","found","most"]::[]
noncomputable def rL:List Nat:=[5,2,2,1,3,1,3,3,3,1,3,1,1,2,2,1,2,2,2,3,2,2,3,1,2,1,2,1,3,1,3,1,2,1,3,3,3,3,1]
noncomputable def uI:List (List S):=
 [.Zf (.var 0) .op (.var 1),.Zf (.var 0) .nc (.var 2),.Zf (.var 0) .args (.var 3),.Zf (.var 0) .more (.var 4),.Zf (.var 0) .Tb .ff,.Zf (.var 0) .line (.int 0)] ::
 [.Zf (.var 0) .Yc (.var 1),.Zf (.var 0) .uc (.xb false []),.Zf (.var 0) .We .none] ::
 [.Zf (.var 0) .name (.var 1),.Zf (.var 0) .params (.xb true []),.Zf (.var 0) .Xk .ff,.Zf (.var 0) .slots (.xb true []),.Zf (.var 0) .Ae (.xb false []),.Zf (.var 0) .ie (.int 0),.Zf (.var 0) .Xg .ff] ::
 [.Wc (.nm 1) (.ma (.var 0) .We),.Pc (.ta .Eq (.ma (.var 1) .op) (.str .Ib)) [.ret (.xb true [(.ma (.var 1) .more)])] [],.Pc (.ta .Eq (.ma (.var 1) .op) (.str .branch)) [.ret (.xb true [(.Ma (.ma (.var 1) .more) (.int 0)),(.Ma (.ma (.var 1) .more) (.int 1))])] [],.Pc (.ta .Eq (.ma (.var 1) .op) (.str .table)) [.ret (.Fd .Add (.mf (.Ma (.ma (.var 1) .more) (.int 1))) (.xb true [(.Ma (.ma (.var 1) .more) (.int 2))]))] [],.ret (.xb true [])] ::
 [.Wc (.tp [(.nm 3),(.nm 4)]) (.var 1),.Pc (.ta .Eq (.var 3) (.str .r)) [.Pc (.not (.Pg .LtE .Lt (.int 0) (.var 4) (.ma (.var 0) .ie))) [.Nc] []] [.Pc (.or [(.ta .NotEq (.var 3) (.str .k)),(.not (.Pg .LtE .LtE (.int 0) (.var 4) (.Tj .mask)))]) [.Nc] []]] ::
 [.Pc (.or [(.Ay false (.ma (.var 0) .op) .Ov),(.ta .Eq (.ma (.var 0) .op) (.str .de)),(.ta .Eq (.ma (.var 0) .op) (.str .yl))]) [.ret (.int 2)] [],.Pc (.or [(.Ay false (.ma (.var 0) .op) .Qz),(.ta .Eq (.ma (.var 0) .op) (.str .Bk)),(.ta .Eq (.ma (.var 0) .op) (.str .load))]) [.ret (.int 1)] [],.Pc (.or [(.ta .Eq (.ma (.var 0) .op) (.str .slot)),(.ta .Eq (.ma (.var 0) .op) (.str .name))]) [.ret (.int 0)] [],.Pc (.or [(.ta .Eq (.ma (.var 0) .op) (.str .call)),(.ta .Eq (.ma (.var 0) .op) (.str .ig))]) [.ret (.int (-1))] [],.Nc] ::
 [.Pc (.ta .Eq (.ma (.var 1) .op) (.str .load)) [.Pc (.ta .NotIn (.Ma (.ma (.var 1) .more) (.int 0)) (.Ba [(.int 1),(.int 2),(.int 4)])) [.Nc] []] [.Pc (.ta .Eq (.ma (.var 1) .op) (.str .de)) [.Pc (.ta .NotIn (.ma (.var 1) .more) (.Ba [(.int 1),(.int 2),(.int 4)])) [.Nc] []] [.Pc (.ta .Eq (.ma (.var 1) .op) (.str .slot)) [.Pc (.not (.Pg .LtE .Lt (.int 0) (.ma (.var 1) .more) (.Pd (.ma (.var 0) .slots)))) [.Nc] []] [.Pc (.ta .Eq (.ma (.var 1) .op) (.str .yl)) [.Pc (.or [(.ta .Lt (.Ma (.ma (.var 1) .more) (.int 0)) (.int 1)),(.ta .NotIn (.Ma (.ma (.var 1) .more) (.int 1)) (.Ba [(.int 1),(.int 2),(.int 4)]))]) [.Nc] []] [.Pc (.and [(.ta .Eq (.ma (.var 1) .op) (.str .Bk)),(.ta .NotEq (.Ma (.Ma (.ma (.var 1) .args) (.int 0)) (.int 0)) (.str .k))]) [.Nc] [.Pc (.and [(.ta .Eq (.ma (.var 1) .op) (.str .ig)),(.ta .Eq (.ma (.var 1) .args) (.xb true []))]) [.Nc] []]]]]],.Pc (.and [(.ma (.var 1) .Tb),(.ta .NotIn (.ma (.var 1) .op) (.Ba [(.str .load),(.str .de),(.str .yl)]))]) [.Nc] []] ::
 [.Wc (.nm 3) (.call .Ii [(.var 1)]),.Pc (.and [(.ta .GtE (.var 3) (.int 0)),(.ta .NotEq (.Pd (.ma (.var 1) .args)) (.var 3))]) [.Nc] [],.Ad (.nm 4) (.seq (.ma (.var 1) .args)) [.expr (.call .ze [(.var 0),(.var 4),(.var 2)])],.expr (.call .ji [(.var 0),(.var 1),(.var 2)]),.Pc (.or [(.ta .Eq (.ma (.var 1) .op) (.str .de)),(.ta .Eq (.ma (.var 1) .op) (.str .yl))]) [.Pc (.ta .NotEq (.ma (.var 1) .nc) (.int (-1))) [.Nc] []] [.Pc (.or [(.ta .Eq (.ma (.var 1) .op) (.str .call)),(.ta .Eq (.ma (.var 1) .op) (.str .ig))]) [.Pc (.not (.Pg .LtE .Lt (.int (-1)) (.ma (.var 1) .nc) (.ma (.var 0) .ie))) [.Nc] []] [.Pc (.not (.Pg .LtE .Lt (.int 0) (.ma (.var 1) .nc) (.ma (.var 0) .ie))) [.Nc] []]]] ::
 [.Wc (.nm 3) (.ma (.var 1) .We),.Pc (.or [(.ta .Is (.var 3) .none),(.Ay true (.ma (.var 3) .op) .sD)]) [.Nc] [],.Pc (.ta .Eq (.ma (.var 3) .op) (.str .ic)) [.Wc (.nm 4) (.ite (.ma (.var 0) .Xg) (.int 1) (.int 0))] [.Wc (.nm 4) (.ite (.ta .Eq (.ma (.var 3) .op) (.str .Ib)) (.int 0) (.int 1))],.Pc (.ta .NotEq (.Pd (.ma (.var 3) .args)) (.var 4)) [.Nc] [],.Ad (.nm 5) (.seq (.ma (.var 3) .args)) [.expr (.call .ze [(.var 0),(.var 5),(.var 2)])],.Ad (.nm 6) (.seq (.call .xj [(.var 1)])) [.Pc (.not (.Pg .LtE .Lt (.int 0) (.var 6) (.Pd (.ma (.var 0) .Ae)))) [.Nc] []]] ::
 [.Wc (.nm 2) (.comp false (.nm 1) (.seq (.ma (.var 0) .Ae)) .none),.Ph (.var 2) (.int 0) (.Pk (.ma (.var 0) .params)),.Wc (.nm 3) (.xb false [(.int 0)]),.bh (.ta .NotEq (.var 3) (.xb true [])) [.Wc (.nm 4) (.Ez (.var 3)),.Wc (.nm 5) (.Pk (.Ma (.var 2) (.var 4))),.Ad (.nm 6) (.seq (.ma (.Ma (.ma (.var 0) .Ae) (.var 4)) .uc)) [.Pc (.ta .GtE (.ma (.var 6) .nc) (.int 0)) [.expr (.Bf (.var 5) (.ma (.var 6) .nc))] []],.Ad (.nm 7) (.seq (.call .xj [(.Ma (.ma (.var 0) .Ae) (.var 4))])) [.Pc (.ta .Is (.Ma (.var 2) (.var 7)) .none) [.Ph (.var 2) (.var 7) (.Pk (.var 5)),.expr (.append (.var 3) (.var 7))] [.Pc (.not (.ta .LtE (.Ma (.var 2) (.var 7)) (.var 5))) [.Ph (.var 2) (.var 7) (.Fd .BitAnd (.Ma (.var 2) (.var 7)) (.var 5)),.expr (.append (.var 3) (.var 7))] []]]],.ret (.var 2)] ::
 [.Ad (.tp [(.nm 3),(.nm 4)]) (.seq (.var 0)) [.Pc (.and [(.ta .Eq (.var 3) (.str .r)),(.ta .NotIn (.var 4) (.var 1))]) [.Nc] []]] ::
 [.Pc (.ta .Eq (.ma (.var 0) .Ae) (.xb true [])) [.Nc] [],.Ad (.nm 1) (.seq (.ma (.var 0) .params)) [.Pc (.or [(.not (.Pg .LtE .Lt (.int 0) (.var 1) (.ma (.var 0) .ie))),(.ta .Gt (.Yl (.ma (.var 0) .params) (.var 1)) (.int 1))]) [.Nc] []],.Ad (.tp [(.nm 2),(.nm 3)]) (.seq (.ma (.var 0) .slots)) [.Pc (.or [(.ta .Lt (.var 2) (.int 1)),(.ta .NotIn (.var 3) (.Ba [(.int 1),(.int 2),(.int 4)]))]) [.Nc] []],.Ad (.tp [(.nm 4),(.nm 5)]) (.fj (.ma (.var 0) .Ae)) [.Wc (.nm 6) (.Fd .Add (.Fd .Add (.ma (.var 0) .name) (.str .Xf)) (.xk (.var 4))),.Pc (.ta .NotEq (.ma (.var 5) .Yc) (.var 4)) [.Nc] [],.Ad (.nm 7) (.seq (.ma (.var 5) .uc)) [.expr (.call .Lj [(.var 0),(.var 7),(.var 6)])],.expr (.call .Dj [(.var 0),(.var 5),(.var 6)])],.Wc (.nm 8) (.call .Fi [(.var 0)]),.Ad (.tp [(.nm 4),(.nm 5)]) (.fj (.ma (.var 0) .Ae)) [.Pc (.ta .IsNot (.Ma (.var 8) (.var 4)) .none) [.Wc (.nm 9) (.Pk (.Ma (.var 8) (.var 4))),.Wc (.nm 6) (.Fd .Add (.Fd .Add (.ma (.var 0) .name) (.str .Xf)) (.xk (.var 4))),.Ad (.nm 7) (.seq (.ma (.var 5) .uc)) [.expr (.call .sj [(.ma (.var 7) .args),(.var 9),(.var 6)]),.Pc (.ta .GtE (.ma (.var 7) .nc) (.int 0)) [.expr (.Bf (.var 9) (.ma (.var 7) .nc))] []],.expr (.call .sj [(.ma (.ma (.var 5) .We) .args),(.var 9),(.var 6)])] []]] ::
 [.Wc (.nm 1) (.dict []),.Wc (.nm 2) .tt,.bh (.var 2) [.Wc (.nm 2) .ff,.Ad (.nm 3) (.seq (.ma (.var 0) .Ae)) [.Ad (.nm 4) (.seq (.ma (.var 3) .uc)) [.Pc (.and [(.ta .GtE (.ma (.var 4) .nc) (.int 0)),(.ta .NotIn (.ma (.var 4) .nc) (.var 1)),(.call .xm [(.var 4),(.var 1)])]) [.Ph (.var 1) (.ma (.var 4) .nc) .tt,.Wc (.nm 2) .tt] []]]],.ret (.var 1)] ::
 [.Pc (.ta .Eq (.ma (.var 0) .op) (.str .slot)) [.ret .tt] [],.Pc (.ta .In (.ma (.var 0) .op) (.Ba [(.str .load),(.str .call),(.str .ig)])) [.ret .ff] [],.Ad (.tp [(.nm 2),(.nm 3)]) (.seq (.ma (.var 0) .args)) [.Pc (.and [(.ta .Eq (.var 2) (.str .r)),(.ta .In (.var 3) (.var 1))]) [.ret .tt] []],.ret .ff] ::
 [.Pc (.ta .In (.ma (.var 0) .op) (.Ba [(.str .load),(.str .yl)])) [.ret .ff] [],.Pc (.ta .Eq (.ma (.var 0) .op) (.str .de)) [.Wc (.tp [(.nm 2),(.nm 3)]) (.Ma (.ma (.var 0) .args) (.int 1)),.ret (.and [(.ta .Eq (.var 2) (.str .r)),(.ta .In (.var 3) (.var 1))])] [],.Pc (.ta .NotIn (.ma (.var 0) .op) (.Ba [(.str .call),(.str .ig)])) [.ret .ff] [],.Ad (.tp [(.nm 2),(.nm 3)]) (.seq (.ma (.var 0) .args)) [.Pc (.and [(.ta .Eq (.var 2) (.str .r)),(.ta .In (.var 3) (.var 1))]) [.ret .tt] []],.ret .ff] ::
 [.Pc (.ta .Eq (.ma (.var 0) .slots) (.xb true [])) [.ret .tt] [],.Wc (.nm 1) (.call .Dg [(.var 0)]),.Ad (.nm 2) (.seq (.ma (.var 0) .Ae)) [.Ad (.nm 3) (.seq (.ma (.var 2) .uc)) [.Pc (.call .di [(.var 3),(.var 1)]) [.ret .ff] []],.Pc (.ta .Eq (.ma (.ma (.var 2) .We) .op) (.str .ic)) [.Ad (.tp [(.nm 4),(.nm 5)]) (.seq (.ma (.ma (.var 2) .We) .args)) [.Pc (.and [(.ta .Eq (.var 4) (.str .r)),(.ta .In (.var 5) (.var 1))]) [.ret .ff] []]] []],.ret .tt] ::
 [.Wc (.tp [(.nm 2),(.nm 3)]) (.Ba [(.ma (.var 1) .We),(.int 0)]),.bh (.and [(.ta .Eq (.ma (.var 2) .op) (.str .Ib)),(.ta .Lt (.var 3) (.Pd (.ma (.var 0) .Ae))),(.ta .Eq (.ma (.Ma (.ma (.var 0) .Ae) (.ma (.var 2) .more)) .uc) (.xb true []))]) [.Wc (.nm 2) (.ma (.Ma (.ma (.var 0) .Ae) (.ma (.var 2) .more)) .We),.Wc (.nm 3) (.Fd .Add (.var 3) (.int 1))],.ret (.var 2)] ::
 [.ret (.and [(.ta .Eq (.ma (.var 1) .op) (.str .call)),(.ta .Eq (.ma (.var 1) .more) (.ma (.var 0) .name)),(.ta .Eq (.Pd (.ma (.var 1) .args)) (.Pd (.ma (.var 0) .params)))])] ::
 [.Wc (.nm 2) (.Fd .Sub (.Pd (.ma (.var 1) .uc)) (.int 1)),.bh (.and [(.ta .GtE (.var 2) (.int 0)),(.ta .Eq (.ma (.Ma (.ma (.var 1) .uc) (.var 2)) .op) (.str .lj))]) [.Wc (.nm 2) (.Fd .Sub (.var 2) (.int 1))],.ret (.ite (.and [(.ta .GtE (.var 2) (.int 0)),(.call .oh [(.var 0),(.Ma (.ma (.var 1) .uc) (.var 2))])]) (.var 2) (.int (-1)))] ::
 [.Wc (.nm 3) (.call .Ij [(.var 0),(.var 1)]),.Pc (.ta .NotEq (.ma (.var 3) .op) (.str .ic)) [.ret .ff] [],.Pc (.not (.ma (.var 0) .Xg)) [.ret .tt] [],.Wc (.nm 4) (.dict [(.ma (.Ma (.ma (.var 1) .uc) (.var 2)) .nc),.tt]),.Ad (.nm 5) (.seq (.wh (.ma (.var 1) .uc) (.Fd .Add (.var 2) (.int 1)))) [.Wc (.tp [(.nm 6),(.nm 7)]) (.Ma (.ma (.var 5) .args) (.int 0)),.Pc (.and [(.ta .Eq (.var 6) (.str .r)),(.ta .In (.var 7) (.var 4))]) [.Ph (.var 4) (.ma (.var 5) .nc) .tt] [.expr (.Su (.var 4) (.ma (.var 5) .nc) .none)]],.Wc (.tp [(.nm 6),(.nm 7)]) (.Ma (.ma (.var 3) .args) (.int 0)),.ret (.and [(.ta .Eq (.var 6) (.str .r)),(.ta .In (.var 7) (.var 4))])] ::
 [.Wc (.tp [(.nm 2),(.nm 3),(.nm 4)]) (.Ba [(.xb false []),(.xb false []),(.dict [])]),.Ad (.tp [(.nm 5),(.nm 6)]) (.fj (.var 1)) [.Wc (.tp [(.nm 7),(.nm 8)]) (.var 6),.Pc (.and [(.ta .Eq (.var 7) (.str .r)),(.ta .In (.var 8) (.gr (.ma (.var 0) .params) (.var 5))),(.ta .NotEq (.Ma (.var 1) (.Sm (.ma (.var 0) .params) (.var 8))) (.var 6))]) [.Pc (.ta .NotIn (.var 8) (.var 4)) [.Ph (.var 4) (.var 8) (.ma (.var 0) .ie),.Zf (.var 0) .ie (.Fd .Add (.ma (.var 0) .ie) (.int 1)),.expr (.append (.var 2) (.new .step [(.str .lj),(.Ma (.var 4) (.var 8)),(.xb true [(.var 6)]),(.int 0)]))] [],.Wc (.nm 6) (.Ba [(.str .r),(.Ma (.var 4) (.var 8))])] [],.expr (.append (.var 3) (.var 6))],.ret (.Ba [(.var 2),(.Eh (.var 3))])] ::
 [.Wc (.tp [(.nm 2),(.nm 3)]) (.call .Ui [(.var 0),(.var 1)]),.Ad (.tp [(.nm 4),(.nm 5)]) (.zip (.ma (.var 0) .params) (.var 3)) [.Pc (.ta .NotEq (.var 5) (.Ba [(.str .r),(.var 4)])) [.expr (.append (.var 2) (.new .step [(.ite (.ta .Eq (.Ma (.var 5) (.int 0)) (.str .k)) (.str .Bk) (.str .lj)),(.var 4),(.xb true [(.var 5)]),(.int 0)]))] []],.ret (.var 2)] ::
 [.Wc (.nm 3) (.ma (.Ma (.ma (.var 1) .uc) (.var 2)) .line),.Wc (.nm 4) (.call .Gj [(.var 0),(.ma (.Ma (.ma (.var 1) .uc) (.var 2)) .args)]),.Zf (.var 1) .We (.new .step [(.str .Ib),(.int (-1)),(.xb true []),(.int 0)]),.Ad (.nm 5) (.seq (.Fd .Add (.var 4) (.xb true [(.ma (.var 1) .We)]))) [.Zf (.var 5) .line (.var 3)],.Zf (.var 1) .uc (.Fd .Add (.gr (.ma (.var 1) .uc) (.var 2)) (.var 4))] ::
 [.Wc (.nm 1) (.xb false []),.Ad (.nm 2) (.seq (.ma (.var 0) .Ae)) [.Wc (.nm 3) (.call .Yk [(.var 0),(.var 2)]),.Pc (.and [(.ta .GtE (.var 3) (.int 0)),(.call .Ck [(.var 0),(.var 2),(.var 3)])]) [.expr (.append (.var 1) (.Ba [(.var 2),(.var 3)]))] []],.Pc (.or [(.ta .Eq (.var 1) (.xb true [])),(.not (.call .Mi [(.var 0)]))]) [.ret .ff] [],.Ad (.tp [(.nm 2),(.nm 3)]) (.seq (.var 1)) [.expr (.call .el [(.var 0),(.var 2),(.var 3)])],.ret .tt] ::
 [.Wc (.tp [(.nm 2),(.nm 3)]) (.var 0),.Ph (.var 0) (.int 1) (.Fd .Add (.var 3) (.int 1)),.ret (.Fd .Mod (.ite (.ta .Lt (.var 3) (.Pd (.var 2))) (.Ma (.var 2) (.var 3)) (.Fd .Add (.Fd .Mult (.var 3) (.int 3)) (.int 1))) (.var 1))] ::
 [.Wc (.nm 1) (.Fd .Mod (.var 0) (.int 10)),.Wc (.nm 2) (.Fd .Mod (.Fd .FloorDiv (.var 0) (.int 10)) (.int 3)),.Wc (.nm 3) (.Ba [(.str .r),(.var 2)]),.Wc (.nm 4) (.Fd .FloorDiv (.var 0) (.int 30)),.Pc (.ta .Lt (.var 1) (.int 3)) [.Wc (.nm 5) (.ite (.ta .Eq (.Fd .Mod (.Fd .FloorDiv (.var 4) (.int 3)) (.int 2)) (.int 0)) (.Ba [(.str .r),(.Fd .Mod (.var 4) (.int 3))]) (.Ba [(.str .k),(.Fd .Mod (.Fd .FloorDiv (.var 4) (.int 6)) (.int 100))])),.ret (.xb true [(.Ba [(.Ma (.Ba [(.str .add),(.str .sub),(.str .Oy)]) (.var 1)),(.var 2),(.xb true [(.var 3),(.var 5)]),(.int 0),.ff])])] [],.Pc (.ta .Eq (.var 1) (.int 3)) [.ret (.xb true [(.Ba [(.str .call),(.int 7),(.xb true [(.var 3)]),(.str .Yh),.ff])])] [],.Pc (.ta .Eq (.var 1) (.int 4)) [.ret (.xb true [(.Ba [(.str .de),(.int (-1)),(.xb true [(.Ba [(.str .r),(.int 4)]),(.var 3)]),(.int 4),(.ta .Eq (.Fd .Mod (.var 4) (.int 2)) (.int 0))])])] [],.Pc (.ta .Eq (.var 1) (.int 5)) [.ret (.xb true [(.Ba [(.str .load),(.var 2),(.xb true [(.Ba [(.str .r),(.int 4)])]),(.Ba [(.int 4),.ff]),(.ta .Eq (.Fd .Mod (.var 4) (.int 2)) (.int 0))])])] [],.Pc (.ta .Eq (.var 1) (.int 6)) [.ret (.xb true [(.Ba [(.str .de),(.int (-1)),(.xb true [(.Ba [(.str .r),(.int 5)]),(.var 3)]),(.int 4),.ff])])] [],.Pc (.ta .Eq (.var 1) (.int 7)) [.ret (.xb true [(.Ba [(.str .load),(.var 2),(.xb true [(.Ba [(.str .r),(.int 6)])]),(.Ba [(.int 4),.ff]),.ff])])] [],.Pc (.ta .Eq (.var 1) (.int 8)) [.ret (.xb true [(.Ba [(.str .add),(.int 6),(.xb true [(.Ba [(.str .r),(.int 5)]),(.Ba [(.str .k),(.int 0)])]),(.int 0),.ff]),(.Ba [(.str .de),(.int (-1)),(.xb true [(.Ba [(.str .r),(.int 6)]),(.var 3)]),(.int 4),.ff])])] [],.Pc (.ta .Eq (.Fd .Mod (.var 4) (.int 8)) (.int 0)) [.ret (.xb true [(.Ba [(.str .call),(.int 7),(.xb true [(.Ba [(.str .r),(.int 5)])]),(.str .Yh),.ff])])] [],.Pc (.ta .Eq (.Fd .Mod (.var 4) (.int 8)) (.int 1)) [.ret (.xb true [(.Ba [(.str .de),(.int (-1)),(.xb true [(.Ba [(.str .r),(.int 4)]),(.Ba [(.str .r),(.int 6)])]),(.int 4),.ff])])] [],.Pc (.ta .Eq (.Fd .Mod (.var 4) (.int 8)) (.int 2)) [.ret (.xb true [(.Ba [(.str .eq),(.int 7),(.xb true [(.Ba [(.str .r),(.int 5)]),(.Ba [(.str .r),(.int 6)])]),(.int 0),.ff]),(.Ba [(.str .call),(.int (-1)),(.xb true [(.Ba [(.str .r),(.int 7)])]),(.str .Yh),.ff])])] [],.ret (.xb true [(.Ba [(.str .mul),(.var 2),(.xb true [(.var 3),(.Ba [(.str .k),(.int 3)])]),(.int 0),.ff])])] ::
 [.Wc (.nm 2) (.xb true []),.Ad (.nm 3) (.range (.call .Xc [(.var 0),(.var 1)])) [.Wc (.nm 2) (.Fd .Add (.var 2) (.call .Vh [(.call .Xc [(.var 0),(.int 2400)])]))],.ret (.var 2)] ::
 [.Wc (.nm 1) (.call .Xc [(.var 0),(.int 40)]),.Pc (.ta .Eq (.var 1) (.int 39)) [.ret (.Ba [(.str .r),(.int 5)])] [],.ret (.Ma (.Ba [(.Ba [(.str .r),(.int 0)]),(.Ba [(.str .r),(.int 1)]),(.Ba [(.str .r),(.int 2)]),(.Ba [(.str .r),(.int 3)]),(.Ba [(.str .r),(.int 8)]),(.Ba [(.str .r),(.int 11)]),(.Ba [(.str .k),(.var 1)])]) (.Fd .Mod (.var 1) (.int 7)))] ::
 [.Wc (.nm 3) (.call .nj [(.var 0),(.int 2)]),.Wc (.nm 4) (.dict [(.int 3),(.Ba [(.str .r),(.int 8)])]),.Ad (.nm 5) (.seq (.Ba [(.int 0),(.int 1),(.int 2)])) [.Ph (.var 4) (.var 5) (.call .si [(.var 0)])],.Wc (.nm 6) (.ite (.or [(.var 2),(.ta .Eq (.call .Xc [(.var 0),(.int 2)]) (.int 0))]) (.int 9) (.int (-1))),.Wc (.nm 3) (.rr (.var 3) (.xb true [(.Ba [(.str .call),(.var 6),(.comp true (.nm 5) (.seq (.var 1)) (.Ma (.var 4) (.var 5))),(.str .f),.ff])])),.Ad (.nm 7) (.range (.call .Xc [(.var 0),(.int 4)])) [.Wc (.nm 8) (.call .Xc [(.var 0),(.int 12)]),.Pc (.ta .Lt (.var 8) (.int 6)) [.expr (.append (.var 3) (.Ba [(.str .lj),(.int 10),(.xb true [(.Ba [(.str .r),(.int 9)])]),(.int 0),.ff]))] [.Pc (.ta .Lt (.var 8) (.int 11)) [.Wc (.tp [(.nm 9),(.nm 10)]) (.Ma (.Ba [(.Ba [(.int 9),(.Ba [(.str .r),(.int 10)])]),(.Ba [(.int 10),(.Ba [(.str .k),(.int 7)])]),(.Ba [(.int 0),(.Ba [(.str .r),(.int 9)])]),(.Ba [(.int 10),(.Ba [(.str .r),(.int 0)])]),(.Ba [(.int 9),(.Ba [(.str .r),(.int 9)])])]) (.Fd .Sub (.var 8) (.int 6))),.expr (.append (.var 3) (.Ba [(.str .lj),(.var 9),(.xb true [(.var 10)]),(.int 0),.ff]))] [.expr (.append (.var 3) (.Ba [(.str .add),(.int 10),(.xb true [(.Ba [(.str .r),(.int 10)]),(.Ba [(.str .k),(.int 1)])]),(.int 0),.ff]))]]],.Wc (.nm 11) (.call .Xc [(.var 0),(.int 4)]),.Pc (.ta .Lt (.var 11) (.int 2)) [.ret (.Ba [(.Eh (.var 3)),(.Ba [(.str .ic),(.ite (.var 2) (.xb true [(.Ba [(.str .r),(.Fd .Add (.int 9) (.var 11))])]) (.xb true [])),(.int 0)])])] [],.ret (.Ba [(.Eh (.var 3)),(.Ba [(.str .Ib),(.xb true []),(.Fd .Add (.int 3) (.var 11))])])] ::
 [.Wc (.nm 1) (.call .Xc [(.var 0),(.int 4)]),.Wc (.nm 2) (.Fd .Add (.wh (.xb true [(.int 0),(.int 1),(.int 2),(.int 3)]) (.var 1)) (.gr (.xb true [(.int 0),(.int 1),(.int 2),(.int 3)]) (.var 1))),.Wc (.nm 3) (.ta .Lt (.call .Xc [(.var 0),(.int 4)]) (.int 3)),.Wc (.nm 4) (.rr (.xb true [(.Ba [(.str .name),(.int 4),(.xb true []),(.Ba [(.str .g),(.int 0)]),.ff]),(.Ba [(.str .slot),(.int 5),(.xb true []),(.int 0),.ff]),(.Ba [(.str .lj),(.int 6),(.xb true [(.Ba [(.str .r),(.int 5)])]),(.int 0),.ff]),(.Ba [(.str .de),(.int (-1)),(.xb true [(.Ba [(.str .r),(.int 5)]),(.Ba [(.str .r),(.int 0)])]),(.int 4),.ff]),(.Ba [(.str .Bk),(.int 9),(.xb true [(.Ba [(.str .k),(.int 1)])]),(.int 0),.ff]),(.Ba [(.str .lj),(.int 10),(.xb true [(.Ba [(.str .r),(.int 1)])]),(.int 0),.ff])]) (.call .nj [(.var 0),(.int 3)])),.expr (.append (.var 4) (.Ba [(.str .load),(.int 11),(.xb true [(.Ba [(.str .r),(.int 5)])]),(.Ba [(.int 4),.ff]),.ff])),.Wc (.nm 5) (.Fd .Add (.call .nj [(.var 0),(.int 2)]) (.xb true [(.Ba [(.str .sub),(.int 8),(.xb true [(.Ba [(.str .r),(.int 3)]),(.Ba [(.str .k),(.int 1)])]),(.int 0),.ff]),(.Ba [(.str .and),(.int 7),(.xb true [(.Ba [(.str .r),(.call .Xc [(.var 0),(.int 4)])]),(.Ba [(.str .k),(.int 1)])]),(.int 0),.ff])])),.Wc (.nm 6) (.ite (.var 3) (.xb true [(.Ba [(.str .r),(.int 10)])]) (.xb true [])),.Wc (.nm 7) (.xb true [(.Ba [(.str .lj),(.int 10),(.xb true [(.Ba [(.str .r),(.call .Xc [(.var 0),(.int 3)])])]),(.int 0),.ff])]),.Wc (.nm 8) (.ite (.ta .Eq (.call .Xc [(.var 0),(.int 4)]) (.int 3)) (.xb true [(.Ba [(.str .lj),(.int 10),(.xb true [(.Ba [(.str .r),(.int 10)])]),(.int 0),.ff])]) (.xb true [])),.ret (.Ba [(.xb true [(.Ba [(.Eh (.var 4)),(.Ba [(.str .branch),(.xb true [(.Ba [(.str .r),(.int 3)])]),(.Ba [(.int 1),(.int 2)])])]),(.Ba [(.var 5),(.Ba [(.str .branch),(.xb true [(.Ba [(.str .r),(.int 7)])]),(.Ba [(.int 3),(.int 4)])])]),(.Ba [(.var 7),(.Ba [(.str .ic),(.var 6),(.int 0)])]),(.call .Cf [(.var 0),(.var 2),(.var 3)]),(.call .Cf [(.var 0),(.var 2),(.var 3)]),(.Ba [(.xb true []),(.Ba [(.str .Ib),(.xb true []),(.int 6)])]),(.Ba [(.var 8),(.Ba [(.str .ic),(.var 6),(.int 0)])])]),(.var 2),(.var 3)])] ::
 [.Wc (.nm 3) (.new .func [(.str .f)]),.Zf (.var 3) .params (.mf (.var 1)),.Zf (.var 3) .ie (.int 12),.Zf (.var 3) .slots (.xb true [(.Ba [(.int 4),(.int 4)])]),.Zf (.var 3) .Xg (.var 2),.Ad (.tp [(.nm 4),(.tp [(.nm 5),(.nm 6)])]) (.fj (.var 0)) [.Wc (.nm 7) (.new .td [(.var 4)]),.Ad (.tp [(.nm 8),(.nm 9),(.nm 10),(.nm 11),(.nm 12)]) (.seq (.var 5)) [.Wc (.nm 13) (.new .step [(.var 8),(.var 9),(.mf (.var 10)),(.var 11)]),.Zf (.var 13) .Tb (.var 12),.expr (.append (.ma (.var 7) .uc) (.var 13))],.Zf (.var 7) .We (.new .step [(.Ma (.var 6) (.int 0)),(.int (-1)),(.mf (.Ma (.var 6) (.int 1))),(.Ma (.var 6) (.int 2))]),.expr (.append (.ma (.var 3) .Ae) (.var 7))],.ret (.var 3)] ::
 [.Wc (.nm 1) (.xb false []),.Ad (.nm 2) (.seq (.ma (.var 0) .Ae)) [.Wc (.nm 4) (.comp true (.nm 3) (.seq (.ma (.var 2) .uc)) (.Ba [(.ma (.var 3) .op),(.ma (.var 3) .nc),(.mf (.ma (.var 3) .args)),(.ma (.var 3) .more),(.ma (.var 3) .Tb)])),.expr (.append (.var 1) (.Ba [(.var 4),(.Ba [(.ma (.ma (.var 2) .We) .op),(.mf (.ma (.ma (.var 2) .We) .args)),(.ma (.ma (.var 2) .We) .more)])]))],.ret (.Eh (.var 1))] ::
 [.Wc (.nm 2) (.xb false [(.var 1)]),.Wc (.nm 3) (.xb false [(.var 1)]),.bh (.var 3) [.Wc (.nm 4) (.Ez (.var 3)),.Ad (.tp [(.nm 5),(.nm 6)]) (.seq (.var 0)) [.Ad (.tp [(.nm 7),(.nm 8),(.nm 9),(.nm 10),(.nm 11)]) (.seq (.var 5)) [.Pc (.and [(.ta .Eq (.var 8) (.var 4)),(.ta .Eq (.var 7) (.str .slot))]) [.ret .tt] [],.Pc (.and [(.ta .Eq (.var 8) (.var 4)),(.ta .NotIn (.var 7) (.Ba [(.str .load),(.str .call)]))]) [.Ad (.tp [(.nm 12),(.nm 13)]) (.seq (.var 9)) [.Pc (.and [(.ta .Eq (.var 12) (.str .r)),(.ta .NotIn (.var 13) (.var 2))]) [.expr (.append (.var 2) (.var 13)),.expr (.append (.var 3) (.var 13))] []]] []]]],.ret .ff] ::
 [.Wc (.nm 1) (.xb false []),.Ad (.tp [(.nm 2),(.nm 3)]) (.seq (.var 0)) [.Ad (.tp [(.nm 4),(.nm 5),(.nm 6),(.nm 7),(.nm 8)]) (.seq (.var 2)) [.Pc (.ta .Eq (.var 4) (.str .de)) [.expr (.append (.var 1) (.Ma (.var 6) (.int 1)))] [.Pc (.ta .Eq (.var 4) (.str .call)) [.Wc (.nm 1) (.rr (.var 1) (.var 6))] []]],.Pc (.ta .Eq (.Ma (.var 3) (.int 0)) (.str .ic)) [.Wc (.nm 1) (.rr (.var 1) (.Ma (.var 3) (.int 1)))] []],.Ad (.tp [(.nm 9),(.nm 10)]) (.seq (.var 1)) [.Pc (.and [(.ta .Eq (.var 9) (.str .r)),(.call .Fe [(.var 0),(.var 10)])]) [.ret .tt] []],.ret .ff] ::
 [.Wc (.tp [(.nm 3),(.nm 4)]) (.Ma (.var 0) (.var 1)),.Wc (.nm 7) (.Jf true (.tp [(.nm 5),(.nm 6)]) (.fj (.var 3)) (.ta .NotEq (.Ma (.var 6) (.int 0)) (.str .lj)) (.var 5)),.Pc (.or [(.ta .Eq (.var 7) (.xb true [])),(.ta .NotEq (.Ma (.Ma (.var 3) (.Ma (.var 7) (.int (-1)))) (.int 0)) (.str .call)),(.ta .NotEq (.Ma (.Ma (.var 3) (.Ma (.var 7) (.int (-1)))) (.int 3)) (.str .f))]) [.ret (.int (-1))] [],.bh (.and [(.ta .Eq (.Ma (.var 4) (.int 0)) (.str .Ib)),(.ta .Eq (.Ma (.Ma (.var 0) (.Ma (.var 4) (.int 2))) (.int 0)) (.xb true []))]) [.Wc (.nm 4) (.Ma (.Ma (.var 0) (.Ma (.var 4) (.int 2))) (.int 1))],.Pc (.ta .NotEq (.Ma (.var 4) (.int 0)) (.str .ic)) [.ret (.int (-1))] [],.Wc (.nm 8) (.xb true [(.Ma (.Ma (.var 3) (.Ma (.var 7) (.int (-1)))) (.int 1))]),.Ad (.tp [(.nm 9),(.nm 10),(.nm 11),(.nm 12),(.nm 13)]) (.seq (.wh (.var 3) (.Fd .Add (.Ma (.var 7) (.int (-1))) (.int 1)))) [.Wc (.nm 14) (.and [(.ta .Eq (.Ma (.Ma (.var 11) (.int 0)) (.int 0)) (.str .r)),(.ta .In (.Ma (.Ma (.var 11) (.int 0)) (.int 1)) (.var 8))]),.Wc (.nm 8) (.Fd .Add (.Jf true (.nm 15) (.seq (.var 8)) (.ta .NotEq (.var 15) (.var 10)) (.var 15)) (.ite (.var 14) (.xb true [(.var 10)]) (.xb true [])))],.Pc (.and [(.var 2),(.or [(.ta .NotEq (.Ma (.Ma (.Ma (.var 4) (.int 1)) (.int 0)) (.int 0)) (.str .r)),(.ta .NotIn (.Ma (.Ma (.Ma (.var 4) (.int 1)) (.int 0)) (.int 1)) (.var 8))])]) [.ret (.int (-1))] [],.ret (.Ma (.var 7) (.int (-1)))] ::
 [.Wc (.tp [(.nm 3),(.nm 4)]) (.var 0),.Pc (.or [(.ta .NotEq (.gr (.var 3) (.var 2)) (.gr (.Ma (.var 1) (.int 0)) (.var 2))),(.ta .NotEq (.var 4) (.Ba [(.str .Ib),(.xb true []),(.int 0)]))]) [.ret .ff] [],.ret (.all (.comp true (.nm 5) (.seq (.wh (.var 3) (.var 2))) (.ta .In (.Ma (.var 5) (.int 0)) (.Ba [(.str .lj),(.str .Bk)]))))] ::
 [.Pc (.ta .Eq (.var 0) (.str .add)) [.Wc (.nm 3) (.Fd .Add (.var 1) (.var 2))] [.Pc (.ta .Eq (.var 0) (.str .sub)) [.Wc (.nm 3) (.Fd .Sub (.var 1) (.var 2))] [.Pc (.ta .Eq (.var 0) (.str .Oy)) [.Wc (.nm 3) (.Fd .BitXor (.var 1) (.var 2))] [.Pc (.ta .Eq (.var 0) (.str .and)) [.Wc (.nm 3) (.Fd .BitAnd (.var 1) (.var 2))] [.Pc (.ta .Eq (.var 0) (.str .mul)) [.Wc (.nm 3) (.Fd .Mult (.var 1) (.var 2))] [.Wc (.nm 3) (.ite (.ta .Eq (.var 1) (.var 2)) (.int 1) (.int 0))]]]]],.ret (.Fd .Mod (.var 3) (.Tj .size))] ::
 [.Wc (.nm 3) (.dict [(.Tj .Mt),(.int 9)]),.Wc (.tp [(.nm 4),(.nm 5)]) (.Ba [(.xb false []),(.xb false [])]),.Wc (.tp [(.nm 6),(.nm 7)]) (.Ba [(.int 1),(.int 1)]),.Wc (.tp [(.nm 8),(.nm 9),(.nm 10),(.nm 11),(.nm 12)]) (.Ba [(.Th (.var 1) (.var 2)),(.int 0),(.int 0),(.int 1000),(.int (-1))]),.Wc (.nm 13) (.xb false []),.Ad (.nm 14) (.range (.int 2000)) [.Wc (.tp [(.nm 15),(.nm 16)]) (.Ma (.var 0) (.var 9)),.Pc (.ta .Lt (.var 10) (.Pd (.var 15))) [.Wc (.tp [(.nm 17),(.nm 18),(.nm 19),(.nm 20),(.nm 21)]) (.Ma (.var 15) (.var 10)),.Wc (.nm 10) (.Fd .Add (.var 10) (.int 1)),.Wc (.nm 24) (.comp true (.tp [(.nm 22),(.nm 23)]) (.seq (.var 19)) (.ite (.ta .Eq (.var 22) (.str .r)) (.Ma (.var 8) (.var 23)) (.var 23))),.Pc (.and [(.ta .Eq (.var 17) (.str .call)),(.ta .Eq (.var 20) (.str .f))]) [.expr (.append (.var 13) (.Ba [(.var 8),(.var 9),(.var 10),(.var 11),(.var 12)])),.Wc (.tp [(.nm 6),(.nm 7)]) (.Ba [(.Fd .Add (.var 6) (.int 1)),(.max (.var 7) (.Fd .Add (.Pd (.var 13)) (.int 1)))]),.Wc (.tp [(.nm 8),(.nm 9),(.nm 10),(.nm 11),(.nm 12)]) (.Ba [(.Th (.var 1) (.var 24)),(.int 0),(.int 0),(.Fd .Add (.int 1000) (.Fd .Mult (.int 8) (.var 6))),(.var 18)])] [.Pc (.ta .Eq (.var 17) (.str .call)) [.expr (.append (.var 4) (.var 24)),.Ph (.var 8) (.var 18) (.Fd .Mod (.Fd .Add (.Fd .Mult (.Ma (.var 24) (.int 0)) (.int 5)) (.int 1)) (.Tj .size))] [.Pc (.ta .Eq (.var 17) (.str .de)) [.Ph (.var 3) (.Ma (.var 24) (.int 0)) (.Ma (.var 24) (.int 1))] [.Pc (.ta .Eq (.var 17) (.str .load)) [.Ph (.var 8) (.var 18) (.Ma (.var 3) (.Ma (.var 24) (.int 0)))] [.Pc (.ta .In (.var 17) (.Ba [(.str .slot),(.str .name)])) [.Ph (.var 8) (.var 18) (.ite (.ta .Eq (.var 17) (.str .slot)) (.var 11) (.Tj .Mt))] [.Ph (.var 8) (.var 18) (.ite (.ta .Eq (.Pd (.var 24)) (.int 1)) (.Ma (.var 24) (.int 0)) (.call .ui [(.var 17),(.Ma (.var 24) (.int 0)),(.Ma (.var 24) (.int 1))]))]]]]],.Pc (.var 21) [.expr (.append (.var 5) (.Ba [(.var 17),(.var 24),(.Ma (.var 3) (.Ma (.var 24) (.int 0)))]))] []] [.Pc (.ta .Eq (.Ma (.var 16) (.int 0)) (.str .Ib)) [.Wc (.tp [(.nm 9),(.nm 10)]) (.Ba [(.Ma (.var 16) (.int 2)),(.int 0)])] [.Pc (.ta .Eq (.Ma (.var 16) (.int 0)) (.str .branch)) [.Wc (.tp [(.nm 9),(.nm 10)]) (.Ba [(.ite (.ta .NotEq (.Ma (.var 8) (.Ma (.Ma (.Ma (.var 16) (.int 1)) (.int 0)) (.int 1))) (.int 0)) (.Ma (.Ma (.var 16) (.int 2)) (.int 0)) (.Ma (.Ma (.var 16) (.int 2)) (.int 1))),(.int 0)])] [.Wc (.nm 25) (.ite (.ta .NotEq (.Ma (.var 16) (.int 1)) (.xb true [])) (.Ma (.var 8) (.Ma (.Ma (.Ma (.var 16) (.int 1)) (.int 0)) (.int 1))) (.int 0)),.Pc (.ta .Eq (.var 13) (.xb true [])) [.ret (.Ba [(.Ba [(.var 25),(.Eh (.var 4)),(.Eh (.var 5))]),(.var 7)])] [],.Wc (.nm 18) (.var 12),.Wc (.tp [(.nm 8),(.nm 9),(.nm 10),(.nm 11),(.nm 12)]) (.Ez (.var 13)),.Ph (.var 8) (.var 18) (.var 25)]]]],.ret (.Ba [(.Ba [(.int (-1)),(.Eh (.var 4)),(.Eh (.var 5))]),(.var 7)])] ::
 [.Wc (.nm 2) (.xb false [(.comp true (.nm 1) (.seq (.gr (.var 0) (.int 60))) (.Fd .Mod (.var 1) (.int 1000003))),(.int 0)]),.Wc (.tp [(.nm 3),(.nm 4),(.nm 5)]) (.call .vh [(.var 2)]),.Wc (.nm 6) (.dict [(.int 0),(.call .Xc [(.var 2),(.int 100)]),(.int 1),(.call .Xc [(.var 2),(.int 1000)]),(.int 2),(.call .Xc [(.var 2),(.int 7)])]),.Wc (.nm 7) (.call .qm [(.var 3),(.var 4),(.var 5)]),.Wc (.nm 8) (.call .oi [(.var 7)]),.Wc (.nm 9) (.call .Cm [(.var 7)]),.Wc (.nm 10) (.call .zf [(.var 3)]),.Wc (.nm 12) (.comp true (.nm 11) (.range (.int 7)) (.ite (.or [(.var 10),(.ta .NotIn (.var 11) (.Ba [(.int 3),(.int 4)]))]) (.int (-1)) (.call .fh [(.var 3),(.var 11),(.var 5)]))),.Pc (.or [(.not (.Nj (.var 8))),(.ta .NotEq (.var 8) (.ta .NotEq (.var 9) (.var 3))),(.ta .NotEq (.var 8) (.ta .NotEq (.var 12) (.Fd .Mult (.xb true [(.int (-1))]) (.int 7))))]) [.ret .ff] [],.Pc (.or [(.ta .NotEq (.Pd (.var 9)) (.int 7)),(.ta .NotEq (.ma (.var 7) .params) (.var 4)),(.ta .NotEq (.ma (.var 7) .slots) (.xb true [(.Ba [(.int 4),(.int 4)])]))]) [.ret .ff] [],.Ad (.nm 11) (.range (.int 7)) [.Pc (.and [(.ta .Lt (.Ma (.var 12) (.var 11)) (.int 0)),(.ta .NotEq (.Ma (.var 9) (.var 11)) (.Ma (.var 3) (.var 11)))]) [.ret .ff] [],.Pc (.and [(.ta .GtE (.Ma (.var 12) (.var 11)) (.int 0)),(.not (.call .gg [(.Ma (.var 9) (.var 11)),(.Ma (.var 3) (.var 11)),(.Ma (.var 12) (.var 11))]))]) [.ret .ff] []],.Hw [.expr (.call .Pj [(.var 7)])],.Ph (.var 6) (.int 3) (.Fd .Add (.int 2) (.call .Xc [(.var 2),(.int 4)])),.Wc (.nm 14) (.comp true (.nm 13) (.seq (.var 4)) (.Ma (.var 6) (.var 13))),.Wc (.tp [(.nm 15),(.nm 16)]) (.call .pj [(.var 9),(.var 4),(.var 14)]),.Pc (.and [(.ta .GtE (.Ma (.var 12) (.int 3)) (.int 0)),(.ta .GtE (.Ma (.var 12) (.int 4)) (.int 0)),(.ta .NotEq (.var 16) (.int 1))]) [.ret .ff] [],.ret (.ta .Eq (.var 15) (.Ma (.call .pj [(.var 3),(.var 4),(.var 14)]) (.int 0)))]::[]
noncomputable def bu(f:Fn):Nat:=rL.getD f.val 0
noncomputable def we(f:Fn):List S:=uI.getD f.val []
noncomputable def OG(f:Fn):List Str:=AL.getD f.val []
structure Sd(G:Og):Prop where
 call:∀(f:Fn){k:Nat}{vs:List V}{U:Mem}{Q:V->Mem->Prop},vs.length=bu f->Ia G k (we f) (Me 0 vs) U (fun ζ U=>Q .none U) Q->pe G k f vs U Q
theorem ao(H:Sd G){b:Addr}(hb:jd U b n B):qg G k .xj [.ref b] U (Ee B.en.Hk):=fun Q q=>by
 (refine Df (fun sv e as hb g g c=>?_) hb.ex;refine Aa (fun h a=>?_) c;clear c)
 refine H.call .xj rfl (Gb (.ma (.var rfl) hb rfl) ?_);induction f:B.en with
 |Ib m=>rw[f]at a q;exact gb (.ta (.ma (.var rfl) a rfl) .str .wd) rfl (Xa (.xb (.cons (.ma (.var rfl) a rfl) .nil)) q)
 |branch r x y=>rw[f]at a q;refine La (.ta (.ma (.var rfl) a rfl) .str .wd) rfl ?_;exact gb (.ta (.ma (.var rfl) a rfl) .str .wd) rfl (Xa (.xb (.cons (.Ma (.ma (.var rfl) a rfl) .int rfl rfl (wc rfl)) (.cons (.Ma (.ma (.var rfl) a rfl) .int rfl rfl (wc rfl)) .nil))) q)
 |ic o=>rw[f]at a q;refine La (.ta (.ma (.var rfl) a rfl) .str .wd) rfl ?_;refine La (.ta (.ma (.var rfl) a rfl) .str .wd) rfl ?_;refine La (.ta (.ma (.var rfl) a rfl) .str .wd) rfl ?_;exact Xa (.xb .nil) q
noncomputable def zb.cu(Z:Nat):zb->Prop
 | .r n=>n<Z
 | .k n=>n≤4294967295
theorem Wo(H:Sd G){o:zb}{w:V}(b:U F=some (.ib .func (Td ps hv Z J)))(a:o.cu Z):qg G k .ze [.ref F,o.v,w] U .none:=fun Q q=>by
 induction o with
 |r n=>refine H.call .ze rfl (qe (.var rfl) rfl ?_);have:n<Z:=a;exact gb (.ta (.var rfl) .str .wd) rfl (La (.not (.Pg .int (.var rfl) (.ma (.var rfl) b rfl) .le .lt)) (by simp;assumption) (ja (ja q)))
 |k n=>refine H.call .ze rfl (qe (.var rfl) rfl ?_);have:n≤4294967295:=a;exact Ka (.ta (.var rfl) .str .wd) rfl (La (.Ea (.ta (.var rfl) .str (.ne .wd)) fun c=>.Ea (.not (.Pg .int (.var rfl) .Tj .le .le)) fun c=>.ud) (by simp[Gi.val,Gi.mask];exact Int.ofNat_le.mpr (by assumption)) (ja (ja q)))
noncomputable def w1(o:Wd):Bool:=(Gd.Ov.has o != false)||(decide (o=.de)||(decide (o=.yl)||false))
noncomputable def w2(o:Wd):Bool:=(Gd.Qz.has o != false)||(decide (o=.Bk)||(decide (o=.load)||false))
noncomputable def w3(o:Wd):Bool:=decide (o=.slot)||(decide (o=.name)||false)
noncomputable def w4(o:Wd):Bool:=decide (o=.call)||(decide (o=.ig)||false)
noncomputable def bG(o:Wd):Int:=if w1 o then 2 else if w2 o then 1 else if w3 o then 0 else -1
noncomputable def Sa.YA:Sa->Int
 | .name| .slot=>0| .cp ..| .dr ..| .ld ..=>1| .st ..| .ar ..=>2| .Yh ..| .Qg ..=> -1
theorem qy(i:Sa):bG i.op=i.YA∧(w1 i.op||w2 i.op||w3 i.op||w4 i.op)=true:=by
 induction i with
 |ar a _ _ _=>induction a<;>exact⟨rfl,rfl⟩
 |_=>exact⟨rfl,rfl⟩
theorem UA(H:Sd G){i:Sa}(b:Zc U a i):qg G k .Ii [.ref a] U (.int i.YA):=fun Q q=>by
 (revert b;intro e;refine Aa (fun n b=>?_) e;clear e)
 (change let R:Prop:=_;R;intro R);refine Qa (fun m l=>?_)<|qy i
 rw[← m]at q;unfold bG at q;refine H.call .Ii rfl ?_;refine Ug (.Ea (.Ay (.ma (.var rfl) b rfl)) fun c=>.Ea (.ta (.ma (.var rfl) b rfl) .str .wd) fun c=>.Ea (.ta (.ma (.var rfl) b rfl) .str .wd) fun c=>.ud) (fun f=>Xa .int ?_) fun f=>ja ?_
 ·rw[if_pos (show w1 i.op=true from f)]at q;exact q
 rw[if_neg (show ¬w1 i.op=true from fun h=>by rw[show w1 i.op=_ from f]at h;injection h)]at q;refine Ug (.Ea (.Ay (.ma (.var rfl) b rfl)) fun c=>.Ea (.ta (.ma (.var rfl) b rfl) .str .wd) fun c=>.Ea (.ta (.ma (.var rfl) b rfl) .str .wd) fun c=>.ud) (fun g=>Xa .int ?_) fun g=>ja ?_
 ·rw[if_pos (show w2 i.op=true from g)]at q;exact q
 rw[if_neg (show ¬w2 i.op=true from fun h=>by rw[show w2 i.op=_ from g]at h;injection h)]at q;refine Ug (.Ea (.ta (.ma (.var rfl) b rfl) .str .wd) fun c=>.Ea (.ta (.ma (.var rfl) b rfl) .str .wd) fun c=>.ud) (fun j=>Xa .int ?_) fun j=>ja ?_
 ·rw[if_pos (show w3 i.op=true from j)]at q;exact q
 rw[if_neg (show ¬w3 i.op=true from fun h=>by rw[show w3 i.op=_ from j]at h;injection h)]at q;refine gb (.Ea (.ta (.ma (.var rfl) b rfl) .str .wd) fun c=>.Ea (.ta (.ma (.var rfl) b rfl) .str .wd) fun c=>.ud) ?_ (Xa .int q);rw[show w1 i.op=_ from f,show w2 i.op=_ from g,show w3 i.op=_ from j]at l;exact l
theorem Ms(H:Sd G){i:Sa}{w:V}(M:U F=some (.ib .func (Td ps hv Z J)))(l:Zc U a i):qg G k .ji [.ref F,.ref a,w] U .none:=fun Q q=>by
 (revert l;intro v;refine Aa (fun Y l=>?_) v;clear v)
 refine H.call .ji rfl ?_
 have s:i.Fq=false->Ia G k [.Pc (.and [(.ma (.var 1) .Tb),(.ta .NotIn (.ma (.var 1) .op) (.Ba [(.str .load),(.str .de),(.str .yl)]))]) [.Nc] []] (Me 0 [.ref F,.ref a,w]) U (fun u U=>Q .none U) Q:=fun D=>
  La (.ua (r':=true) (.ma (.var rfl) l rfl) fun h=>by rw[D]at h;exact(Fc h).elim) (by refine aa D ?_;rfl) (ja q)
 have z:(i.op=.load∨i.op=.de)->Ia G k [.Pc (.and [(.ma (.var 1) .Tb),(.ta .NotIn (.ma (.var 1) .op) (.Ba [(.str .load),(.str .de),(.str .yl)]))]) [.Nc] []] (Me 0 [.ref F,.ref a,w]) U (fun u U=>Q .none U) Q:=fun N=>
  La (.ua (.ma (.var rfl) l rfl) fun u=>.ua (.ta (.ma (.var rfl) l rfl) (.Ba (.cons .str (.cons .str (.cons .str .nil)))) (.Ri (.Lh rfl rfl (show _=true by refine Or.elim (N) (fun e=>?_) (fun e=>?_)<;>refine aa e ?_<;>rfl)))) fun u=>.Od) (by simp) (ja q)
 have c:∀{t:Wd},Ng G k (Me 0 [.ref F,.ref a,w]) U (.ta .Eq (.ma (.var 1) .op) (.str t)) (decide (i.op=t)):=.ta (.ma (.var rfl) l rfl) .str .wd;have A:(decide (i.op=.load)||decide (i.op=.de)||decide (i.op=.slot)||decide (i.op=.yl)||decide (i.op=.Bk)||decide (i.op=.ig))=false->i.Fq=false->Ia G k (we .ji) (Me 0 [.ref F,.ref a,w]) U (fun u U=>Q .none U) Q:=fun h D=>by
  simp only[Bool.or_eq_false_iff]at h
  (change let R:Prop:=_;R;intro R);(refine Qa (fun B K=>?_) h;clear h;refine Qa (fun p L=>?_) B;clear B;refine Qa (fun j O=>?_) p;clear p;refine Qa (fun g P=>?_) j;clear j;refine Qa (fun T W=>?_) g;clear g)
  refine Ka c T (Ka c W (Ka c P (Ka c O ?_)));refine Ka (.ua (r':=true) c fun h=>by rw[L]at h;exact(Fc h).elim) (by refine aa L ?_;rfl) ?_;exact La (.ua (r':=true) c fun h=>by rw[K]at h;exact(Fc h).elim) (by refine aa K ?_;rfl) (ja (ja (ja (ja (ja (s D))))))
 induction m:i with
 |ld b x f=>subst m;exact gb c rfl (La (.ta (.Ma (.ma (.var rfl) l rfl) .int rfl rfl (wc rfl)) (.Ba (.cons .int (.cons .int (.cons .int .nil)))) (.Ri (.Lh rfl rfl rfl))) rfl (ja (z (.inl rfl))))
 |st x y f=>subst m;exact Ka c rfl (gb c rfl (La (.ta (.ma (.var rfl) l rfl) (.Ba (.cons .int (.cons .int (.cons .int .nil)))) (.Ri (.Lh rfl rfl rfl))) rfl (ja (ja (z (.inr rfl))))))
 |slot=>subst m;exact Ka c rfl (Ka c rfl (gb c rfl (La (.not (.Pg .int (.ma (.var rfl) l rfl) (.Pd (.ma (.var rfl) M rfl) rfl (wc rfl)) .le .lt)) rfl (ja (ja (ja (s rfl)))))))
 |dr b n=>subst m;refine Ka c rfl (Ka c rfl (Ka c rfl (Ka c rfl ?_)));refine Ka (.ua c fun u=>.ua (.ta (.Ma (.Ma (.ma (.var rfl) l rfl) .int rfl rfl (wc rfl)) .int rfl rfl (wc rfl)) .str (.ne .wd)) fun u=>.Od) rfl ?_;exact La (.ua (r':=true) c fun h=>by exact(Fc h).elim) rfl (ja (ja (ja (ja (ja (s rfl))))))
 |ar X b x y=>subst m;exact A (by induction X<;>rfl) rfl
 |name=>subst m;exact A rfl rfl
 |cp b o=>subst m;exact A rfl rfl
 |Yh b x=>subst m;exact A rfl rfl
 |Qg b os=>subst m;exact A rfl rfl
structure Sa.cu(Z:Nat)(i:Sa):Prop where
 args:∀o∈i.args,o.cu Z
 lo : -1≤i.nc
 hi:i.nc<Z
 Pd:i.args.length≤100
theorem oo(H:Sd G){b:List zb}{w:V}(m:U F=some (.ib .func (Td ps hv Z J)))(n:∀o∈b,o.cu Z)(p:qb G (k+1) I U e (Xl b))(a:zc->Prop)(f:∀I x,a I->a (Ca I j x))(q:a I)(s:∀I,a I->I 0=some (.ref F)∧I 2=some w∧j≠0∧j≠2)(c:∀I,a I->Ia G (k+1) ss I U Kn Kr):Ia G (k+1) (.Ad (.nm j) (.seq e) [.expr (.call .ze [(.var 0),(.var j),(.var 2)])]::ss) I U Kn Kr:=by
 refine lh p (xe (l:=b.map zb.v)) (fun as I=>a I∧∀o∈as,o.cu Z) (ye.map zb.v b) ⟨q,n⟩ trivial (fun o as x I K t h u=>?_) fun I h=>c I h.1
 ·refine aa t ?_
  (change let R:Prop:=_;R;intro R);(refine Qa (fun g i=>?_) h;clear h)
  refine nf (fun v y A B=>?_)<|s _ (f I o.v g)
  refine vb (Wr (.cons (.var v) (.cons (.var (show Ca I j o.v j=some o.v by unfold Ca;refine aa (Nat.beq_refl _) ?_;rfl)) (.cons (.var y) .nil))) (Wo H m (i o (.head _))) (ja (u _ ⟨(f I o.v g),fun z h'=>i z (.tail _ h')⟩)))
theorem zt(H:Sd G){i:Sa}{w:V}(m:U F=some (.ib .func (Td ps hv Z J)))(u:Zc U a i)(p:i.cu Z):qg G (k+1) .Lj [.ref F,.ref a,w] U .none:=fun Q q=>by
 (change let R:Prop:=_;R;intro R);refine Aa (fun B g=>?_)<|id u
 refine H.call .Lj rfl (Gb (.call (.cons (.var rfl) .nil) (UA H u)) ?_);have s:(i.YA≥0->(i.args.length:Int)=i.YA):=by induction i<;>first|(intro _;rfl)|(intro h;exact absurd h (show ¬((0:Int)≤ -1) by exact Ub rfl))
 refine La (.ua (.ta (.var rfl) .int .ge) fun v=>.ua (.ta (.Pd (.ma (.var rfl) g rfl) rfl (by refine aa (sd _) ?_;exact bc p.Pd (by decide))) (.var rfl) (.ne .Ag)) fun e=>.Od) ?_ ?_
 ·refine aa (sd _) ?_;by_cases v:0≤i.YA
  ·refine aa (decide_eq_true (s v)) ?_;simp
  ·refine aa (decide_eq_false v) ?_;rfl
 refine oo (j:=4) H m p.args (.ma (.var rfl) g rfl) (fun I=>I 0=some (.ref F)∧I 1=some (.ref a)∧I 2=some w) (fun I x h=>h) ⟨rfl,rfl,rfl⟩ (fun I h=>⟨h.1,h.2.2,by exact Mo rfl,by exact Mo rfl⟩) fun I h=>?_
 (change let R:Prop:=_;R;intro R);(refine Nb (fun n l A=>?_) h;clear h)
 refine Wr (.cons (.var n) (.cons (.var l) (.cons (.var A) .nil))) (Ms H m u) ?_;have c:∀{t:Wd},Ng G (k+1) I U (.ta .Eq (.ma (.var 1) .op) (.str t)) (decide (i.op=t)):=.ta (.ma (.var l) g rfl) .str .wd;have l2:=p.hi;induction i with
 |st x y f=>exact gb (.Ea c fun h=>nomatch h) (r:=true||true) rfl (La (.ta (.ma (.var l) g rfl) .int (.ne .Ag)) rfl (ja (ja q)))
 |Yh b x=>refine Ka (.Ea c fun e=>.Ea c fun e=>.ud) rfl (gb (.Ea c fun h=>nomatch h) (r:=true||true) rfl (La (.not (.Pg .int (.ma (.var l) g rfl) (.ma (.var n) m rfl) .le .lt)) ?_ (ja (ja (ja q)))));refine aa (decide_eq_true p.lo) (aa (decide_eq_true l2) ?_);rfl
 |Qg b x=>refine Ka (.Ea c fun e=>.Ea c fun e=>.ud) rfl (gb (.Ea c fun h=>nomatch h) (r:=true||true) rfl (La (.not (.Pg .int (.ma (.var l) g rfl) (.ma (.var n) m rfl) .le .lt)) ?_ (ja (ja (ja q)))));refine aa (decide_eq_true p.lo) (aa (decide_eq_true l2) ?_);rfl
 |ar z b x y=>refine Ka (.Ea c fun e=>.Ea c fun e=>.ud) (by cases z<;>rfl) (Ka (.Ea c fun e=>.Ea c fun e=>.ud) (by cases z<;>rfl) (La (.not (.Pg .int (.ma (.var l) g rfl) (.ma (.var n) m rfl) .le .lt)) ?_ (ja (ja (ja q)))));refine aa (decide_eq_true l2) ?_;rfl
 |name=>exact Ka (.Ea c fun e=>.Ea c fun e=>.ud) rfl (Ka (.Ea c fun e=>.Ea c fun e=>.ud) rfl (La (.not (.Pg .int (.ma (.var l) g rfl) (.ma (.var n) m rfl) .le .lt)) (by refine aa (decide_eq_true l2) ?_;rfl) (ja (ja (ja q)))))
 |slot=>exact Ka (.Ea c fun e=>.Ea c fun e=>.ud) rfl (Ka (.Ea c fun e=>.Ea c fun e=>.ud) rfl (La (.not (.Pg .int (.ma (.var l) g rfl) (.ma (.var n) m rfl) .le .lt)) (by refine aa (decide_eq_true l2) ?_;rfl) (ja (ja (ja q)))))
 |cp b o=>exact Ka (.Ea c fun e=>.Ea c fun e=>.ud) rfl (Ka (.Ea c fun e=>.Ea c fun e=>.ud) rfl (La (.not (.Pg .int (.ma (.var l) g rfl) (.ma (.var n) m rfl) .le .lt)) (by refine aa (decide_eq_true l2) ?_;rfl) (ja (ja (ja q)))))
 |dr b o=>exact Ka (.Ea c fun e=>.Ea c fun e=>.ud) rfl (Ka (.Ea c fun e=>.Ea c fun e=>.ud) rfl (La (.not (.Pg .int (.ma (.var l) g rfl) (.ma (.var n) m rfl) .le .lt)) (by refine aa (decide_eq_true l2) ?_;rfl) (ja (ja (ja q)))))
 |ld b o f=>exact Ka (.Ea c fun e=>.Ea c fun e=>.ud) rfl (Ka (.Ea c fun e=>.Ea c fun e=>.ud) rfl (La (.not (.Pg .int (.ma (.var l) g rfl) (.ma (.var n) m rfl) .le .lt)) (by refine aa (decide_eq_true l2) ?_;rfl) (ja (ja (ja q)))))
structure En.cu(hv:Bool)(Z nb:Nat)(e:En):Prop where
 args:∀o∈e.args,o.cu Z
 Hk:∀n∈e.Hk,n<nb
 ic:∀o,e=.ic o->o.isSome=hv
theorem fu(H:Sd G){b:Addr}{w:V}(t:U F=some (.ib .func (Td ps hv Z J)))(u:U J=some (.list (Ab bs)))(z:bs.length≤100)(hb:jd U b n B)(s:B.en.cu hv Z bs.length) : qg G (k+1) .Dj [.ref F,.ref b,w] U .none:=fun Q q=>by
 (refine Df (fun sv e as A c c i=>?_)<|id hb.ex;refine Aa (fun Y a=>?_) i;clear i)
 refine H.call .Dj rfl (Gb (.ma (.var rfl) A rfl) ?_);refine La (.Ea (r:=false) (r':=false) (.ta (.var rfl) .none (.isNone rfl)) fun c=>.as (.Ea (.Ay (.ma (.var rfl) a rfl)) fun c=>.ud) (by induction B.en<;>rfl)) rfl ?_
 have f:∀m:Int,(B.en.args.length:Int)=m->∀I:zc,I 0=some (.ref F)->I 1=some (.ref b)->I 2=some w->I 3=some (.ref e)->I 4=some (.int m)->
  Ia G (k+1) ((we .Dj).drop 3) I U (fun c U=>Q .none U) Q:=fun m L I g D M N P=>by
  refine La (.ta (.Pd (.ma (.var N) a rfl) rfl (by refine aa (sd _) ?_;induction B.en with|ic o=>induction o<;>exact wc rfl|_=>exact wc rfl)) (.var P) (.ne .Ag)) (by refine aa (sd _) (aa (decide_eq_true L) ?_);rfl) ?_;refine oo (j:=5) H t s.args (.ma (.var N) a rfl) (fun I=>I 0=some (.ref F)∧I 1=some (.ref b)∧I 2=some w) (fun I x h=>h) ⟨g,D,M⟩ (fun I h=>⟨h.1,h.2.2,by exact Mo rfl,by exact Mo rfl⟩) fun I h=>?_
  (refine Nb (fun g D M=>?_) h;clear h)
  refine lh (.call (.cons (.var D) .nil) (ao H hb)) (xe (l:=B.en.Hk.map fun(n:Nat)=>V.int n)) (fun as I=>I 0=some (.ref F)∧∀n∈as,n<bs.length) (ye.map _ B.en.Hk) ⟨g,s.Hk⟩ trivial (fun m as x I K T h W=>?_) fun I c=>ja q
  ·refine aa T ?_
   (change let R:Prop:=_;R;intro R);(refine Qa (fun g O=>?_) h;clear h)
   have L:=O m (.head _);refine vb (La (.not (.Pg .int (.var rfl) (.Pd (.ma (.var g) t rfl) (zg u) (by unfold Ab;refine aa (sd _) ?_;exact bc z (by exact Pa rfl))) .le .lt)) ?_ (ja (W _ ⟨g,fun n X=>O n (.tail _ X)⟩)));unfold Ab;refine aa (sd _) (aa (decide_eq_true (vo m)) (aa (decide_eq_true (show(m:Int)<bs.length by exact Int.ofNat_lt.mpr (by assumption))) ?_));rfl
 induction p:B.en with
 |Ib m=>rw[p]at a f;exact Ka (.ta (.ma (.var rfl) a rfl) .str .wd) rfl (Gb (.ite (r:=true) (.ta (.ma (.var rfl) a rfl) .str .wd) (fun c=>.int) fun h=>nomatch h) (ja (f 0 rfl _ rfl rfl rfl rfl rfl)))
 |branch r x y=>rw[p]at a f;exact Ka (.ta (.ma (.var rfl) a rfl) .str .wd) rfl (Gb (.ite (r:=false) (.ta (.ma (.var rfl) a rfl) .str .wd) (fun h=>nomatch h) fun c=>.int) (ja (f 1 rfl _ rfl rfl rfl rfl rfl)))
 |ic o=>
  rw[p]at a f;refine gb (.ta (.ma (.var rfl) a rfl) .str .wd) rfl (Gb (v:=.int (if o.isSome then 1 else 0)) (.ite (.ma (.var rfl) t rfl) (fun h=>?_) fun h=>?_) (ja (f _ ?_ _ rfl rfl rfl rfl rfl)))
  ·refine aa (s.ic o p) (aa h ?_);exact .int
  ·refine aa (s.ic o p) (aa h ?_);exact .int
  ·induction o<;>rfl
theorem so(H:Sd G){b:List zb}{l:List Nat}{w:V}(g:U x=some (.set l m))(i:∀n,zb.r n∈b->n∈l):qg G k .sj [Xl b,.ref x,w] U .none:=fun Q q=>by
 refine H.call .sj rfl ?_;refine lh (.var rfl) (xe (l:=b.map zb.v)) (fun as I=>I 1=some (.ref x)∧∀n,zb.r n∈as->n∈l) (ye.map zb.v b) ⟨rfl,i⟩ trivial (fun o as y I K e h p=>?_) fun I h=>ja q
 ·refine aa e ?_;clear e
  (change let R:Prop:=_;R;intro R);(refine Qa (fun c f=>?_) h;clear h)
  have a:=fun I h=>p I ⟨h,fun n s=>f n (.tail _ s)⟩;induction o with
  |r n=>refine Oe rfl (La (.ua (.ta (.var rfl) .str .wd) fun t=>.ua (.ta (.var rfl) (.var c) (.Ri (.fJ g))) fun t=>.Od) ?_ (ja (a _ c)));have:(l.any fun j=>(j:Int)==(n:Int))=true:=List.any_eq_true.mpr ⟨n,f n (.head _),by simp⟩;refine aa this ?_;rfl
  |k n=>exact Oe rfl (La (.ua (r':=true) (.ta (.var rfl) .str .wd) fun h=>nomatch h) rfl (ja (a _ c)))
theorem Tc{c:Type}(f:Addr->c)(a:Addr)(x y:c):Ga (Ga f a x) a y=Ga f a y:=by
 funext b;unfold Ga;by_cases h:b=a
 ·simp[h]
 ·simp[h]
theorem Sub.Ga(h:Sub U0 U)(c:U0 a=none)(x:Option MO):Sub U0 (Ga U a x):=fun b m q=>by
 by_cases e:b=a
 ·subst e;rw[c]at q;injection q
 ·refine aa (qa _ _ e) ?_;exact h b m q
theorem Sub.ne{b:Addr}{m:MO}(c:U a=none)(hb:U b=some m):b≠a:=fun h=>by rw[h,c]at hb;injection hb
theorem ia{b:Addr}{m:MO}{x:Option MO}(hb:U b=some m)(h:b≠a):Mine.Ga U a x b=some m:=by refine aa (qa _ _ h) ?_;exact hb
theorem Wa{b:Addr}{m n:MO}(c:U a=some m)(hb:U b=some n)(h:m≠n):a≠b:=fun e=>by subst e;rw[c]at hb;(replace hb:=(Bb hb).symm;subst hb);exact h rfl
theorem Eg(h:Ff G k I U es vs)(q:Md U (.list vs) Q):wb G k false (.xb false es) I U Q:=by exact h _ q
theorem yq(h:Ff G k I U es vs)(a:ll vs=some kvs)(q:Md U (.dict (Of kvs)) Q):wb G k false (.dict es) I U Q:=by exact h _ ⟨kvs,a,q⟩
theorem xp{l:List Nat}(h:qb G k I U e (.ref x))(a:U x=some (.set l m))(b:(m=7∧l.length≤4)∨(m=31∧8≤l.length∧l.length≤15))(q:Md U (.set l m) Q):wb G k false (.Pk e) I U Q:=by exact h _ (.inr (Jj x l m rfl a b q))
theorem rA{a:List Nat}(h:qb G k I U e (.fl l))(b:jh l=some a)(c:a.length≤4∧∀n∈a,n≤7)(q:Md U (.set (a.foldl (fun acc n=>Be n acc) []) 7) Q):wb G k false (.Pk e) I U Q:=by exact h _ (.inl (Af l a rfl b c q))
theorem rC{o:E}(h:qb G k I U o (.ref x))(a:U x=some (.list l))(b:l.getLast?=some y)(c:l.length≤Ac)(q:Q y (Ga U x (some (.list l.dropLast)))):wb G k false (.Ez o) I U Q:=by exact h _ (Qw x l y rfl a b c q)
theorem Jc{f:Fn}(h:Ff G (k+1) I U es vs)(q:pe G k f vs U Q):wb G (k+1) false (.call f es) I U Q:=by exact h _ q
theorem mq(h:qb G k I U e (.ref x))(a:U x=some (.list l))(q:Q (.fl l) (Ga U x none)):wb G k false (.Eh e) I U Q:=by refine⟨rfl,h _ ?_⟩;dsimp only;refine aa a ?_;exact q
theorem wA{a b:E}{x:V}{m:List V}(c:qb G k I U a x)(hb:qb G k I U b y)(e:lv U x=some l)(f:lv U y=some m)(g:l.length≤Ac)(h:m.length≤Ac)(q:Md U (.list (l++m)) Q):wb G k false (.rr a b) I U Q:=by exact c _ (hb _ (Af l m e f ⟨g,h⟩ q))
theorem Ej{g:Type}{R:g->V->Prop}{c:Mem->Prop}{step:V->Mem->(Option V->Mem->Prop)->Prop}(f:g->Option V)(b:c U)(hs:∀a x(K:Option V->Mem->Prop),R a x->K (f a) U->step x U K){K:List V->Mem->Prop} : ∀{as:List g}{l:List V}{acc:List V},ye R as l->acc.length+as.length≤Ac->K (acc++as.filterMap f) U->bj c step K l acc U
 | [],[],acc,_,_,h=>by simp at h;exact⟨b,h⟩
 |a::as,x::l,acc,⟨h1,h2⟩,hl,h=>by
  simp only[List.length_cons]at hl;refine⟨⟨b,by exact bc (pn _ _) (by assumption)⟩,hs a x _ h1 ?_⟩;rw[List.filterMap_cons]at h;induction e:f a with
  |none=>rw[e]at h;exact Ej f b hs h2 (show acc.length+as.length≤Ac by exact Nat.le_of_lt (by assumption)) h
  |some v=>rw[e]at h;exact Ej f b hs h2 (by simp;lia) (by simpa using h)
 | [],_::_,_,h,_,_=>h.elim
 |_::_,[],_,h,_,_=>h.elim
theorem vB{b:Type}{R:b->V->Prop}{v:V}{as:List b}{S:Mem->Prop}(c:qb G k I U e v)(hv:∀Q:Ln->Prop,Q ⟨l,S⟩->Zj U v Q)(f:b->V)(g:ye R as l)(h:S U)(i:as.length≤Ac)(hs:∀a x(K:V->Mem->Prop),R a x->K (f a) U->Oh t x U I fun I=>wb G k false elt I U K)(q:if Eh=true then Q (.fl (as.map f)) U else Md U (.list (as.map f)) Q):wb G k false (.comp Eh t (.seq e) elt) I U Q:=by refine aa pF ?_;refine c _ (hv _ (Ej (fun a=>some (f a)) h (fun a x K j m=>hs a x _ j m) g (by simpa using i) ?_));simpa using q
theorem qb.comp{b:Type}{R:b->V->Prop}{v:V}{as:List b}{S:Mem->Prop}(c:qb G k I U e v)(hv:∀Q:Ln->Prop,Q ⟨l,S⟩->Zj U v Q)(f:b->V)(g:ye R as l)(h:S U)(i:as.length≤Ac)(hs:∀a x(K:V->Mem->Prop),R a x->K (f a) U->Oh t x U I fun I=>wb G k false elt I U K):qb G k I U (.comp true t (.seq e) elt) (.fl (as.map f)):=fun Q q=>by exact vB c hv f g h i hs (by exact q)
theorem qb.Jf{g:Type}{R:g->V->Prop}{c:E}{v:V}{as:List g}{S:Mem->Prop}(s:qb G k I U e v)(hv:∀Q:Ln->Prop,Q ⟨l,S⟩->Zj U v Q)(p:g->Bool)(f:g->V)(m:ye R as l)(u:S U)(n:as.length≤Ac)(hs:∀a x(K:zc->Prop),R a x->(∀I',Ng G k I' U c (p a)->qb G k I' U elt (f a)->K I')->Oh t x U I K):qb G k I U (.Jf true t (.seq e) c elt) (.fl ((as.filter p).map f)):=fun Q q=>by
 refine s _ (hv _ (Ej (fun a=>if p a=true then some (f a)else Option.none) u (fun a x K w i=>hs a x _ w fun I' hb j=>?_) m (by simpa using n) ?_))
 ·refine hb (fun b U=>if b=true then wb G k false elt I' U fun v U=>K (some v) U else K Option.none U) ?_;by_cases h:p a=true
  ·rw[if_pos h]at i ⊢;exact j _ i
  ·rw[if_neg h]at i ⊢;exact i
 ·refine aa (if_pos rfl) ?_;have:([]:List V)++as.filterMap (fun a=>if p a=true then some (f a)else Option.none)=(as.filter p).map f:=by
   refine aa (List.nil_append _) ?_;clear m n hs q;induction as with
   |nil=>rfl
   |cons a as o=>
    by_cases h:p a=true
    ·exact aa List.filterMap_cons (aa (if_pos h) (aa (List.filter_cons_of_pos h) (aa List.map_cons (Cb o rfl))))
    ·exact aa List.filterMap_cons (aa (if_neg h) (aa (List.filter_cons_of_neg h) (Cb o rfl)))
  refine aa this ?_;exact q
theorem Vf{o:MO}(h:∀Q,Md U o Q->wb G k false e I U Q)(q:∀a,U a=none->Ia G k ss (Ca I i (.ref a)) (Ga U a (some o)) Kn Kr):Ia G k (.Wc (.nm i) e::ss) I U Kn Kr:=
 Ob (h _ fun a b=>vb (q a b))
theorem mE{o:E}{l:List Nat}{n:Int}(b:qb G k I U o (.ref x))(c:qb G k I U e (.int n))(a:U x=some (.set l m))(f:0≤n)(hs:Bf l m n.toNat=some (l',m'))(q:Ia G k ss I (Ga U x (some (.set l' m'))) Kn Kr):Ia G k (.expr (.Bf o e)::ss) I U Kn Kr:=by refine tj ?_;exact b _ ⟨⟨_,_,_,rfl,a⟩,c _ ⟨x,n,l,m,l',m',rfl,rfl,a,f,hs,q⟩⟩
theorem km{c:E}(a:Nat->zc->Mem->Prop)(e:a n I U)(hs:∀n I U,a n I U->∃b,Ng G k I U c b∧(b=false->Ia G k ss I U Kn Kr)∧(b=true->∀K:zc->Mem->Prop,(∀m I U,m<n->a m I U->K I U)->Ia G k body I U K Kr)) : Ia G k (.bh c body::ss) I U Kn Kr:=by
 refine aa my (aa yL ?_);refine⟨a,n,e,fun n I U h=>?_⟩;refine Pb (fun b hb f g=>?_)<|hs n I U h
 refine hb _ ?_;induction b with
 |true=>refine aa (if_pos rfl) ?_;exact g rfl _ fun m I U i j=>⟨m,i,j⟩
 |false=>refine aa (if_neg (by exact Ub rfl)) ?_;exact f rfl
theorem Bn{c:E}(a:Nat->zc->Prop)(f:a n I)(hs:∀n I,a n I->∃b,Ng G k I U c b∧(b=false->Ia G k ss I U Kn Kr)∧(b=true->∀K:zc->Mem->Prop,(∀m I,m<n->a m I->K I U)->Ia G k body I U K Kr)) : Ia G k (.bh c body::ss) I U Kn Kr:=
 km (fun n I U'=>U'=U∧a n I) ⟨rfl,f⟩ fun n I U' h=>by refine aa h.1 ?_;exact Pb (fun b g i j=>cc b g i (fun e K l=>j e K fun m I o p=>l m I U o ⟨rfl,p⟩)) (hs n I h.2)
theorem Ci{c:Type}{R:c->V->Prop}{body:List S}{v:V}{as:List c}{S:Mem->Prop}(g:qb G k I U e v)(hv:∀Q:Ln->Prop,Q ⟨l,S⟩->kg U v Q)(b:List c->zc->Mem->Prop)(h:ye R as (Aj 0 l))(i:b as I U)(j:∀as I U,b as I U->S U)(hs:∀a as x I U(K:zc->Mem->Prop),R a x->b (a::as) I U->(∀I' U',b as I' U'->K I' U')->Oh t x U I fun I=>Ia G k body I U K Kr)(f:∀I U,b [] I U->Ia G k ss I U Kn Kr):Ia G k (.Ad t (.fj e) body::ss) I U Kn Kr:=by refine aa my (aa mK ?_);exact g _ (hv _ (mm b j hs f h i))
theorem Es{c:Type}{R:c->V->Prop}{body:List S}{v:V}{as:List c}{S:Mem->Prop}(i:qb G k I U e v)(hv:∀Q:Ln->Prop,Q ⟨l,S⟩->kg U v Q)(b:List c->zc->Prop)(j:ye R as (Aj 0 l))(m:b as I)(n:S U)(hs:∀a as x I(K:zc->Mem->Prop),R a x->b (a::as) I->(∀I',b as I'->K I' U)->Oh t x U I fun I=>Ia G k body I U K Kr)(f:∀I,b [] I->Ia G k ss I U Kn Kr):Ia G k (.Ad t (.fj e) body::ss) I U Kn Kr:=
 Ci i hv (fun as I U'=>U'=U∧b as I) j ⟨rfl,m⟩ (fun g g g h=>h.1.symm▸n) (fun a as x I U' K o h p=>by refine aa h.1 ?_;exact hs a as x I K o h.2 fun I' h'=>p I' U ⟨rfl,h'⟩) fun I U' h=>by refine aa h.1 ?_;exact f I h.2
theorem dw{e:Type}{R:e->V->Prop}{a b:E}{body:List S}{v h:V}{l':List V}{as:List e}{S i:Mem->Prop}(j:qb G k I U a v)(hb:qb G k I U b h)(hv:∀Q:Ln->Prop,Q ⟨l,S⟩->kg U v Q)(f:∀Q:Ln->Prop,Q ⟨l',i⟩->kg U h Q)(m:l.length=l'.length)(c:List e->zc->Mem->Prop)(n:ye R as (To l l'))(o:c as I U)(p:∀as I U,c as I U->S U∧i U)(hs:∀a as x I U(K:zc->Mem->Prop),R a x->c (a::as) I U->(∀I' U',c as I' U'->K I' U')->Oh t x U I fun I=>Ia G k body I U K Kr)(g:∀I U,c [] I U->Ia G k ss I U Kn Kr):Ia G k (.Ad t (.zip a b) body::ss) I U Kn Kr:=by refine aa my (aa mK (aa wL ?_));exact j _ (hb _ (hv _ (f _ ⟨m,mm c p hs g n o⟩)))
theorem Jm(c:n≤Ac)(f:qb G k I U e (.int n))(a:Nat->zc->Mem->Prop)(g:a n I U)(hs:∀m j I U(K:zc->Mem->Prop),m+1+j=n->a (m+1) I U->(∀I' U',a m I' U'->K I' U')->Oh t (.int (j:Nat)) U I fun I=>Ia G k body I U K Kr)(b:∀I U,a 0 I U->Ia G k ss I U Kn Kr):Ia G k (.Ad t (.range e) body::ss) I U Kn Kr:=by
 refine aa my ?_;refine f _ ⟨⟨vo n,by exact_mod_cast c⟩,?_⟩;have key:∀m j I U,m+j=n->a m I U->aj (fun l=>True) (fun x I U K=>Oh t x U I fun I=>Ia G k body I U K Kr) (fun I U=>Ia G k ss I U Kn Kr) (dj j m) I U:=by
  intro m;induction m with
  |zero=>intro j I U _ h;exact⟨trivial,b _ _ h⟩
  |succ m i=>intro j I U e h;exact⟨trivial,hs m j I U _ e h fun I' U' h'=>i (j+1) I' U' (by lia) h'⟩
 exact key n 0 I U (by rfl) g
theorem Hq(Q:Ln->Prop)(q:Q ⟨l,fun a=>True⟩):kg U (.fl l) Q:=.inl ⟨l,rfl,q⟩
theorem Lx(h:U a=some (.list l))(Q:Ln->Prop)(q:Q ⟨l,fun U=>U a=some (.list l)⟩):kg U (.ref a) Q:=.inr (qf a l rfl h q)
theorem ye.set{b c:Type}{R:b->c->Prop}:∀{l:List b}{m:List c}(i:Nat){x:b}{y:c},ye R l m->R x y->ye R (l.set i x) (m.set i y)
 | [],[],_,_,_,_,_=>trivial
 |_::_,_::_,0,_,_,⟨_,h⟩,r=>⟨r,h⟩
 |_::_,_::_,i+1,_,_,⟨a,h⟩,r=>⟨a,h.set i r⟩
 | [],_::_,_,_,_,h,_=>h.elim
 |_::_,[],_,_,_,h,_=>h.elim
theorem ye.Ab{f:Type}{R:Addr->f->Prop}:∀{l:List Addr}{m:List f},ye R l m->ye (fun b x=>∃a,x=V.ref a∧R a b) m (Mine.Ab l):=by
 intro e;induction e with
 |nil=>
  intro c h;rcases c with _|⟨g,i⟩
  ·exact trivial
  ·exact h.elim
 |cons a j p=>
  intro c h;rcases c with _|⟨n,o⟩
  ·exact h.elim
  ·obtain⟨h,r⟩:=h;exact⟨⟨a,rfl,h⟩,p r⟩
theorem oq{v:V}(h:lv U v=some l):∃S:Mem->Prop,(∀Q:Ln->Prop,Q ⟨l,S⟩->Zj U v Q)∧∀U',lv U' v=some l->S U':=by
 cases v with
 |fl m=>refine aa (Bb h) ?_;exact⟨fun b=>True,fun Q q=>.inr (.inl ⟨l,rfl,q⟩),fun b b=>trivial⟩
 |ref a=>
  have key:∀U:Mem,lv U (.ref a)=some l->U a=some (.list l):=fun U h=>by
   have h:(match U a with|some (.list l)=>some l|_=>none)=some l:=h;split at h
   ·rename_i e;refine Cb (Bb h) ?_;exact e
   ·exact nomatch h
  exact⟨fun U=>U a=some (.list l),fun Q q=>Vi (key U h) Q q,key⟩
 |_=>exact nomatch h
abbrev SS:=List Nat×Nat
noncomputable def mj:SS->List Sa->Option SS
 |s,[]=>some s
 |s,i::r=>if 0≤i.nc then(match Bf s.1 s.2 i.nc.toNat with|some s'=>mj s' r|none=>none)else mj s r
noncomputable def ZJ(s:SS):Prop:=(s.2=7∧s.1.length≤4)∨(s.2=31∧8≤s.1.length∧s.1.length≤15)
structure Flow(E O:Nat->SS)(P:List xd):Prop where
 af:∀i B,P[i]?=some B->mj (E i) B.la=some (O i)
 lj:∀i,i<P.length->ZJ (E i)
 Hk:∀i B j,P[i]?=some B->j∈B.en.Hk->j<P.length∧((E j).1.length≤(O i).1.length∧∀x∈(E j).1,x∈(O i).1)∧(j≠0->E j=O i)
noncomputable def QE(U:Mem)(v:V):Option SS->Prop
 |none=>v=.none
 |some s=>∃a,v=.ref a∧U a=some (.set s.1 s.2)
noncomputable def fm(U:Mem)(K:Addr)(kn:List (Option SS)):Prop:=∃vs,U K=some (.list vs)∧ye (QE U) vs kn
theorem QE.za(h:∀a s,U a=some (.set s.1 s.2)->U' a=some (.set (s:SS).1 s.2))(v:V)(o:Option SS)(q:QE U v o):QE U' v o:=by
 induction o with
 |none=>exact q
 |some s=>(refine ya (fun a e b=>?_) q;clear q);exact⟨a,e,h a s b⟩
theorem fm.za{K:Addr}{kn:List (Option SS)}(h:Sub U U')(q:fm U K kn):fm U' K kn:=
 ya (fun vs b c=>⟨vs,h _ _ b,c.za (QE.za fun a s=>h a _)⟩) q
theorem ye.vm(U:Mem):∀bs:List Addr,ye (QE U) (bs.map fun c=>V.none) (bs.map fun c=>(none:Option SS)):=by
 intro a;induction a with
 |nil=>exact trivial
 |cons b bs e=>exact⟨rfl,e⟩
theorem fm.Pn{K:Addr}{kn:List (Option SS)}{o:Option SS}(q:fm U K kn)(h:kn[i]?=some o):∃vs v,U K=some (.list vs)∧vs.length=kn.length∧vs[i]?=some v∧QE U v o:=by
 (refine ya (fun vs b a=>?_) q;clear q)
 refine ya (fun v c e=>?_)<|a.Pn h
 exact⟨vs,v,b,a.Pd,c,e⟩
theorem fm.put{K:Addr}{kn:List (Option SS)}{s:SS}(i:Nat)(q:fm U K kn)(hv:U K=some (.list vs))(f:U a=some (.set s.1 s.2)):fm (Ga U K (some (.list (vs.set i (.ref a))))) K (kn.set i (some s)):=by
 (change let R:Prop:=_;R;intro R);(refine ya (fun g c h=>?_) q;clear q)
 rw[hv]at c;(replace c:=Bb c;cases c);have k:∀(b:Addr)(s:SS),U b=some (.set s.1 s.2)->Ga U K (some (.list (vs.set i (.ref a)))) b=some (.set s.1 s.2):=fun b s hb=>ia hb (fun e=>by rw[e,hv]at hb;(replace hb:=Bb hb;cases hb));exact⟨_,da ..,(h.za (QE.za k)).set i ⟨a,rfl,k _ _ f⟩⟩
theorem fm.other{K:Addr}{kn:List (Option SS)}(q:fm U K kn)(f:U W=some (.list l))(c:K≠W)(x:Option MO):fm (Ga U W x) K kn:=by
 (refine ya (fun vs g h=>?_) q;clear q)
 exact⟨vs,ia g c,h.za (QE.za fun a s b=>ia b (fun e=>by rw[e,f]at b;(replace b:=Bb b;cases b)))⟩
noncomputable def vm:List (Option SS)->Nat
 | []=>0
 |none::r=>vm r+1
 |some _::r=>vm r
theorem vn:∀{kn:List (Option SS)}{i:Nat}(s:SS),kn[i]?=some none->vm (kn.set i (some s))+1=vm kn
 | [],_,_,h=>by simp at h
 |o::r,0,s,h=>by simp at h;subst h;rfl
 |none::r,i+1,s,h=>by have:=vn (kn:=r) (i:=i) s (by exact h);exact congrArg _ (by assumption)
 |some _::r,i+1,s,h=>by have:=vn (kn:=r) (i:=i) s (by exact h);exact this
theorem Kp:∀kn:List (Option SS),vm kn≤kn.length
 | []=>tf _
 |none::r=>Nat.succ_le_succ (Kp r)
 |some _::r=>Nat.le_succ_of_le (Kp r)
theorem Ur{K:Mem->Prop}(h:U a=some (.list l))(b:j<l.length)(c:l.length≤Ac)(q:K (Ga U a (some (.list (l.set j y))))):Xp U (.ref a) (.int j) y K:=by exact qf a j rfl rfl (.inl (cc l h ⟨vo j,Int.ofNat_lt.mpr b,c⟩ q))
theorem Pp{o i:E}(h:wb G k false e I U fun y U=>wb G k false o I U fun x U=>wb G k false i I U fun j U=>Xp U x j y fun U=>Ia G k ss I U Kn Kr):Ia G k (.Ph o i e::ss) I U Kn Kr:=by exact h
theorem kc(h:l[j]?=some y):uk l (j:Int)=some y:=by unfold uk;exact h
theorem uh.GJ{y:Addr}{l m:List Nat}{p q:Nat}(a:U x=some (.set l p))(b:U y=some (.set m q))(h:l.length≤m.length)(h':∀i∈l,i∈m):uh U .LtE (.ref x) (.ref y) true:=fun Q c=>by
 refine .inr ⟨x,y,l,p,m,q,rfl,rfl,a,b,?_⟩;have:(decide (l.length≤m.length)&&l.all fun i=>m.contains i)=true:=by
  (refine aa (decide_eq_true h) (aa (Bool.true_and _) ?_);rewrite[List.all_eq_true])
  intro i e;simpa using h' i e
 refine aa this ?_;exact c
theorem Ek:∀l:List Nat,jh (l.map fun(n:Nat)=>V.int n)=some l:=by
 intro b;induction b with
 |nil=>exact rfl
 |cons a l c=>refine(?_:(if 0≤(a:Int)then(jh (l.map fun(n:Nat)=>V.int n)).map (((a:Int)).toNat::·)else none)=_);refine aa (if_pos (vo a)) (aa c ?_);rfl
set_option tactic.hygienic true in
theorem Zw{f:Mem}{N:Addr}(v:f N=none)(F:j≠n){s s':SS}{sv:V}{as:List Addr}{w:List Sa}(Y:qb G k I (Ga f N (some (.set s.1 s.2))) e sv)(y:lv f sv=some (Ab as))(hr:ye (Zc f) as w)(ha:mj s w=some s')(hn:I n=some (.ref N))(b:SS->List Sa->Prop)(H:b s w)(T:∀t i r,b t (i::r)->(0≤i.nc->∀D,Bf t.1 t.2 i.nc.toNat=some D->b D r)∧(¬0≤i.nc->b t r))(c:zc->Prop)(L:∀I x,c I->c (Ca I j x))(h0:c I)(pre:∀i I a s K,i∈w->c I->I j=some (.ref a)->I n=some (.ref N)->f a=some (.ib .step (i.fs s))->∀t:SS,(∃r,b t (i::r))->Ia G k [.Pc (.ta .GtE (.ma (.var j) .nc) (.int 0)) [.expr (.Bf (.var n) (.ma (.var j) .nc))] []] I (Ga f N (some (.set t.1 t.2))) K Kr->Ia G k body I (Ga f N (some (.set t.1 t.2))) K Kr)(M:∀I,c I->I n=some (.ref N)->b s' []->Ia G k ss I (Ga f N (some (.set s'.1 s'.2))) Kn Kr) : Ia G k (.Ad (.nm j) (.seq e) body::ss) I (Ga f N (some (.set s.1 s.2))) Kn Kr:=by
 refine ya (fun St h1 h2=>?_)<|oq ((Sub.new v (some (.set s.1 s.2))).lv y)
 refine rf Y h1 (fun is I U'=>(∃t:SS,U'=Ga f N (some (.set t.1 t.2))∧mj t is=some s'∧b t is)∧c I∧I n=some (.ref N)∧∀i∈is,i∈w) hr.Ab ⟨⟨s,rfl,ha,H⟩,h0,hn,fun O h=>h⟩ (fun is I U' h=>?_) (fun i is x I U' K W h X=>?_) fun I U' h=>?_
 ·(refine Qa (fun g O=>?_) h;clear h;refine ya (fun t l O=>?_) g;clear g;refine aa l ?_)
  exact h2 _ ((Sub.new v _).lv y)
 ·(refine ya (fun a P z=>?_) W;clear W;refine aa P ?_;refine Aa (fun ln m=>?_) z;clear z)
  (refine nf (fun g A q Q=>?_) h;clear h;refine Pb (fun t l o B=>?_) g;clear g;refine aa l ?_)
  have p:Ca I j (.ref a) n=some (.ref N):=by
   unfold Ca;induction e:Nat.beq n j with
   |true=>exact absurd (Nat.eq_of_beq_eq_true e).symm F
   |false=>exact q
  refine vb (pre i _ a ln K (Q i (.head _)) (L _ _ A) (by unfold Ca;refine aa (Nat.beq_refl _) ?_;rfl:Ca I j (.ref a) j=some (.ref a)) p m t ⟨is,B⟩ ?_);replace o:(if 0≤i.nc then(match Bf t.1 t.2 i.nc.toNat with|some s'=>mj s' is|none=>none)else mj t is)=some s':=o;by_cases u:0≤i.nc
  ·rw[if_pos u]at o;split at o
   ·rename_i D hs;refine gb (.ta (.ma (.var (by unfold Ca;refine aa (Nat.beq_refl _) ?_;rfl:Ca I j (.ref a) j=some (.ref a))) (ia m ((Sub.ne v m):a≠N)) rfl) .int .ge) (decide_eq_true u) (mE (.var p) (.ma (.var (by unfold Ca;refine aa (Nat.beq_refl _) ?_;rfl:Ca I j (.ref a) j=some (.ref a))) (ia m ((Sub.ne v m):a≠N)) rfl) (da ..) u hs ?_);rewrite[Tc];exact ja (ja (X _ _ ⟨⟨D,rfl,o,(T _ _ _ B).1 u _ hs⟩,L _ _ A,p,fun R h'=>Q R (.tail _ h')⟩))
   ·injection o
  ·rw[if_neg u]at o;exact La (.ta (.ma (.var (by unfold Ca;refine aa (Nat.beq_refl _) ?_;rfl:Ca I j (.ref a) j=some (.ref a))) (ia m ((Sub.ne v m):a≠N)) rfl) .int .ge) (decide_eq_false u) (ja (X _ _ ⟨⟨t,rfl,o,(T _ _ _ B).2 u⟩,L _ _ A,p,fun R h'=>Q R (.tail _ h')⟩))
 ·(refine nf (fun g A q O=>?_) h;clear h;refine Pb (fun t l o B=>?_) g;clear g;refine aa l ?_)
  (replace o:=(Bb o).symm;subst o)
  exact M I A q B
structure iA(U0 U:Mem)(K W:Addr)(nb:Nat)(E:Nat->SS)(kn:List (Option SS))(wl:List Nat):Prop where
 sub:Sub U0 U
 YH:fm U K kn
 w:U W=some (.list (wl.map fun(n:Nat)=>V.int n))
 ok:∀i s,kn[i]?=some (some s)->s=E i
 wk:∀i∈wl,kn[i]?=some (some (E i))
 z:kn[0]?=some (some (E 0))
 Pd:kn.length=nb
theorem Pq(H:Sd G){E O:Nat->SS}(hF:Ce U F J ps hv Z bs P)(Fl:Flow E O P)(hE:E 0=(ps.foldl (fun acc n=>Be n acc) [],7))(cn:ps.length≤4∧∀n∈ps,n≤7)(hP:0<P.length)(Ua:P.length≤100)(q:∀U' K kn,Sub U U'->fm U' K kn->kn.length=P.length->(∀i s,kn[i]?=some (some s)->s=E i)->Q (.ref K) U'):pe G (k+1) .Fi [.ref F] U Q:=by
 have D:=hF.jc.Pd;have p:P.length≤Ac:=bc Ua (by exact Pa rfl);refine H.call .Fi rfl ?_;refine Vf (o:=.list (bs.map fun c=>V.none)) (fun Q q=>vB (R:=fun b x=>x=V.ref b) (as:=bs) (.ma (.var rfl) hF.f rfl) (Vi hF.bl) (fun c=>V.none) (ye.map V.ref bs) hF.bl (by exact D▸p) (fun a x K h1 h2=>vb (qb.none _ h2)) (by exact q)) fun K hK=>?_;refine Pp (rA (.ma (.var rfl) (hF.za (Sub.new hK (some (.list (bs.map fun c=>V.none))))).f rfl) (Ek ps) cn fun a ha=>?_);refine qb.var rfl _ (qb.int _ (Ur (j:=0) ((ia (da ..) ((Sub.ne ha (da U K (some (.list (bs.map fun c=>V.none))))):K≠a)):Ga (Ga U K (some (.list (bs.map fun c=>V.none)))) a (some (.set (ps.foldl (fun acc n=>Be n acc) []) 7)) K=some (.list (bs.map fun c=>V.none))) (by refine aa (sd _) (aa D ?_);exact hP) (by refine aa (sd _) (aa D ?_);exact p) ?_));have Ya:fm (Ga (Ga U K (some (.list (bs.map fun c=>V.none)))) a (some (.set (ps.foldl (fun acc n=>Be n acc) []) 7))) K (bs.map fun c=>(none:Option SS)):=⟨_,((ia (da ..) ((Sub.ne ha (da U K (some (.list (bs.map fun c=>V.none))))):K≠a)):Ga (Ga U K (some (.list (bs.map fun c=>V.none)))) a (some (.set (ps.foldl (fun acc n=>Be n acc) []) 7)) K=some (.list (bs.map fun c=>V.none))),by
  exact ye.vm _ bs⟩
 have z:=Ya.put (a:=a) (s:=E 0) 0 ((ia (da ..) ((Sub.ne ha (da U K (some (.list (bs.map fun c=>V.none))))):K≠a)):Ga (Ga U K (some (.list (bs.map fun c=>V.none)))) a (some (.set (ps.foldl (fun acc n=>Be n acc) []) 7)) K=some (.list (bs.map fun c=>V.none))) (by refine aa hE ?_;exact da ..);have s2:=(((Sub.new hK _).trans (Sub.new ha _)):Sub U (Ga (Ga U K (some (.list (bs.map fun c=>V.none)))) a (some (.set (ps.foldl (fun acc n=>Be n acc) []) 7)))).Ga hK (some (.list ((bs.map fun c=>V.none).set 0 (.ref a))));generalize mb:Ga (Ga (Ga U K (some (.list (bs.map fun c=>V.none)))) a (some (.set (ps.foldl (fun acc n=>Be n acc) []) 7))) K (some (.list ((bs.map fun c=>V.none).set 0 (.ref a))))=U1 at z s2 ⊢;refine Vf (o:=.list [.int 0]) (fun Q q=>Eg (.cons .int .nil) q) fun W hW=>?_;have ba:U W=none:=by
  induction e:U W with
  |none=>rfl
  |some m=>have:=s2 _ _ e;rw[hW]at this;exact nomatch this
 have ka:iA U (Ga U1 W (some (.list [.int 0]))) K W P.length E ((bs.map fun c=>(none:Option SS)).set 0 (some (E 0))) [0]:=by
  refine⟨s2.Ga ba _,z.za (Sub.new hW _),da ..,fun i s h=>?_,fun i hi=>?_,?_,(by exact aa List.length_set (aa (sd _) (aa D rfl)):((bs.map fun c=>(none:Option SS)).set 0 (some (E 0))).length=P.length)⟩
  ·by_cases e:i=0
   ·subst e;rw[List.getElem?_set_self (by refine aa (sd _) (aa D ?_);exact hP)]at h
    (replace h:=Bb h;cases h);rfl
   ·rw[List.getElem?_set_ne (Ne.symm e),List.getElem?_map]at h;induction hb:bs[i]?<;>rw[hb]at h<;>(first|(exact nomatch h;done)|(replace h:=Bb h;exact nomatch h))
  ·rw[List.mem_singleton]at hi;refine aa hi ?_;exact List.getElem?_set_self (by refine aa (sd _) (aa D ?_);exact hP)
  ·exact List.getElem?_set_self (by refine aa (sd _) (aa D ?_);exact hP)
 refine km (fun n I U'=>I 0=some (.ref F)∧I 2=some (.ref K)∧I 3=some (.ref W)∧∃kn A,iA U U' K W P.length E kn A∧2*vm kn+A.length=n∧n≤201) (n:=_) ⟨rfl,rfl,rfl,_,_,ka,rfl,by have:=Kp ((bs.map fun c=>(none:Option SS)).set 0 (some (E 0)));rw[ka.Pd]at this;refine(?_:2*_+1≤201);lia⟩ ?_
 (intro n I U' xa;(refine nf (fun l0 l2 l3 w=>?_) xa;clear xa;refine Cd (fun kn A g hn rb=>?_) w;clear w))
 refine⟨!A.isEmpty,.as (.ta (.var l3) (.xb .nil) (.ne (.nil g.w))) (by induction A<;>rfl),fun c=>Xa (.var l2) (q U' K kn g.sub g.YH g.Pd g.ok),fun hb sb ab=>?_⟩;have bb:A.length≤Ac:=bc (show A.length≤201 by lia) (by exact Ub rfl);rcases List.eq_nil_or_concat A with rfl|⟨M,jc,rfl⟩
 ·exact(Fc hb).elim
 simp only[List.concat_eq_append]at *;obtain⟨B,hB⟩:∃B,P[jc]?=some B:=⟨_,List.getElem?_eq_getElem (by refine Cb g.Pd ?_;exact(Ro (g.wk jc (by simp))).1:jc<P.length)⟩;refine Ob (rC (y:=.int jc) (.var l3) g.w (by simp) (by simpa using bb) (vb ?_));refine aa (by simp:((M++[jc]).map fun(n:Nat)=>V.int n).dropLast=M.map fun(n:Nat)=>V.int n) ?_;have f:iA U (Ga U' W (some (.list (M.map fun(n:Nat)=>V.int n)))) K W P.length E kn M:=⟨g.sub.Ga ba _,g.YH.other g.w (by(refine ya (fun vs h1 c=>?_) z;clear z);exact Sub.ne hW h1:K≠W) _,da ..,g.ok,fun i hi=>g.wk i (by simp[hi]),g.z,g.Pd⟩;generalize Ga U' W (some (.list (M.map fun(n:Nat)=>V.int n)))=U2 at f ⊢
 (change let R:Prop:=_;R;intro R);(refine Ig (fun vs v L T cb w=>?_)<|f.YH.Pn (g.wk jc (by simp));refine ya (fun a' za eb=>?_) w;clear w;subst za)
 refine Vf (o:=.set (E jc).1 (E jc).2) (fun Q q=>xp (.Ma (.var l2) (.var rfl) (zg L) (kc cb) (by refine aa T (aa g.Pd ?_);exact p)) eb (Fl.lj jc (by refine Cb g.Pd ?_;exact(Ro (g.wk jc (by simp))).1:jc<P.length)) q) fun N hN=>?_
 (change let R:Prop:=_;R;intro R);refine ya (fun b Ea Ha=>?_)<|(hF.za f.sub).jc.Pn hB
 (change let R:Prop:=_;R;intro R);refine Df (fun sv e as fb kb ra ob=>?_) Ha.ex
 refine Zw hN (j:=6) (n:=5) (by exact Mo rfl) (.ma (.Ma (.ma (.var l0) ((hF.za f.sub).za ((Sub.new hN _):Sub U2 (Ga U2 N (some (.set (E jc).1 (E jc).2))))).f rfl) (.var rfl) (zg ((hF.za f.sub).za ((Sub.new hN _):Sub U2 (Ga U2 N (some (.set (E jc).1 (E jc).2))))).bl) (kc (by unfold Ab;refine aa List.getElem?_map (aa Ea ?_);rfl)) (by exact(by unfold Ab;exact aa (sd _) (aa D rfl):(Ab bs).length=P.length)▸p)) (((Sub.new hN _):Sub U2 (Ga U2 N (some (.set (E jc).1 (E jc).2)))) _ _ fb) rfl) kb ra (Fl.af jc B hB) rfl (fun c c=>True) trivial (fun c c c c=>⟨fun c c c=>trivial,fun c=>trivial⟩) (fun I=>I 0=some (.ref F)∧I 2=some (.ref K)∧I 3=some (.ref W)∧I 4=some (.int jc)) (fun I x h=>h) ⟨l0,l2,l3,rfl⟩ (fun i I a s K c c c c c t c h=>h) fun I h h5 c=>?_
 (change let R:Prop:=_;R;intro R);(refine nf (fun l0 l2 l3 l4=>?_) h;clear h)
 have u:Sub U2 (Ga U2 N (some (.set (O jc).1 (O jc).2))):=Sub.new hN _
 refine rf (.call (.cons (.Ma (.ma (.var l0) ((hF.za f.sub).za u).f rfl) (.var l4) (zg ((hF.za f.sub).za u).bl) (kc (by unfold Ab;refine aa List.getElem?_map (aa Ea ?_);rfl)) (by exact(by unfold Ab;exact aa (sd _) (aa D rfl):(Ab bs).length=P.length)▸p)) .nil) (ao H (Ha.za u))) (xe (l:=B.en.Hk.map fun(n:Nat)=>V.int n))
  (fun js I U'=>I 0=some (.ref F)∧I 2=some (.ref K)∧I 3=some (.ref W)∧I 5=some (.ref N)∧(∀j∈js,j∈B.en.Hk)∧U' N=some (.set (O jc).1 (O jc).2)∧∃kn A,iA U U' K W P.length E kn A∧2*vm kn+A.length<n) (ye.map _ B.en.Hk)
  ⟨l0,l2,l3,h5,fun c h=>h,da ..,kn,M,((⟨f.sub.trans u,f.YH.za u,u _ _ f.w,f.ok,f.wk,f.z,f.Pd⟩):iA U (Ga U2 N (some (.set (O jc).1 (O jc).2))) K W P.length E kn M),by refine Cb hn ?_;simp⟩ (fun c c c c=>trivial) (fun j js x I U' K' hx h la=>?_) fun I U' h=>?_
 ·rw[hx]at *;clear hx
  (change let R:Prop:=_;R;intro R);(refine XC (fun l0 l2 l3 l5 hj Y w=>?_) h;clear h;refine pd (fun kn A g hm=>?_) w;clear w)
  (change let R:Prop:=_;R;intro R);(refine Nb (fun ea fa Ra=>?_)<|Fl.Hk jc B j hB (hj j (.head _));refine Qa (fun lb sa=>?_) fa;clear fa)
  have Ta:∀j'∈js,j'∈B.en.Hk:=fun j' h'=>hj j' (.tail _ h');obtain⟨o,ho⟩:∃o,kn[j]?=some o:=⟨_,List.getElem?_eq_getElem (by exact g.Pd▸ea)⟩
  (change let R:Prop:=_;R;intro R);refine Ig (fun vs v L T ua hv=>?_)<|g.YH.Pn ho
  refine vb ?_;induction o with
  |none=>
   subst hv;have wa:j≠0:=fun e=>by subst e;rw[g.z]at ho;(replace ho:=Bb ho;cases ho)
   refine gb (.ta (.Ma (.var l2) (.var rfl) (zg L) (kc ua) (by refine aa T (aa g.Pd ?_);exact p:vs.length≤Ac)) .none (.isNone rfl)) rfl (Pp (xp (.var l5) Y (by refine Cb (Ra wa) ?_;exact Fl.lj j ea) fun a ha=>?_));have X:Sub U' (Ga U' a (some (.set (O jc).1 (O jc).2))):=Sub.new ha _;refine qb.var (show Ca I 7 (V.int (j:Nat)) 2=some (.ref K) from l2) _ ?_;refine qb.var rfl _ ?_;refine Ur (X _ _ L) (by refine aa T (aa g.Pd ?_);exact ea) (by refine aa T (aa g.Pd ?_);exact p:vs.length≤Ac) ?_;refine md (.var l3) (.var rfl) ((ia (X _ _ g.w) (by(refine ya (fun vs h1 c=>?_) z;clear z);exact Sub.ne hW h1:K≠W).symm):Ga (Ga U' a (some (.set (O jc).1 (O jc).2))) K (some (.list (vs.set j (.ref a)))) W=some (.list (A.map fun(n:Nat)=>V.int n))) (by simpa using((bc (show A.length≤201 by lia) (by exact Ub rfl)):A.length≤Ac)) (ja (ja (la _ _ ⟨l0,l2,l3,l5,Ta,?_,kn.set j (some (O jc)),A++[j],?_,?_⟩)))
   ·refine ia (ia (X _ _ Y) ?_) ?_
    ·exact Wa Y L (fun e=>by exact nomatch e)
    ·exact Wa Y g.w (fun e=>by exact nomatch e)
   ·have pa:(kn.set j (some (O jc)))[j]?=some (some (E j)):=by exact aa (List.getElem?_set_self (by exact g.Pd▸ea)) (aa (Ra wa) rfl)
    refine⟨(((g.sub.trans X).Ga hK _).Ga ba _),((g.YH.za X).put (s:=O jc) j (X _ _ L) (da ..)).other ((ia (X _ _ g.w) (by(refine ya (fun vs h1 c=>?_) z;clear z);exact Sub.ne hW h1:K≠W).symm):Ga (Ga U' a (some (.set (O jc).1 (O jc).2))) K (some (.list (vs.set j (.ref a)))) W=some (.list (A.map fun(n:Nat)=>V.int n))) (by(refine ya (fun vs h1 c=>?_) z;clear z);exact Sub.ne hW h1:K≠W) _,by refine aa (da _ _ _) ?_;simp,fun i s h=>?_,fun i hi=>?_,?_,by refine aa List.length_set ?_;exact g.Pd⟩
    ·by_cases e:i=j
     ·subst e;rw[pa]at h;(replace h:=Bb h;cases h);rfl
     ·rw[List.getElem?_set_ne (Ne.symm e)]at h;exact g.ok i s h
    ·by_cases e:i=j
     ·refine aa e ?_;exact pa
     ·refine aa (List.getElem?_set_ne (Ne.symm e)) ?_;refine Or.elim (List.mem_append.mp hi) (fun hi=>?_) (fun hi=>?_)
      ·exact g.wk i hi
      ·exact absurd (Jd hi) e
    ·refine aa (List.getElem?_set_ne wa) ?_;exact g.z
   ·have:=vn (O jc) ho;refine aa List.length_append (aa List.length_singleton ?_);exact TK (by assumption) (by assumption)
  |some s=>
   (change let R:Prop:=_;R;intro R);(refine ya (fun a fa ha=>?_) hv;clear hv;subst fa)
   have es:=g.ok j s ho;subst es;refine Ka (.ta (.Ma (.var l2) (.var rfl) (zg L) (kc ua) (by refine aa T (aa g.Pd ?_);exact p:vs.length≤Ac)) .none (.isNone rfl)) rfl (La (.not (.ta (.Ma (.var l2) (.var rfl) (zg L) (kc ua) (by refine aa T (aa g.Pd ?_);exact p:vs.length≤Ac)) (.var l5) (.GJ ha Y lb sa))) rfl (ja (ja (la _ _ ⟨l0,l2,l3,l5,Ta,Y,kn,A,g,hm⟩))))
 ·(change let R:Prop:=_;R;intro R);(refine XC (fun l0 l2 l3 l5 c c w=>?_) h;clear h;refine pd (fun kn A g hm=>?_) w;clear w)
  exact ja (ab _ _ _ hm ⟨l0,l2,l3,kn,A,g,rfl,by lia⟩)
noncomputable def Mf:Nat->List xd->List (Nat×xd)
 |_,[]=>[]
 |n,B::P=>(n,B)::Mf (n+1) P
theorem Sn:∀{n:Nat}{P:List xd}{p:Nat×xd},p∈Mf n P->∃j,p.1=n+j∧P[j]?=some p.2:=by
 intro n a;induction a generalizing n with
 |nil=>intro p h;exact nomatch h
 |cons B P b=>
  intro p h;rcases pg h with rfl|h
  ·exact(pb 0 rfl rfl)
  ·refine ya (fun j c e=>?_)<|b h
   exact(pb (j+1) (by lia) (by assumption))
theorem Ao:∀{n:Nat}{bs:List Addr}{P:List xd},Dc U n bs P->ye (fun(p:Nat×xd) x=>∃b,x=.Ba [.int p.1,.ref b]∧jd U b p.1 p.2) (Mf n P) (Aj n (Ab bs)):=by
 intro c e;induction e generalizing c with
 |nil=>
  intro a h;rcases a with _|⟨f,g⟩
  ·exact trivial
  ·exact h.elim
 |cons b i m=>
  intro a h;rcases a with _|⟨j,l⟩
  ·exact h.elim
  ·obtain⟨h,r⟩:=h;exact⟨(pb b rfl h),m r⟩
noncomputable def yC(a:List zb):SS->List Sa->Prop
 |s,[]=>∀n,zb.r n∈a->n∈s.1
 |s,i::r=>(∀n,zb.r n∈i.args->n∈s.1)∧(0≤i.nc->∀s',Bf s.1 s.2 i.nc.toNat=some s'->yC a s' r)∧(¬0≤i.nc->yC a s r)
structure Ox(E O:Nat->SS)(ps:List Nat)(hv:Bool)(Z:Nat)(P:List xd):Prop where
 UH:Flow E O P
 e0:E 0=(ps.foldl (fun acc n=>Be n acc) [],7)
 p7:ps.length≤4∧∀n∈ps,n≤7
 CL:∀n∈ps,n<Z∧(ps.map fun(n:Nat)=>V.int n).countP (fun z=>V.eqv z (.int n))≤1
 pos:0<P.length
 small:P.length≤100
 la:∀(i:Nat)(B:xd),P[i]?=some B->∀r∈B.la,r.cu Z
 sD:∀(i:Nat)(B:xd),P[i]?=some B->B.en.cu hv Z P.length
 rq:∀(i:Nat)(B:xd),P[i]?=some B->yC B.en.args (E i) B.la
theorem qb.Yl{o:E}{v:V}(a:qb G k I U o v)(hv:lv U v=some l)(b:qb G k I U e y)(c:V.zj 8 l=true)(f:V.ok 8 y=true)(g:l.length≤Ac):qb G k I U (.Yl o e) (.int (l.countP fun z=>V.eqv z y)):=fun Q q=>by exact a _ ⟨by refine aa hv ?_;rfl,b _ (cc l hv (yc c f g) q)⟩
theorem qb.xk{i:Int}(h:qb G k I U e (.int i))(a:0≤i∧i<1000000):qb G k I U (.xk e) (.gn 16):=fun Q q=>by exact h _ (cc i rfl a q)
theorem vp.YK{a b:Wd}:vp U .Add (.wd a) (.wd b) (.gn 32):=fun c q=>.inr (.inl (qf a b rfl rfl q))
theorem vp.aJ(a:n≤1000)(b:m≤1000):vp U .Add (.gn n) (.gn m) (.gn (n+m)):=fun c q=>.inr (.inr (.inl ⟨n,rfl,.inr (Kj m rfl a b q)⟩))
theorem dm:∀l:List Nat,V.zj 8 (l.map fun(n:Nat)=>V.int n)=true:=by
 intro b;induction b with
 |nil=>exact rfl
 |cons a l c=>refine(?_:(true&&V.zj 8 (l.map fun(n:Nat)=>V.int n))=true);refine aa c ?_;rfl
theorem rt(H:Sd G){E O:Nat->SS}(f:Ce U F J ps hv Z bs P)(c:Ox E O ps hv Z P):rm G (k+1+1) .Pj [.ref F] U .none:=fun Q q=>by
 have y:=f.jc.Pd;have z:P.length≤Ac:=bc c.small (by exact Pa rfl);have ua:(Ab bs).length=P.length:=by unfold Ab;exact aa (sd _) (aa y rfl)
 refine H.call .Pj rfl ?_;refine La (.ta (.ma (.var rfl) f.f rfl) (.xb .nil) (.nil f.bl)) (by induction bs with|nil=>rw[← y]at ua;have:=c.pos;rw[← y]at this;exact absurd this (by exact Ub rfl)|cons b bs=>rfl) ?_;refine lh (.ma (.var rfl) f.f rfl) (xe (l:=ps.map fun(n:Nat)=>V.int n)) (fun ns I=>I 0=some (.ref F)∧∀n∈ns,n∈ps) (ye.map _ ps) ⟨rfl,fun D h=>h⟩ trivial (fun n ns x I K w h Y=>?_) fun I h=>?_
 ·refine aa w ?_
  (refine Qa (fun l0 hn=>?_) h;clear h)
  refine Qa (fun h1 h2=>?_)<|c.CL n (hn n (.head _))
  refine vb (La (.Ea (.not (.Pg .int (.var rfl) (.ma (.var l0) f.f rfl) .le .lt)) fun D=>.Ea (.ta (.Yl (.ma (.var l0) f.f rfl) rfl (.var rfl) (dm ps) rfl (by refine aa (sd _) ?_;exact bc c.p7.1 (by decide))) .int .gt) fun D=>.ud) ?_ (ja (Y _ ⟨l0,fun n' h'=>hn n' (.tail _ h')⟩)));refine aa (decide_eq_true (vo n)) (aa (decide_eq_true (show(n:Int)<Z by exact Int.ofNat_lt.mpr (by assumption))) (aa (decide_eq_false (by omega)) ?_));rfl
 have l0:=h.1;clear h;refine lh (.ma (.var l0) f.f rfl) (xe (l:=[.Ba [.int 4,.int 4]])) (R:=fun(_:Unit) x=>x=.Ba [.int 4,.int 4]) (as:=[()]) (fun D I=>I 0=some (.ref F)) ⟨rfl,trivial⟩ l0 trivial (fun v vs x I K w l0 Y=>?_) fun I l0=>?_
 ·refine aa w ?_;exact Oe rfl (La (.Ea (.ta (.var rfl) .int .lt) fun D=>.Ea (.ta (.var rfl) (.Ba (.cons .int (.cons .int (.cons .int .nil)))) (.Ri (.Lh rfl rfl rfl))) fun D=>.ud) rfl (ja (Y _ l0)))
 have T:∀p∈Mf 0 P,P[p.1]?=some p.2:=fun p hp=>by
  refine ya (fun j h1 h2=>?_)<|Sn hp
  refine aa h1 (aa (Nat.zero_add _) ?_);exact h2
 refine Es (.ma (.var l0) f.f rfl) (Lx f.bl) (fun ps I=>I 0=some (.ref F)∧∀p∈ps,P[p.1]?=some p.2) (Ao f.jc) ⟨l0,T⟩ f.bl (fun p ps x I K w h Y=>?_) fun I h=>?_
 ·obtain⟨i,B⟩:=p
  (refine ya (fun b g hb=>?_) w;clear w;refine aa g ?_)
  (refine Qa (fun l0 hm=>?_) h;clear h)
  have hB:=hm _ (.head _);have hi:i<P.length:=(Ro hB).1;refine Df (fun sv e as A L m W=>?_)<|id hb.ex
  refine Oe rfl (Gb (.Fd (.Fd (.ma (.var l0) f.f rfl) .str .YK) (.xk (.var rfl) ⟨vo i,by refine(?_:(i:Int)<1000000);lia⟩) (.aJ (by exact Ub rfl) (by exact Ub rfl))) ?_);refine La (.ta (.ma (.var rfl) A rfl) (.var rfl) (.ne .Ag)) (by refine aa (decide_eq_true rfl) ?_;rfl) ?_;refine ya (fun St h1 h2=>?_)<|oq L
  refine lh (.ma (.var rfl) A rfl) h1 (fun is I=>I 0=some (.ref F)∧I 5=some (.ref b)∧I 6=some (.gn 48)∧∀r∈is,r∈B.la) m.Ab (lg l0 rfl rfl (fun D h=>h)) (h2 _ L) (fun r is x I K' w h ba=>?_) fun I h=>?_
  ·(refine ya (fun a g ea=>?_) w;clear w;refine aa g ?_)
   (refine nf (fun l0 l5 X hr=>?_) h;clear h)
   exact vb (Wr (.cons (.var l0) (.cons (.var rfl) (.cons (.var X) .nil))) (zt H f.f ea (c.la i B hB r (hr r (.head _)))) (ja (ba _ (lg l0 l5 X (fun r' h'=>hr r' (.tail _ h'))))))
  ·(refine nf (fun l0 l5 X D=>?_) h;clear h)
   exact Wr (.cons (.var l0) (.cons (.var l5) (.cons (.var X) .nil))) (fu H f.f f.bl (by exact y▸c.small) hb (by exact y▸c.sD i B hB)) (ja (Y _ ⟨l0,fun p h'=>hm p (.tail _ h')⟩))
 have l0:=h.1;clear h;refine Ob (Jc (.cons (.var l0) .nil) (Pq H f c.UH c.e0 c.p7 c.pos c.small fun U1 K kn pa Y M wa=>vb ?_));have F1:=f.za pa;refine Ci (.ma (.var l0) F1.f rfl) (Lx F1.bl) (fun ps I U'=>Sub U1 U'∧I 0=some (.ref F)∧I 8=some (.ref K)∧∀p∈ps,P[p.1]?=some p.2) (Ao F1.jc) (lg (Sub.refl _) l0 rfl T) (fun D I U' h=>h.1 _ _ F1.bl) (fun p ps x I U' K' w h ba=>?_) fun I U' h=>?_
 ·obtain⟨i,B⟩:=p
  (refine ya (fun b g hb=>?_) w;clear w;refine aa g ?_)
  (refine nf (fun hs l0 l8 hm=>?_) h;clear h)
  have hi:i<P.length:=(Ro (hm _ (.head _))).1;obtain⟨o,ho⟩:∃o,kn[i]?=some o:=⟨_,List.getElem?_eq_getElem (by exact M▸hi)⟩;refine Ig (fun vs v fa ka la hv=>?_)<|(Y.za hs).Pn ho
  have next:∀I U',Sub U1 U'->I 0=some (.ref F)->I 8=some (.ref K)->K' I U':=fun I U' h1 h2 h3=>ba _ _ (lg h1 h2 h3 (fun p h'=>hm p (.tail _ h')))
  induction o with
  |none=>subst hv;exact Oe rfl (La (.ta (.Ma (.var l8) (.var rfl) (zg fa) (kc la) (by refine aa ka (aa M ?_);exact z:vs.length≤Ac)) .none (.gx rfl)) rfl (ja (next _ _ hs l0 l8)))
  |some s=>
   (refine ya (fun a g ha=>?_) hv;clear hv;subst g)
   have es:=wa i s ho;subst es;refine Oe rfl (gb (.ta (.Ma (.var l8) (.var rfl) (zg fa) (kc la) (by refine aa ka (aa M ?_);exact z:vs.length≤Ac)) .none (.gx rfl)) rfl (Vf (o:=.set (E i).1 (E i).2) (fun Q q=>xp (.Ma (.var l8) (.var rfl) (zg fa) (kc la) (by refine aa ka (aa M ?_);exact z:vs.length≤Ac)) ha (c.UH.lj i hi) q) fun N hN=>?_));have u:∀s:SS,Sub U' (Ga U' N (some (.set s.1 s.2))):=fun s=>Sub.new hN _
   (refine Df (fun sv e as A L m ra=>?_)<|id (hb.za hs).ex;refine Aa (fun ln W=>?_) ra;clear ra)
   refine Gb (.Fd (.Fd (.ma (.var l0) ((F1.za hs).za (u (E i))).f rfl) .str .YK) (.xk (.var rfl) ⟨vo i,by refine(?_:(i:Int)<1000000);lia⟩) (.aJ (by exact Ub rfl) (by exact Ub rfl))) ?_;refine Zw hN (j:=7) (n:=9) (by exact Mo rfl) (.ma (.var rfl) (u (E i) _ _ A) rfl) L m (c.UH.af i B (hm _ (.head _))) rfl (yC B.en.args) (c.rq i B (hm _ (.head _))) (fun t r rs h=>h.2) (fun I=>I 0=some (.ref F)∧I 5=some (.ref b)∧I 6=some (.gn 48)∧I 8=some (.ref K)) (fun I x h=>h) (lg l0 rfl rfl l8) (fun r I a s K2 hr hI l7 l9 ea t hu q=>?_) fun I hI l9 hu=>?_
   ·(revert hu;intro sa;refine Aa (fun rs hu=>?_) sa;clear sa)
    (refine nf (fun D l5 X D=>?_) hI;clear hI)
    exact Wr (.cons (.ma (.var l7) (u t _ _ ea) rfl) (.cons (.var l9) (.cons (.var X) .nil))) (so H (da ..) hu.1) q
   ·(refine nf (fun l0 l5 X l8=>?_) hI;clear hI)
    exact Wr (.cons (.ma (.ma (.var l5) (u (O i) _ _ A) rfl) (u (O i) _ _ W) rfl) (.cons (.var l9) (.cons (.var X) .nil))) (so H (da ..) hu) (ja (ja (next _ _ (hs.trans (u (O i))) l0 l8)))
 ·exact ja (q _ (pa.trans h.1))
theorem ko(l m:List (Int×V))(i:Int):Bd (l++m) i=match Bd l i with|some v=>some v|none=>Bd m i:=by
 induction l with
 |nil=>rfl
 |cons p l a=>
  obtain⟨j,v⟩:=p;refine(?_:(if j=i then some v else Bd (l++m) i)=match(if j=i then some v else Bd l i)with|some v=>some v|none=>Bd m i);by_cases h:j=i
  ·simp[h]
  ·simp only[h,if_false];exact a
theorem Ot{l:List (Int×V)}{i:Int}(h:¬(l.any fun p=>decide (p.1=i))=true):Bd l i=none:=by
 induction l with
 |nil=>rfl
 |cons p l a=>obtain⟨j,v⟩:=p;simp only[List.any_cons,Bool.or_eq_true,decide_eq_true_eq,not_or]at h;refine(?_:(if j=i then some v else Bd l i)=none);refine aa (if_neg h.1) ?_;exact a h.2
theorem ai(l:List (Int×V))(i j:Int)(v:V):Bd (Ue l i v) j=if j=i then some v else Bd l j:=by
 unfold Ue;by_cases h:(l.any fun p=>decide (p.1=i))=true
 ·refine aa (if_pos h) ?_;induction l with
  |nil=>exact(Fc h).elim
  |cons p l b=>
   obtain⟨a,w⟩:=p;by_cases e:a=i
   ·subst e;refine aa List.map_cons (aa (if_pos rfl) ?_);refine(?_:(if a=j then some v else Bd _ j)=if j=a then some v else(if a=j then some w else Bd l j));by_cases q:a=j
    ·simp[q]
    ·refine aa (if_neg q) (aa (if_neg (Ne.symm q)) (aa (if_neg q) ?_));by_cases h':(l.any fun p=>decide (p.1=a))=true
     ·exact aa (b h') (aa (if_neg (Ne.symm q)) rfl)
     ·have:l.map (fun p=>if p.1=a then(p.1,v)else p)=l:=by
       clear b h;induction l with
       |nil=>rfl
       |cons p l b=>simp only[List.any_cons,Bool.or_eq_true,decide_eq_true_eq,not_or]at h';exact aa List.map_cons (aa (if_neg h'.1) (aa (b h'.2) rfl))
      exact aa this rfl
   ·refine aa List.map_cons (aa (if_neg e) ?_);simp only[List.any_cons,Bool.or_eq_true,decide_eq_true_eq]at h;refine(?_:(if a=j then some w else Bd _ j)=if j=i then some v else(if a=j then some w else Bd l j));refine aa (b (h.resolve_left e)) ?_;by_cases q:a=j
    ·refine Cb q ?_;exact aa (if_pos rfl) (aa (if_neg e) (aa (if_pos rfl) rfl))
    ·exact aa (if_neg q) (aa (if_neg q) rfl)
 ·refine aa (if_neg h) (aa (ko _ _ _) ?_);by_cases e:j=i
  ·subst e;refine aa (Ot h) ?_;refine(?_:(if j=j then some v else none)=_);exact aa (if_pos rfl) rfl
  ·refine aa (if_neg e) ?_;induction Bd l j with
   |some w=>rfl
   |none=>refine(?_:(if i=j then some v else none)=none);exact aa (if_neg (Ne.symm e)) rfl
theorem Cr(l:List (Int×V))(i j:Int):Bd (Vt l i) j=if j=i then none else Bd l j:=by
 unfold Vt;induction l with
 |nil=>refine aa List.filter_nil ?_;refine(?_:none=_);split<;>rfl
 |cons p l b=>
  obtain⟨a,w⟩:=p;by_cases e:a=i
  ·subst e;refine aa (List.filter_cons_of_neg (by simp)) (aa b ?_);refine(?_:_=if j=a then none else(if a=j then some w else Bd l j));by_cases q:j=a
   ·exact aa (if_pos q) (aa (if_pos q) rfl)
   ·exact aa (if_neg q) (aa (if_neg q) (aa (if_neg (Ne.symm q)) rfl))
  ·refine aa (List.filter_cons_of_pos (by exact decide_eq_true e)) ?_;refine(?_:(if a=j then some w else Bd (l.filter _) j)=if j=i then none else(if a=j then some w else Bd l j));refine aa b ?_;by_cases q:a=j
   ·refine Cb q ?_;exact aa (if_pos rfl) (aa (if_neg e) (aa (if_pos rfl) rfl))
   ·exact aa (if_neg q) (aa (if_neg q) rfl)
theorem Mm(l:List (Int×V))(i:Int)(v:V):(Ue l i v).length≤l.length+1:=by unfold Ue;split<;>simp
theorem HA(l:List (Int×V))(i:Int):(Vt l i).length≤l.length:=List.length_filter_le _ _
noncomputable def tc(K:Int->Bool):zb->Bool
 | .r n=>K n
 | .k _=>false
noncomputable def Zb(kvs:List (Int×V))(n:Int):Bool:=(Bd kvs n).isSome
noncomputable def Sa.qk(K:Int->Bool):Sa->Bool
 | .slot=>true
 | .ld ..| .Yh ..| .Qg ..=>false
 |i=>i.args.any (tc K)
noncomputable def Sa.Gg(K:Int->Bool):Sa->Bool
 | .st _ x _=>K x
 | .Yh _ x=>K x
 | .Qg _ a=>a.any (tc K)
 |_=>false
noncomputable def xd.af(K:Int->Bool)(B:xd):Bool:=B.la.any (Sa.Gg K)||(match B.en with| .ic o=>(En.ic o).args.any (tc K)|_=>false)
noncomputable def Wf(K:Int->Bool)(P:List xd):Bool:=P.any (xd.af K)
theorem Gn{f:List zb}{u:E}{z:V}(g:i≠j∧i≠n∧j≠n)(F:qb G k I U e (Xl f))(H:U x=some (.dict kvs))(c:zc->Prop)(p:∀I v w,c I->c (Ca (Ca I i v) j w))(L:c I)(M:∀I,c I->I n=some (.ref x))(N:∀I,qb G k I U u z)(O:f.any (tc (Zb kvs))=true->Kr z U)(P:f.any (tc (Zb kvs))=false->∀I,c I->Ia G k ss I U Kn Kr) : Ia G k (.Ad (.tp [.nm i,.nm j]) (.seq e) [.Pc (.and [(.ta .Eq (.var i) (.str .r)),(.ta .In (.var j) (.var n))]) [.ret u] []]::ss) I U Kn Kr:=by
 refine lh F (xe (l:=f.map zb.v)) (fun as I=>c I∧f.any (tc (Zb kvs))=as.any (tc (Zb kvs))) (ye.map zb.v f) ⟨L,rfl⟩ trivial (fun o as y I K A h B=>?_) fun I h=>P h.2 I h.1
 ·rw[A]at *;clear A
  (refine Qa (fun q s=>?_) h;clear h)
  have D:∀a b:V,(Ca (Ca I i a) j b) i=some a:=fun a b=>by have:=Qf (Ca I i a) j i b;unfold Ke at this;refine aa this (aa (if_neg g.1) ?_);unfold Ca;refine aa (Nat.beq_refl _) ?_;rfl
  have Q:∀a b:V,(Ca (Ca I i a) j b) j=some b:=fun a b=>by unfold Ca;refine aa (Nat.beq_refl _) ?_;rfl
  induction o with
  |k m=>exact Oe rfl (La (.ua (r':=true) (.ta (.var (D _ _)) .str .wd) fun h=>nomatch h) rfl (ja (B _ ⟨p _ _ _ q,s⟩)))
  |r m=>
   refine Oe rfl (Ug (r:=Zb kvs m) (.as (.ua (.ta (.var (D _ _)) .str .wd) fun R=>.ua (.ta (.var (Q _ _)) (.var (M _ (p _ _ _ q))) (.inDict H)) fun R=>.Od) (by unfold Zb;simp)) (fun t=>?_) fun t=>ja (ja (B _ ⟨p _ _ _ q,?_⟩)))
   ·exact Xa (N _) (O (by refine aa s ?_;refine(?_:(Zb kvs m||_)=true);refine aa t ?_;rfl))
   ·refine aa s ?_;refine(?_:(Zb kvs m||_)=_);refine aa t ?_;rfl
theorem oz(H:Sd G){i:Sa}(m:Zc U a i)(t:U x=some (.dict kvs)):qg G k .xm [.ref a,.ref x] U (.bool (i.qk (Zb kvs))):=fun Q q=>by
 (refine Aa (fun v e=>?_) m;clear m)
 refine H.call .xm rfl ?_;have g:(decide (i.op=.load)||decide (i.op=.call)||decide (i.op=.ig))=false->i.qk (Zb kvs)=i.args.any (tc (Zb kvs))->decide (i.op=.slot)=false->Ia G k (we .xm) (Me 0 [.ref a,.ref x]) U (fun j U=>Q .none U) Q:=fun l p u=>by
  refine La (.ta (.ma (.var rfl) e rfl) .str .wd) u (La (.ta (.ma (.var rfl) e rfl) (.Ba (.cons .str (.cons .str (.cons .str .nil)))) (.Lh rfl rfl rfl)) ?_ ?_)
  ·simp only[Bool.or_eq_false_iff,decide_eq_false_iff_not]at l;refine(?_:((Wd.load==i.op)||((Wd.call==i.op)||((Wd.ig==i.op)||false)))=false);refine aa (beq_eq_false_iff_ne.mpr (Ne.symm l.1.1)) (aa (beq_eq_false_iff_ne.mpr (Ne.symm l.1.2)) (aa (beq_eq_false_iff_ne.mpr (Ne.symm l.2)) ?_));rfl
  ·exact Gn (by exact Ub rfl) (.ma (.var rfl) e rfl) t (fun I=>I 1=some (.ref x)) (fun j j j h=>h) rfl (fun j h=>h) (fun j=>.tt) (fun h=>by rw[p,h]at q;exact q) fun h I w=>Xa .ff (by rw[p,h]at q;exact q)
 induction i with
 |slot=>exact gb (.ta (.ma (.var rfl) e rfl) .str .wd) rfl (Xa .tt q)
 |ld c y f=>exact La (.ta (.ma (.var rfl) e rfl) .str .wd) rfl (gb (.ta (.ma (.var rfl) e rfl) (.Ba (.cons .str (.cons .str (.cons .str .nil)))) (.Lh rfl rfl rfl)) rfl (Xa .ff q))
 |Yh c y=>exact La (.ta (.ma (.var rfl) e rfl) .str .wd) rfl (gb (.ta (.ma (.var rfl) e rfl) (.Ba (.cons .str (.cons .str (.cons .str .nil)))) (.Lh rfl rfl rfl)) rfl (Xa .ff q))
 |Qg c A=>exact La (.ta (.ma (.var rfl) e rfl) .str .wd) rfl (gb (.ta (.ma (.var rfl) e rfl) (.Ba (.cons .str (.cons .str (.cons .str .nil)))) (.Lh rfl rfl rfl)) rfl (Xa .ff q))
 |ar s c y b=>exact g (by cases s<;>rfl) rfl (by cases s<;>rfl)
 |name=>exact g rfl rfl rfl
 |cp c o=>exact g rfl rfl rfl
 |dr c n=>exact g rfl rfl rfl
 |st y z f=>exact g rfl rfl rfl
theorem Fu(H:Sd G){i:Sa}(t:Zc U a i)(u:U x=some (.dict kvs)):qg G k .di [.ref a,.ref x] U (.bool (i.Gg (Zb kvs))):=fun Q q=>by
 (refine Aa (fun A j=>?_) t;clear t)
 refine H.call .di rfl ?_;have e:∀ss,(decide (i.op=.load)||decide (i.op=.yl))=false->Ia G k ss (Me 0 [.ref a,.ref x]) U (fun l U=>Q .none U) Q->Ia G k (.Pc (.ta .In (.ma (.var 0) .op) (.Ba [(.str .load),(.str .yl)])) [.ret .ff] []::ss) (Me 0 [.ref a,.ref x]) U (fun l U=>Q .none U) Q:=fun ss h q=>by refine La (.ta (.ma (.var rfl) j rfl) (.Ba (.cons .str (.cons .str .nil))) (.Lh rfl rfl rfl)) ?_ q;simp only[Bool.or_eq_false_iff,decide_eq_false_iff_not]at h;refine(?_:((Wd.load==i.op)||((Wd.yl==i.op)||false))=false);refine aa (beq_eq_false_iff_ne.mpr (Ne.symm h.1)) (aa (beq_eq_false_iff_ne.mpr (Ne.symm h.2)) ?_);rfl
 have m:(decide (i.op=.load)||decide (i.op=.yl)||decide (i.op=.call)||decide (i.op=.ig))=false->decide (i.op=.de)=false->i.Gg (Zb kvs)=false->Ia G k (we .di) (Me 0 [.ref a,.ref x]) U (fun l U=>Q .none U) Q:=fun g s w=>by simp only[Bool.or_eq_false_iff]at g;refine e _ (by refine aa g.1.1.1 (aa g.1.1.2 ?_);rfl) (La (.ta (.ma (.var rfl) j rfl) .str .wd) s (gb (.ta (.ma (.var rfl) j rfl) (.Ba (.cons .str (.cons .str .nil))) (.Ri (.Lh rfl rfl rfl))) ?_ (Xa .ff (by rw[w]at q;exact q))));simp only[decide_eq_false_iff_not]at g;refine(?_:(!((Wd.call==i.op)||((Wd.ig==i.op)||false)))=true);refine aa (beq_eq_false_iff_ne.mpr (Ne.symm g.1.2)) (aa (beq_eq_false_iff_ne.mpr (Ne.symm g.2)) ?_);rfl
 have p:i.op=.call->i.Gg (Zb kvs)=i.args.any (tc (Zb kvs))->Ia G k (we .di) (Me 0 [.ref a,.ref x]) U (fun l U=>Q .none U) Q:=fun g s=>by refine e _ (by refine aa g ?_;rfl) (La (.ta (.ma (.var rfl) j rfl) .str .wd) (by refine aa g ?_;rfl) (La (.ta (.ma (.var rfl) j rfl) (.Ba (.cons .str (.cons .str .nil))) (.Ri (.Lh rfl rfl rfl))) (by refine aa g ?_;rfl) ?_));exact Gn (by exact Ub rfl) (.ma (.var rfl) j rfl) u (fun I=>I 1=some (.ref x)) (fun l l l h=>h) rfl (fun l h=>h) (fun l=>.tt) (fun h=>by rw[s,h]at q;exact q) fun h I B=>Xa .ff (by rw[s,h]at q;exact q)
 induction i with
 |st y z f=>refine e _ rfl (gb (.ta (.ma (.var rfl) j rfl) .str .wd) rfl (qe (.Ma (.ma (.var rfl) j rfl) .int rfl rfl (wc rfl)) rfl (Xa (.ua (.ta (.var rfl) .str .wd) fun l=>.VE (.ta (.var rfl) (.var rfl) (.inDict u))) ?_)));exact q
 |Yh c y=>exact p rfl (by refine(?_:Zb kvs y=(Zb kvs y||false));exact aa (Bool.or_false _) rfl)
 |Qg c D=>exact p rfl rfl
 |ar v c y b=>exact m (by cases v<;>rfl) (by cases v<;>rfl) rfl
 |name=>exact m rfl rfl rfl
 |slot=>exact m rfl rfl rfl
 |cp c o=>exact m rfl rfl rfl
 |dr c n=>exact m rfl rfl rfl
 |ld c y f=>exact gb (.ta (.ma (.var rfl) j rfl) (.Ba (.cons .str (.cons .str .nil))) (.Lh rfl rfl rfl)) rfl (Xa .ff q)
theorem sk:∀{n:Nat}{bs:List Addr}{P:List xd},Dc U n bs P->ye (fun B x=>∃b m,x=V.ref b∧jd U b m B) P (Ab bs):=by
 intro n c;induction c generalizing n with
 |nil=>
  intro a h;rcases a with _|⟨e,f⟩
  ·exact trivial
  ·exact h.elim
 |cons b g l=>
  intro a h;rcases a with _|⟨i,j⟩
  ·exact h.elim
  ·obtain⟨h,r⟩:=h;exact⟨(ej b n rfl h),l r⟩
noncomputable def eD(K:Int->Bool)(i:Sa):Prop:=0≤i.nc->i.qk K=true->K i.nc=true
structure Ey(T:Int->Bool)(Ts:List Int)(P:List xd):Prop where
 JJ:∀n,T n=true->n∈Ts
 iu:∀B∈P,∀i∈B.la,eD T i
 IC:∀K:Int->Bool,(∀B∈P,∀i∈B.la,eD K i)->∀n,T n=true->K n=true
theorem Ow{K T:Int->Bool}(h:∀n,K n=true->T n=true)(o:zb)(q:tc K o=true):tc T o=true:=by
 induction o with
 |r n=>exact h _ q
 |k n=>exact q
theorem Jk{K T:Int->Bool}(h:∀n,K n=true->T n=true){a:List zb}(q:a.any (tc K)=true):a.any (tc T)=true:=by
 rw[List.any_eq_true]at q ⊢
 (refine ya (fun o b c=>?_) q;clear q)
 exact(pb o b (Ow h o c))
theorem Nl{K T:Int->Bool}(h:∀n,K n=true->T n=true)(i:Sa)(q:i.qk K=true):i.qk T=true:=by
 induction i with
 |slot=>rfl
 |ld _ _ _=>exact q
 |Yh _ _=>exact q
 |Qg _ _=>exact q
 |name=>exact Jk h q
 |cp _ _=>exact Jk h q
 |dr _ _=>exact Jk h q
 |st _ _ _=>exact Jk h q
 |ar _ _ _ _=>exact Jk h q
noncomputable def Lq(a:List Int)(kvs:List (Int×V)):Nat:=a.countP fun n=>!Zb kvs n
theorem iz{p q:Int->Bool}(h:∀m,q m=true->p m=true){n:Int}(f:p n=true)(g:q n=false):∀{l:List Int},n∈l->l.countP q<l.countP p:=by
 intro b;induction b with
 |nil=>intro h;exact nomatch h
 |cons a l i=>
  intro c;have j:l.countP q≤l.countP p:=List.countP_mono_left fun x o h'=>h x h';refine aa List.countP_cons (aa List.countP_cons ?_);rcases pg c with rfl|c
  ·refine aa f (aa g ?_);simp;exact Nat.succ_le_succ (by assumption)
  ·have:=i c;have s:(if q a=true then 1 else 0)≤(if p a=true then 1 else 0):=by
    by_cases e:q a=true
    ·refine aa (if_pos e) (aa (if_pos (h a e)) ?_);exact tf 1
    ·refine aa (if_neg e) ?_;exact Nat.zero_le _
   omega
theorem Uj(kvs:List (Int×V))(i n:Int)(v:V):Zb (Ue kvs i v) n=(decide (n=i)||Zb kvs n):=by unfold Zb;rewrite[ai];by_cases h:n=i<;>simp[h]
theorem XG{a:List Int}{n:Int}(v:V)(b:n∈a)(h:Zb kvs n=false):Lq a (Ue kvs n v)<Lq a kvs:=
 iz (n:=n) (fun m q=>by rw[Uj]at q;simp at q ⊢;exact q.2) (by simp[h]) (by rewrite[Uj];simp) b
theorem KH(H:Sd G){T:Int->Bool}{v:List Int}(hF:Ce U F J ps hv Z bs P)(TT:Ey T v P)(wa:v.length≤50)(q:∀D kvs,U D=none->(∀n,Zb kvs n=T n)->Q (.ref D) (Ga U D (some (.dict kvs)))):pe G (k+1) .Dg [.ref F] U Q:=by
 refine H.call .Dg rfl (Vf (o:=.dict []) (fun Q q=>yq .nil rfl q) fun D hD=>Gb .tt ?_)
 refine km (fun n I U'=>I 0=some (.ref F)∧I 1=some (.ref D)∧∃kvs l,I 2=some (.bool l)∧U'=Ga U D (some (.dict kvs))∧(∀n,Zb kvs n=true->T n=true)∧kvs.length+Lq v kvs≤v.length∧Lq v kvs+(if l=true then 1 else 0)=n∧(l=false->∀B∈P,∀i∈B.la,eD (Zb kvs) i))
  (n:=_) (yc rfl rfl (Il [] true rfl rfl (fun n h=>by exact(Fc h).elim) (by refine aa (Nat.zero_add _) ?_;exact List.countP_le_length) rfl (fun h=>nomatch h))) ?_
 (intro n I U' s;(refine Nb (fun l0 l1 f=>?_) s;clear s;refine Po (fun kvs l l2 g w j hn ka=>?_) f;clear f;refine aa g ?_))
 refine(cc l (.var l2) (fun hb=>Xa (.var l1) (q D kvs hD fun m=>?_)) (fun hb K' la=>?_))
 ·induction e:T m with
  |true=>exact TT.IC _ (ka hb) m e
  |false=>
   induction e':Zb kvs m with
   |false=>rfl
   |true=>rw[w m e']at e;exact nomatch e
 subst hb;refine Gb .ff ?_;have FD:∀kvs,Ce (Ga U D (some (.dict kvs))) F J ps hv Z bs P:=fun kvs=>hF.za (Sub.new hD _)
 refine rf (.ma (.var l0) (FD kvs).f rfl) (Vi (FD kvs).bl) (fun Bs I U'=>I 0=some (.ref F)∧I 1=some (.ref D)∧(∀B∈Bs,B∈P)∧∃kvs l,I 2=some (.bool l)∧U'=Ga U D (some (.dict kvs))∧(∀n,Zb kvs n=true->T n=true)∧kvs.length+Lq v kvs≤v.length∧
  (l=true->Lq v kvs+1<n)∧(l=false->Lq v kvs<n∧((∀B∈Bs,∀i∈B.la,eD (Zb kvs) i)->∀B∈P,∀i∈B.la,eD (Zb kvs) i))) (sk hF.jc)
  (lg l0 l1 (fun p h=>h) (Il kvs false rfl rfl w j (fun h=>nomatch h) (fun p=>⟨by exact Nat.le_of_eq (by assumption),fun h=>h⟩))) ?_ ?_ ?_
 ·(intro Bs I U' s;(refine nf (fun p p p f=>?_) s;clear s;refine Cd (fun kvs p p g p=>?_) f;clear f;refine aa g ?_))
  exact(FD kvs).bl
 ·(intro B Bs x I U' K2 A K pa;(refine pd (fun b m u hb=>?_) A;clear A;refine aa u ?_);(refine nf (fun l0 l1 L f=>?_) K;clear K;refine Po (fun kvs l l2 g w j M z=>?_) f;clear f;refine aa g ?_))
  have t:∀kvs,Sub U (Ga U D (some (.dict kvs))):=fun kvs=>Sub.new hD _
  (change let R:Prop:=_;R;intro R);refine Df (fun sv e as ra ba O ua=>?_)<|id hb.ex
  (change let R:Prop:=_;R;intro R);refine ya (fun St g1 g2=>?_)<|oq ((t kvs).lv ba)
  refine vb (rf (.ma (.var rfl) (t kvs _ _ ra) rfl) g1 (fun is I U'=>I 0=some (.ref F)∧I 1=some (.ref D)∧(∀i∈is,i∈B.la)∧∃kvs l,I 2=some (.bool l)∧U'=Ga U D (some (.dict kvs))∧(∀n,Zb kvs n=true->T n=true)∧kvs.length+Lq v kvs≤v.length∧
   (l=true->Lq v kvs+1<n)∧(l=false->Lq v kvs<n∧((∀i∈is,eD (Zb kvs) i)->(∀B∈Bs,∀i∈B.la,eD (Zb kvs) i)->∀B∈P,∀i∈B.la,eD (Zb kvs) i))) O.Ab
   (lg l0 l1 (fun p h=>h) (Il kvs l l2 rfl w j M (fun h=>⟨(z h).1,fun c1 c2=>(z h).2 fun B' W=>by rcases pg W with rfl|W;exact c1;exact c2 B' W⟩))) ?_ ?_ ?_)
  ·(intro is I U' s;(refine nf (fun p p p f=>?_) s;clear s;refine Cd (fun kvs p p g p=>?_) f;clear f;refine aa g ?_))
   exact g2 _ ((t kvs).lv ba)
  ·(intro i is x I U' K3 A K ea;(refine ya (fun a sa fa=>?_) A;clear A;refine aa sa ?_);(refine nf (fun l0 l1 X f=>?_) K;clear K;refine Po (fun kvs l l2 g w j M z=>?_) f;clear f;refine aa g ?_))
   (change let R:Prop:=_;R;intro R);refine Aa (fun ln ha=>?_)<|id (fa.za (t kvs))
   have N:∀i∈is,i∈B.la:=fun i hi=>X i (.tail _ hi);refine vb (Ug (.ua (.ta (.ma (.var rfl) ha rfl) .int .ge) fun p=>.ua (.ta (.ma (.var rfl) ha rfl) (.var l1) (.Ri (.inDict (da ..)))) fun p=>.ua (.call (.cons (.var rfl) (.cons (.var l1) .nil)) (oz H (fa.za (t kvs)) (da ..))) fun p=>.Od) (fun y=>?_) fun y=>ja (ja (ea _ _ (lg l0 l1 N (Il kvs l l2 rfl w j M (fun h=>⟨(z h).1,fun c1 c2=>(z h).2 (fun i' Y=>?_) c2⟩))))))
   ·simp only[Bool.and_true,Bool.and_eq_true,decide_eq_true_eq,Bool.not_eq_true']at y
    (change let R:Prop:=_;R;intro R);(refine Nb (fun c1 c2 c3=>?_) y;clear y)
    have xa:=XG (.bool true) (TT.JJ _ ((TT.iu B (L B (.head _)) i (X i (.head _)) c1 (Nl w i c3)):T i.nc=true)) c2;have za:=Mm kvs i.nc (.bool true);refine Xi .tt (.var l1) (.ma (.var rfl) ha rfl) (da ..) (bc (show kvs.length≤50 by lia) (by exact Pa rfl)) (Gb .tt (ja (ja (ea _ _ (lg l0 l1 N (Il (Ue kvs i.nc (.bool true)) true rfl (Tc ..) (fun m L=>?_) (by lia) (fun p=>?_) (fun h=>nomatch h)))))))
    ·rw[Uj,Bool.or_eq_true,decide_eq_true_eq]at L;rcases L with rfl|L
     ·exact((TT.iu B (L B (.head _)) i (X i (.head _)) c1 (Nl w i c3)):T i.nc=true)
     ·exact w m L
    ·induction l with
     |true=>have:=M rfl;lia
     |false=>have:=(z rfl).1;exact Nat.lt_of_le_of_lt (by assumption) (by assumption)
   ·rcases pg Y with rfl|Y
    ·intro d1 d2;simp only[Bool.and_true,Bool.and_eq_false_iff,decide_eq_false_iff_not,Bool.not_eq_false']at y;rcases y with y|y|y
     ·exact absurd d1 y
     ·exact y
     ·rw[d2]at y;exact(Fc y.symm).elim
    ·exact c1 i' Y
  ·(intro I U' u;(refine nf (fun l0 l1 p f=>?_) u;clear u;refine Po (fun kvs l l2 g w j M z=>?_) f;clear f;refine aa g ?_))
   exact ja (pa _ _ (lg l0 l1 (fun B hB=>L B (.tail _ hB)) (Il kvs l l2 rfl w j M (fun h=>⟨(z h).1,fun c=>(z h).2 (fun p h=>nomatch h) c⟩))))
 ·(intro I U' u;(refine nf (fun l0 l1 p f=>?_) u;clear u;refine Po (fun kvs l l2 g w j M z=>?_) f;clear f;refine aa g ?_))
  refine ja (la _ _ _ ?_ (yc l0 l1 (Il kvs l l2 rfl w j rfl (fun h=>(z h).2 (fun p h=>nomatch h)))));induction l with
  |true=>have:=M rfl;simpa using this
  |false=>have:=(z rfl).1;simpa using this
theorem Kq(H:Sd G){T:Int->Bool}{Ts:List Int}(O:Ce U F J ps hv Z bs P)(TT:Ey T Ts P)(ba:Ts.length≤50):rm G (k+1+1) .Mi [.ref F] U (.bool (!Wf T P)):=fun Q q=>by
 refine H.call .Mi rfl (La (.ta (.ma (.var rfl) O.f rfl) (.xb .nil) (.eqv rfl rfl rfl)) rfl ?_);refine Ob (Jc (.cons (.var rfl) .nil) (KH H O TT ba fun D kvs hD W=>vb ?_));have g:Sub U (Ga U D (some (.dict kvs))):=Sub.new hD _;have L:=O.za g;have u:Ga U D (some (.dict kvs)) D=some (.dict kvs):=da ..;have v:=q _ g;clear hD O q;generalize Ga U D (some (.dict kvs))=U' at L u v g ⊢;refine lh (.ma (.var rfl) L.f rfl) (Vi L.bl) (fun X I=>I 1=some (.ref D)∧Wf T P=Wf T X) (sk L.jc) ⟨rfl,rfl⟩ L.bl ?_ ?_
 ·(intro B X x I K j l hK;(refine pd (fun b m f hb=>?_) j;clear j;refine aa f ?_);(refine Qa (fun l1 w=>?_) l;clear l))
  (change let R:Prop:=_;R;intro R);(refine Df (fun sv e as p M z N=>?_)<|id hb.ex;refine Aa (fun ln c=>?_) N;clear N)
  refine ya (fun St g1 g2=>?_)<|oq M
  have s:Wf T (B::X)=(B.af T||Wf T X):=rfl;refine vb (lh (.ma (.var rfl) p rfl) g1 (fun is I=>I 1=some (.ref D)∧I 2=some (.ref b)∧B.la.any (Sa.Gg T)=is.any (Sa.Gg T)) z.Ab (yc l1 rfl rfl) (g2 _ M) ?_ ?_)
  ·(intro i is x I K2 j l ea;(refine ya (fun a fa ka=>?_) j;clear j;refine aa fa ?_);(refine Nb (fun l1 l2 t=>?_) l;clear l))
   rw[List.any_cons]at t;refine vb (Ug (.call (.cons (.var rfl) (.cons (.var l1) .nil)) (Fu H ka u)) (fun h=>Xa .ff ?_) fun h=>ja (ja (ea _ (yc l1 l2 ?_))))
   ·rw[((funext W):Zb kvs=T)]at h;have:Wf T P=true:=by refine aa w (aa s ?_);unfold xd.af;refine aa t (aa h ?_);rfl
    rw[this]at v;exact v
   ·rw[((funext W):Zb kvs=T)]at h;exact aa t (aa h (aa (Bool.false_or _) rfl))
  ·(intro I f;(refine Nb (fun l1 l2 t=>?_) f;clear f))
   have t:B.la.any (Sa.Gg T)=false:=t;induction A:B.en with
   |ic o=>
    rw[A]at c;refine gb (.ta (.ma (.ma (.var l2) p rfl) c rfl) .str .wd) rfl (Gn (by exact Ub rfl) (.ma (.ma (.var l2) p rfl) c rfl) u (fun I=>I 1=some (.ref D)) (fun Y Y Y h=>h) l1 (fun Y h=>h) (fun Y=>.ff) (fun h=>?_) fun h I l1=>ja (ja (hK _ ⟨l1,?_⟩)))
    ·rw[((funext W):Zb kvs=T)]at h;have:Wf T P=true:=by refine aa w (aa s ?_);unfold xd.af;refine aa t (aa A ?_);dsimp only;refine aa h ?_;rfl
     rw[this]at v;exact v
    ·rw[((funext W):Zb kvs=T)]at h;refine aa w (aa s ?_);unfold xd.af;refine aa t (aa A ?_);dsimp only;refine aa h ?_;rfl
   |Ib n=>rw[A]at c;exact La (.ta (.ma (.ma (.var l2) p rfl) c rfl) .str .wd) rfl (ja (hK _ ⟨l1,by refine aa w (aa s ?_);unfold xd.af;refine aa t (aa A ?_);rfl⟩))
   |branch r x y=>rw[A]at c;exact La (.ta (.ma (.ma (.var l2) p rfl) c rfl) .str .wd) rfl (ja (hK _ ⟨l1,by refine aa w (aa s ?_);unfold xd.af;refine aa t (aa A ?_);rfl⟩))
 ·(intro I f;(refine Qa (fun l1 w=>?_) f;clear f))
  have:Wf T P=false:=w;rw[this]at v;exact Xa .tt v
noncomputable def RE(U:Mem)(bs:List Addr):Prop:=∀b∈bs,∃a c l,U b=some (.ib .td a)∧Sq a .uc=some (.ref c)∧U c=some (.list l)
theorem RE.za(h:Sub U U')(r:RE U bs):RE U' bs:=fun b hb=>
 ve (fun a c l e f g=>(zi a c l (h _ _ e) f (h _ _ g))) (r b hb)
noncomputable def fe(P:List xd):Nat->En->En
 |0,e=>e
 |n+1,.Ib t=>(match P[t]? with
  |some B=>if B.la.isEmpty=true then fe P n B.en else .Ib t
  |none=>.Ib t)
 |_+1,e=>e
noncomputable def Wm(P:List xd):Prop:=∀B∈P,∀t,B.en=.Ib t->t<P.length
noncomputable def Jh(ps:List Nat):Sa->Bool
 | .Qg _ a=>decide (a.length=ps.length)
 |_=>false
noncomputable def Lg:Sa->Bool
 | .cp ..=>true
 |_=>false
noncomputable def Yd(a:List Sa):Nat->Int
 |0=> -1
 |n+1=>if(a[n]?.map Lg)=some true then Yd a n else n
noncomputable def Qb(ps:List Nat)(a:List Sa):Int:=
 if 0≤Yd a a.length then(if(a[(Yd a a.length).toNat]?.map (Jh ps))=some true then Yd a a.length else -1)else -1
noncomputable def Dd(K:Int->Bool):Sa->Int->Bool
 | .cp a o,n=>if n=a then tc K o else K n
 |_,n=>K n
noncomputable def Wn(hv:Bool)(K:Int->Bool):En->Bool
 | .ic o=>if hv=true then(match o with|some r=>K r|none=>false)else true
 |_=>false
noncomputable def fg(hv:Bool)(P:List xd)(B:xd)(jc:Nat):Bool:=
 Wn hv ((B.la.drop (jc+1)).foldl Dd (fun n=>decide (n=((B.la[jc]?.map Sa.nc).getD 0)))) (fe P P.length B.en)
theorem fy{b:Addr}(hb:jd U b n B)(o:RE U bs)(p:b∈bs):∃h e as,U b=some (.ib .td [(.Yc,.int n),(.uc,.ref h),(.We,.ref e)])∧U h=some (.list (Ab as))∧ye (Zc U) as B.la∧Wj U e B.en:=by
 (change let R:Prop:=_;R;intro R);refine Df (fun sv e as f a c g=>?_) hb.ex
 (change let R:Prop:=_;R;intro R);refine ve (fun q h l i j m=>?_)<|o b p
 rw[f]at i;(replace i:=Bb i;cases i)
 (replace j:=(Bb j).symm;subst j)
 rw[Mg m]at a;(replace a:=(Bb a).symm;subst a);exact(Jj h e as f m c g)
theorem Fj{v:V}(h:lv U v=some l):sv U v=some l:=by
 cases v with
 |Ba _=>injection h
 |_=>exact h
theorem dt(H:Sd G)(z:Ce U F J ps hv Z bs P)(hr:RE U bs)(hj:Wm P)(hP:P.length≤100){b:Addr}(hb:jd U b n B)(hB:B∈P)(q:∀e,Wj U e (fe P P.length B.en)->Q (.ref e) U):pe G k .Ij [.ref F,.ref b] U Q:=by
 have X:=z.jc.Pd;have p:(Ab bs).length=P.length:=by unfold Ab;exact aa (sd _) (aa X rfl)
 refine Df (fun sv e as Y g g A=>?_)<|id hb.ex
 refine H.call .Ij rfl (qe (.Ba (.cons (.ma (.var rfl) Y rfl) (.cons .int .nil))) rfl ?_)
 refine Bn (fun n I=>I 0=some (.ref F)∧n≤P.length∧∃e s,I 2=some (.ref e)∧I 3=some (.int ((P.length - n:Nat):Int))∧Wj U e s∧fe P n s=fe P P.length B.en∧∀t,s=.Ib t->t<P.length) (n:=P.length)
  (yc rfl (tf _) (Xv e B.en rfl (by refine aa (Nat.sub_self _) ?_;rfl) A rfl (hj B hB))) ?_
 (intro n I D;(refine Nb (fun l0 hn f=>?_) D;clear D;refine nE (fun e s l2 l3 j hc L=>?_) f;clear f;refine Aa (fun ln u=>?_) j;clear j))
 have v:fe P n s=s->Ia G k [.ret (.var 2)] I U (fun g U=>Q .none U) Q:=fun h1=>Xa (.var l2) (q e (by refine Cb hc (aa h1 ?_);exact⟨ln,u⟩));induction s with
 |branch r x y=>exact(cc false (.as (.ua (r':=true) (.ta (.ma (.var l2) u rfl) .str .wd) (fun h=>nomatch h)) rfl) (fun g=>v (by induction n<;>rfl)) (fun h=>nomatch h))
 |ic o=>exact(cc false (.as (.ua (r':=true) (.ta (.ma (.var l2) u rfl) .str .wd) (fun h=>nomatch h)) rfl) (fun g=>v (by induction n<;>rfl)) (fun h=>nomatch h))
 |Ib t=>
  have l:qb G k I U (.Pd (.ma (.var 0) .Ae)) (.int P.length):=.as (.Pd (.ma (.var l0) z.f rfl) (zg z.bl) (by refine aa p ?_;exact((bc hP (by exact Pa rfl)):P.length≤Ac))) (by exact aa p rfl);induction n with
  |zero=>exact(cc false (.as (.ua (.ta (.ma (.var l2) u rfl) .str .wd) fun g=>.ua (r':=true) (.ta (.var l3) l .lt) fun h=>absurd (Ub h) (Int.lt_irrefl (P.length:Int))) (by refine aa (decide_eq_false (show ¬(((P.length - 0:Nat):Int)<P.length) from Int.lt_irrefl (P.length:Int))) ?_;rfl)) (fun g=>v rfl) (fun h=>nomatch h))
  |succ n=>
   obtain⟨a,W⟩:∃a,P[t]?=some a:=⟨_,List.getElem?_eq_getElem (L t rfl)⟩
   (change let R:Prop:=_;R;intro R);refine ya (fun c M ba=>?_)<|z.jc.Pn W
   (refine Df (fun SL e' N O ea i f=>?_)<|fy ba hr (jr M);refine Aa (fun fa w=>?_) f;clear f)
   have m:qb G k I U (.Ma (.ma (.var 0) .Ae) (.ma (.var 2) .more)) (.ref c):=.Ma (.ma (.var l0) z.f rfl) (.ma (.var l2) u rfl) (zg z.bl) (kc (by unfold Ab;refine aa List.getElem?_map (aa M ?_);rfl)) (by exact p▸((bc hP (by exact Pa rfl)):P.length≤Ac));have T:(Ab N).isEmpty=a.la.isEmpty:=by have:=i.Pd;induction N<;>induction ha:a.la<;>rw[ha]at this<;>first|rfl|injection this
   refine(cc a.la.isEmpty (.as (.ua (.ta (.ma (.var l2) u rfl) .str .wd) fun g=>.ua (.ta (.var l3) l .lt) fun g=>.ua (.ta (.ma m O rfl) (.xb .nil) (.nil ea)) fun g=>.Od) ?_) (fun h=>Xa (.var l2) (q e ?_)) (fun h K hK=>?_))
   ·refine aa (decide_eq_true (show(((P.length - (n+1):Nat):Int)<P.length) from Int.ofNat_lt.mpr (Nat.sub_lt (Nat.lt_of_le_of_lt (Nat.zero_le _) (L t rfl)) (Nat.succ_pos n)))) (aa T ?_);refine(?_:(true&&(true&&(_&&true)))=_);simp
   ·refine Cb hc ?_;have:fe P (n+1) (.Ib t)=.Ib t:=by
     refine(?_:(match P[t]? with|some B=>if B.la.isEmpty=true then fe P n B.en else .Ib t|none=>.Ib t)=_);refine aa W ?_;dsimp only;refine aa h ?_;rfl
    refine aa this ?_;exact⟨ln,u⟩
   ·refine Gb (.ma m O rfl) (Gb (.Fd (.var l3) .int .add) (ja (hK n _ (Nat.lt_succ_self n) (yc l0 (by exact Nat.le_of_lt (by assumption)) (Xv e' a.en rfl ?_ ⟨fa,w⟩ ?_ (hj a (jr W)))))))
    ·refine(?_:some (V.int (((P.length - (n+1):Nat):Int)+1))=_);exact aa (show(((P.length - (n+1):Nat):Int)+1)=((P.length - n:Nat):Int) from congrArg Int.ofNat (Nat.sub_add_cancel (Nat.sub_pos_of_lt hn))) rfl
    ·refine Cb hc ?_;refine(?_:_=(match P[t]? with|some B=>if B.la.isEmpty=true then fe P n B.en else .Ib t|none=>.Ib t));refine aa W ?_;dsimp only;refine aa h ?_;rfl
theorem oA(H:Sd G){i:Sa}(l:U F=some (.ib .func (Td ps hv Z J)))(p:Zc U a i)(s:ps.length≤100)(t:i.args.length≤100):qg G k .oh [.ref F,.ref a] U (.bool (Jh ps i)):=fun Q q=>by
 (refine Aa (fun v g=>?_) p;clear p)
 refine H.call .oh rfl ?_;have c:decide (i.op=.call)=false->Jh ps i=false->Ia G k (we .oh) (Me 0 [.ref F,.ref a]) U (fun m U=>Q .none U) Q:=fun h e=>by refine Xa (.ua (r':=true) (.ta (.ma (.var rfl) g rfl) .str .wd) fun h'=>by rw[h]at h';exact(Fc h').elim) ?_;refine aa h ?_;rw[e]at q;exact q
 induction i with
 |Yh b x=>exact Xa (.ua (.ta (.ma (.var rfl) g rfl) .str .wd) fun m=>.ua (r':=true) (.ta (.ma (.var rfl) g rfl) (.ma (.var rfl) l rfl) .wd) fun h=>nomatch h) q
 |Qg b j=>
  refine Xa (.ua (.ta (.ma (.var rfl) g rfl) .str .wd) fun m=>.ua (.ta (.ma (.var rfl) g rfl) (.ma (.var rfl) l rfl) .wd) fun m=>.VE (.ta (.Pd (.ma (.var rfl) g rfl) rfl (by refine aa (sd _) ?_;exact bc t (by decide))) (.Pd (.ma (.var rfl) l rfl) rfl (by refine aa (sd _) ?_;exact bc s (by decide))) .Ag)) ?_;refine aa (sd _) (aa (sd _) ?_);have:(true&&(true&&decide ((j.length:Int)=ps.length)))=Jh ps (.Qg b j):=by exact decide_eq_decide.mpr (by lia)
  refine aa (show(decide (Sa.op (.Qg b j)=Wd.call)&&(decide (Wd.f=Wd.f)&&decide ((((Sa.Qg b j).args.length:Nat):Int)=ps.length)))=Jh ps (.Qg b j) from this) ?_;exact q
 |ar u b x y=>exact c (by induction u<;>rfl) rfl
 |name=>exact c rfl rfl
 |slot=>exact c rfl rfl
 |cp b o=>exact c rfl rfl
 |dr b n=>exact c rfl rfl
 |st x y f=>exact c rfl rfl
 |ld x y f=>exact c rfl rfl
theorem Bt{as:List Addr}{b:List Sa}{r:Sa}(h:ye (Zc U) as b)(e:b[i]?=some r):∃a,(Ab as)[i]?=some (.ref a)∧Zc U a r:=by
 refine ya (fun a c f=>?_)<|h.Pn e
 exact(pb a (by unfold Ab;refine aa List.getElem?_map (aa c ?_);rfl) f)
theorem DA(i:Sa):decide (i.op=.lj)=Lg i:=by
 induction i with
 |ar a _ _ _=>induction a<;>rfl
 |_=>rfl
theorem Tu(H:Sd G)(z:U F=some (.ib .func (Td ps hv Z J))){b:Addr}(hb:jd U b n B)(A:ps.length≤100)(D:∀i∈B.la,i.args.length≤100)(u:B.la.length≤1000):qg G (k+1) .Yk [.ref F,.ref b] U (.int (Qb ps B.la)):=fun Q q=>by
 (change let R:Prop:=_;R;intro R);refine Df (fun sv e as f g c x=>?_)<|id hb.ex
 refine H.call .Yk rfl (Gb (.Fd (.Pd (.ma (.var rfl) f rfl) ((Fj g):Mine.sv U sv=some (Ab as)) (by refine aa (by unfold Ab;rw[sd];exact c.Pd:(Ab as).length=B.la.length) ?_;exact bc u (by exact Pa rfl):(Ab as).length≤Ac)) .int .sub) ?_);refine aa (by unfold Ab;rw[sd];exact c.Pd:(Ab as).length=B.la.length) ?_;refine Bn (fun m I=>I 0=some (.ref F)∧I 1=some (.ref b)∧I 2=some (.int ((m:Int) - 1))∧m≤B.la.length∧Yd B.la m=Yd B.la B.la.length) (n:=B.la.length) (vq rfl rfl rfl (tf _) rfl) ?_
 (intro m I j;(refine Ut (fun l0 l1 l2 N l=>?_) j;clear j))
 induction m with
 |zero=>refine(cc false (.as (.ua (r':=true) (.ta (.var l2) .int .ge) (fun h=>nomatch h)) rfl) (fun o=>Xa (.ite (r:=false) (.as (.ua (r':=true) (.ta (.var l2) .int .ge) fun h=>nomatch h) rfl) (fun h=>nomatch h) fun o=>.int) ?_) (fun h=>nomatch h));unfold Qb at q;rw[← l]at q;exact q
 |succ m=>
  obtain⟨r,p⟩:∃r,B.la[m]?=some r:=⟨_,List.getElem?_eq_getElem (by assumption)⟩
  (change let R:Prop:=_;R;intro R);(refine ya (fun a s t=>?_)<|Bt c p;refine Aa (fun L y=>?_) t;clear t)
  rw[(by lia:((m+1:Nat):Int) - 1=(m:Int))]at l2;refine(cc (Lg r) (.as (.ua (.ta (.var l2) .int .ge) fun o=>.ua (.ta (.ma ((.Ma (.ma (.var l1) f rfl) (.var l2) ((Fj g):Mine.sv U sv=some (Ab as)) (kc s) (by refine aa (by unfold Ab;rw[sd];exact c.Pd:(Ab as).length=B.la.length) ?_;exact bc u (by exact Pa rfl):(Ab as).length≤Ac)):qb G (k+1) I U (.Ma (.ma (.var 1) .uc) (.var 2)) (.ref a)) y rfl) .str .wd) fun o=>.Od) (by refine aa (DA _) ?_;simp)) (fun h=>?_) (fun h K M=>Gb (.Fd (.var l2) .int .sub) (ja (M m _ (Nat.lt_succ_self m) (vq l0 l1 rfl (by exact Nat.le_of_lt (by assumption)) ?_)))))
  ·have l:(m:Int)=Yd B.la B.la.length:=by
    refine Cb l ?_;unfold Yd;exact aa (by rw[p];rfl:(B.la[m]?.map Lg)=some (Lg r)) (aa h (aa (if_neg (by exact Ub rfl)) rfl))
   have w:Qb ps B.la=if Jh ps r=true then(m:Int)else -1:=by unfold Qb;refine Cb l (aa p ?_);refine(?_:(if some (Jh ps r)=some true then(m:Int)else -1)=_);induction Jh ps r<;>rfl
   rw[w]at q;refine Xa (v:=.int (if Jh ps r=true then(m:Int)else -1)) (.ite (.ua (.ta (.var l2) .int .ge) fun o=>.ua (.call (.cons (.var l0) (.cons ((.Ma (.ma (.var l1) f rfl) (.var l2) ((Fj g):Mine.sv U sv=some (Ab as)) (kc s) (by refine aa (by unfold Ab;rw[sd];exact c.Pd:(Ab as).length=B.la.length) ?_;exact bc u (by exact Pa rfl):(Ab as).length≤Ac)):qb G (k+1) I U (.Ma (.ma (.var 1) .uc) (.var 2)) (.ref a)) .nil)) (oA H z ⟨L,y⟩ A (D r (jr p)))) fun o=>.Od) (fun h=>?_) fun h=>?_) q
   ·simp only[Bool.and_true,Bool.and_eq_true]at h;refine aa (if_pos h.2) ?_;exact .var l2
   ·rw[decide_eq_true (vo m)]at h;simp only[Bool.and_true,Bool.true_and]at h;refine aa h ?_;exact .int
  ·refine Cb l ?_;refine(?_:_=if(B.la[m]?.map Lg)=some true then Yd B.la m else m);exact aa (by rw[p];rfl:(B.la[m]?.map Lg)=some (Lg r)) (aa h (aa (if_pos rfl) rfl))
theorem Aw(H:Sd G)(hF:Ce U F J ps hv Z bs P)(hr:RE U bs)(hj:Wm P)(hP:P.length≤100){b:Addr}(hb:jd U b n B)(hB:B∈P)(h3:B.la.length≤1000){jc:Nat}{r0:Sa}(W:B.la[jc]?=some r0)(ka:∀i∈B.la.drop (jc+1),Lg i=true)(la:∀o,fe P P.length B.en=.ic o->o.isSome=hv):rm G (k+1) .Ck [.ref F,.ref b,.int jc] U (.bool (fg hv P B jc)):=fun Q q=>by
 (change let R:Prop:=_;R;intro R);refine Df (fun sv e as X Y s za=>?_)<|id hb.ex
 refine H.call .Ck rfl (Ob (Jc (.cons (.var rfl) (.cons (.var rfl) .nil)) (dt H hF hr hj hP hb hB fun e2 ⟨ln,M⟩=>vb ?_)));unfold fg at q;rw[show(B.la[jc]?.map Sa.nc).getD 0=r0.nc by refine aa W ?_;rfl]at q;have no:(∀o,fe P P.length B.en≠.ic o)->decide ((fe P P.length B.en).op=.ic)=false∧∀K,Wn hv K (fe P P.length B.en)=false:=fun h=>by
  induction e:fe P P.length B.en with
  |ic o=>exact absurd e (h o)
  |Ib t=>exact⟨rfl,fun A=>rfl⟩
  |branch r x y=>exact⟨rfl,fun A=>rfl⟩
 by_cases hg:∃o,fe P P.length B.en=.ic o
 ·(change let R:Prop:=_;R;intro R);(refine Aa (fun o N=>?_) hg;clear hg)
  rw[N]at M q;refine La (.ta (.ma (.var rfl) M rfl) .str (.ne .wd)) rfl ?_;refine Ug (.not (.ma (.var rfl) hF.f rfl)) (fun h=>Xa .tt ?_) fun h=>ja ?_
  ·have:hv=false:=by exact(Bool.not_eq_true' _).mp h
   subst this;exact q _ (Sub.refl _)
  have pa:hv=true:=by simpa using h
  subst pa;obtain⟨g,rfl⟩:∃g,o=some g:=Option.isSome_iff_exists.mp (la o N)
  (change let R:Prop:=_;R;intro R);(refine ya (fun a0 ra f=>?_)<|Bt s W;refine Aa (fun Ea sa=>?_) f;clear f)
  refine Vf (o:=.dict (Of [(r0.nc,.bool true)])) (fun Q q=>yq (.cons (.ma (.Ma (.ma (.var rfl) X rfl) (.var rfl) ((Fj Y):Mine.sv U sv=some (Ab as)) (kc ra) (by refine aa (by unfold Ab;rw[sd];exact s.Pd:(Ab as).length=B.la.length) ?_;exact bc h3 (by exact Pa rfl):(Ab as).length≤Ac)) sa rfl) (.cons .tt .nil)) rfl q) fun D hD=>?_;have j:∀kvs,Sub U (Ga U D (some (.dict kvs))):=fun kvs=>Sub.new hD _
  refine rf (R:=fun i x=>∃a,x=V.ref a∧Zc U a i) (l:=Ab (as.drop (jc+1))) (as:=B.la.drop (jc+1)) (.as (.wh (.ma (.var rfl) (j _ _ _ X) rfl) (.Fd (.var rfl) .int .add) ((j _).lv Y) (by exact vo _) (by refine aa (by unfold Ab;rw[sd];exact s.Pd:(Ab as).length=B.la.length) ?_;exact bc h3 (by exact Pa rfl):(Ab as).length≤Ac)) (by refine aa (by rfl:((jc:Int)+1).toNat=jc+1) ?_;unfold Ab;exact aa List.map_drop rfl)) xe
   (fun is I U'=>I 3=some (.ref e2)∧I 4=some (.ref D)∧(∀i∈is,Lg i=true)∧∃kvs,U'=Ga U D (some (.dict kvs))∧kvs.length+is.length≤1001∧(∀n v,Bd kvs n=some v->v=.bool true)∧∀n,is.foldl Dd (Zb kvs) n=(B.la.drop (jc+1)).foldl Dd (fun n=>decide (n=r0.nc)) n) (s.drop (jc+1)).Ab
   (lg rfl rfl ka (Kj _ rfl ?_ (fun n v hv=>?_) (fun n=>?_))) (fun A A A A=>trivial) ?_ ?_
  ·refine(?_:1+(B.la.drop (jc+1)).length≤1001);have:(B.la.drop (jc+1)).length≤B.la.length:=by refine aa List.length_drop ?_;exact Nat.sub_le _ _
   lia
  ·have hv:(if r0.nc=n then some (V.bool true)else none)=some v:=hv;split at hv
   ·(replace hv:=(Bb hv).symm;subst hv);rfl
   ·exact nomatch hv
  ·have:Zb (Of [(r0.nc,V.bool true)])=fun n=>decide (n=r0.nc):=funext fun n=>by
    refine(?_:(if r0.nc=n then some (V.bool true)else none).isSome=_);by_cases h:n=r0.nc
    ·simp[h]
    ·refine aa (if_neg (Ne.symm h)) (aa (decide_eq_false h) ?_);rfl
   exact aa this rfl
  ·(intro i is x I U' K ba ea hK;(refine ya (fun a ua f=>?_) ba;clear ba;refine aa ua ?_;refine Aa (fun ln T=>?_) f;clear f);(refine nf (fun l3 w hc f=>?_) ea;clear ea;refine eh (fun kvs L fa O hk=>?_) f;clear f;refine aa L ?_))
   have wa:∀i∈is,Lg i=true:=fun i hi=>hc i (.tail _ hi);have xa:=hc i (.head _);simp only[List.length_cons]at fa;induction i with
   |cp c o=>
    have nx:∀p,p.length≤kvs.length+1->(∀n v,Bd p n=some v->v=.bool true)->(∀n,Zb p n=Dd (Zb kvs) (.cp c o) n)->∀I',I' 3=some (.ref e2)->I' 4=some (.ref D)->K I' (Ga U D (some (.dict p))):=fun p h1 h0 h2 I' l3 w=>
     hK _ _ (lg l3 w wa (Kj p rfl (by lia) h0 (fun n=>by exact Cb (hk n) (aa List.foldl_cons (aa (show Zb p=Dd (Zb kvs) (.cp c o) from funext h2) rfl)))))
    have ag:∀I',I' 5=some (.ref a)->qb G (k+1) I' (Ga U D (some (.dict kvs))) (.Ma (.ma (.var 5) .args) (.int 0)) o.v:=fun I' h=>.Ma (.ma (.var h) (j kvs _ _ T) rfl) .int rfl rfl (wc rfl);have u:tc (Zb kvs) o=false->∀I',I' 3=some (.ref e2)->I' 4=some (.ref D)->I' 5=some (.ref a)->Ia G (k+1) [.expr (.Su (.var 4) (.ma (.var 5) .nc) .none)] I' (Ga U D (some (.dict kvs))) K Q:=fun N I' l3 w l5=>by
     refine tj ?_;refine aa xI ?_;refine qb.var w _ ⟨⟨_,_,rfl,da ..⟩,?_⟩;refine qb.ma (.var l5) (j kvs _ _ T) rfl _ (qb.none _ ?_);dsimp only;refine aa (da _ _ _) ?_;refine⟨((bc (show kvs.length≤1001 by exact bc (pn _ _) (by assumption)) (by exact Pa rfl)):kvs.length≤Ac),?_⟩;refine(?_:match Bd kvs (c:Int)with|some z=>_|none=>_);have hs:∀n,Dd (Zb kvs) (.cp c o) n=if n=(c:Int)then false else Zb kvs n:=fun n=>by refine(?_:(if n=(c:Int)then tc (Zb kvs) o else Zb kvs n)=_);exact aa N rfl
     induction e:Bd kvs (c:Int)with
     |none=>
      refine ja (nx kvs (by exact Nat.le_succ _) O (fun n=>?_) _ l3 w);refine aa (hs _) ?_;by_cases h:n=(c:Int)
      ·refine aa h ?_;refine aa (if_pos rfl) ?_;unfold Zb;refine aa e ?_;rfl
      ·exact aa (if_neg h) rfl
     |some z=>
      rewrite[Tc];refine aa ((O _ _ e):z=.bool true) ?_;refine ja (nx (Vt kvs c) (Nat.le_succ_of_le (HA _ _)) (fun n v hv=>?_) (fun n=>?_) _ l3 w)
      ·rw[Cr]at hv;split at hv
       ·exact nomatch hv
       ·exact O n v hv
      refine aa (hs _) ?_;unfold Zb;refine aa (Cr _ _ _) ?_;split<;>rfl
    induction N:o with
    |k m=>rw[N]at ag u nx;exact vb (qe (ag _ rfl) rfl (Ka (.ua (r':=true) (.ta (.var rfl) .str .wd) fun h=>nomatch h) rfl (u rfl _ l3 w rfl)))
    |r m=>
     rw[N]at ag u nx;refine vb (qe (ag _ rfl) rfl (Ug (r:=Zb kvs m) (.as (.ua (.ta (.var rfl) .str .wd) fun A=>.ua (.ta (.var rfl) (.var w) (.inDict (da ..))) fun A=>.Od) (by unfold Zb;simp)) (fun h=>?_) fun h=>u h _ l3 w rfl));refine Xi .tt (.var w) (.ma (.var rfl) (j kvs _ _ T) rfl) (da ..) ((bc (show kvs.length≤1001 by exact bc (pn _ _) (by assumption)) (by exact Pa rfl)):kvs.length≤Ac) ?_;rewrite[Tc];refine ja (ja (nx _ (Mm _ _ _) (fun n v hv=>?_) (fun n=>?_) _ l3 w))
     ·rw[ai]at hv;split at hv
      ·(replace hv:=(Bb hv).symm;subst hv);rfl
      ·exact O n v hv
     rewrite[Uj];refine(?_:_=if n=(c:Int)then tc (Zb kvs) (.r m)else Zb kvs n);by_cases hn:n=(c:Int)
     ·refine aa (if_pos hn) (aa (show decide (n=(Sa.cp c o).nc)=true from decide_eq_true hn) ?_);exact h.symm
     ·refine aa (if_neg hn) (aa (show decide (n=(Sa.cp c o).nc)=false from decide_eq_false hn) ?_);rfl
   |_=>exact(Fc xa).elim
  ·(intro I U' ha;(refine nf (fun l3 w A f=>?_) ha;clear ha;refine eh (fun kvs L A A hk=>?_) f;clear f;refine aa L ?_))
   refine qe (.Ma (.ma (.var l3) (j _ _ _ M) rfl) .int rfl rfl (wc rfl)) rfl (Xa (.ua (.ta (.var rfl) .str .wd) fun A=>.VE (.ta (.var rfl) (.var w) (.inDict (da ..)))) ?_);have:=q _ (j kvs);rw[show Wn true ((B.la.drop (jc+1)).foldl Dd fun n=>decide (n=r0.nc)) (.ic (some g))=Zb kvs g from(hk g).symm]at this;exact this
 ·(change let R:Prop:=_;R;intro R);refine Qa (fun h1 h2=>?_)<|no fun o N=>hg ⟨o,N⟩
  rw[h2]at q;exact gb (.ta (.ma (.var rfl) M rfl) .str (.ne .wd)) (by refine aa h1 ?_;rfl) (Xa .ff (q _ (Sub.refl _)))
noncomputable def xg(X:Addr->Prop)(U U':Mem):Prop:=∀a m,¬X a->U a=some m->U' a=some m
theorem xg.trans{X:Addr->Prop}{U'':Mem}(h:xg X U U')(h':xg X U' U''):xg X U U'':=fun a m b q=>h' a m b (h a m b q)
theorem xg.of{X:Addr->Prop}(h:Sub U U'):xg X U U':=fun a m b q=>h a m q
theorem xg.uK{X Y:Addr->Prop}(h:xg X U U')(b:∀a,X a->Y a):xg Y U U':=fun a m c q=>h a m (fun e=>c (b a e)) q
theorem xg.Ga{X:Addr->Prop}(h:xg X U0 U)(c:X a∨U0 a=none)(x:Option MO):xg X U0 (Ga U a x):=fun b m f q=>by
 by_cases e:b=a
 ·subst e;rcases c with c|c
  ·exact absurd c f
  ·rw[c]at q;injection q
 ·refine aa (qa _ _ e) ?_;exact h b m f q
theorem Hs(a b:zb):V.eqv a.v b.v=decide (a=b):=by
 induction a with
 |r n=>cases b with
  |r m=>
   refine(?_:(true&&(decide ((n:Int)=m)&&true))=decide (zb.r n=zb.r m));by_cases h:n=m
   ·subst h;simp
   ·refine aa (decide_eq_false (show ¬zb.r n=zb.r m from fun e=>h (by cases e;rfl))) (aa (decide_eq_false (show ¬(n:Int)=m by exact mt Int.ofNat.inj (by assumption))) ?_);rfl
  |k m=>refine aa (decide_eq_false (show ¬zb.r n=zb.k m from fun e=>by injection e)) ?_;rfl
 |k n=>cases b with
  |r m=>refine aa (decide_eq_false (show ¬zb.k n=zb.r m from fun e=>by injection e)) ?_;rfl
  |k m=>
   refine(?_:(true&&(decide ((n:Int)=m)&&true))=decide (zb.k n=zb.k m));by_cases h:n=m
   ·subst h;simp
   ·refine aa (decide_eq_false (show ¬zb.k n=zb.k m from fun e=>h (by cases e;rfl))) (aa (decide_eq_false (show ¬(n:Int)=m by exact mt Int.ofNat.inj (by assumption))) ?_);rfl
theorem An(a:zb):V.ok 8 a.v=true:=by induction a<;>rfl
structure TA where
 sf:List Sa
 found:List zb
 Lc:List (Nat×Nat)
 Z:Nat
noncomputable def Ah:List (Nat×Nat)->Nat->Option Nat
 | [],_=>none
 |(a,b)::r,v=>if a=v then some b else Ah r v
noncomputable def Zg(ps:List Nat)(args:List zb)(Ma v:Nat):Bool:=(ps.take Ma).contains v&&!decide (args[ps.idxOf v]?=some (.r v))
noncomputable def Hj(ps:List Nat)(args:List zb)(t:TA)(Ma:Nat):zb->TA
 | .k n=>{t with found:=t.found++[.k n]}
 | .r v=>if Zg ps args Ma v=true then(match Ah t.Lc v with
  |some x=>{t with found:=t.found++[.r x]}
  |none=>⟨t.sf++[.cp t.Z (.r v)],t.found++[.r t.Z],t.Lc++[(v,t.Z)],t.Z+1⟩)else{t with found:=t.found++[.r v]}
noncomputable def qo(ps:List Nat)(args:List zb):Nat->List zb->TA->TA
 |_,[],t=>t
 |Ma,o::r,t=>qo ps args (Ma+1) r (Hj ps args t Ma o)
noncomputable def dk(p:Nat):zb->List Sa
 | .k n=>[.dr p n]
 | .r v=>if v=p then []else [.cp p (.r v)]
noncomputable def pf:List Nat->List zb->List Sa
 |p::ps,o::os=>dk p o++pf ps os
 |_,_=>[]
noncomputable def Qe(ps:List Nat)(args:List zb)(Z:Nat):TA:=qo ps args 0 args ⟨[],[],[],Z⟩
noncomputable def qc(ps:List Nat)(args:List zb)(Z:Nat):List Sa×Nat:=((Qe ps args Z).sf++pf ps (Qe ps args Z).found,(Qe ps args Z).Z)
noncomputable def Yf(l:List (Nat×Nat)):List (Int×V):=l.map fun p=>((p.1:Int),V.int (p.2:Nat))
theorem Jl(l:List (Nat×Nat))(v:Nat):Bd (Yf l) v=(Ah l v).map fun(x:Nat)=>V.int x:=by
 induction l with
 |nil=>rfl
 |cons p l c=>
  obtain⟨a,b⟩:=p;refine(?_:(if(a:Int)=v then some (V.int (b:Nat))else Bd (Yf l) v)=(if a=v then some b else Ah l v).map _);by_cases h:a=v
  ·refine aa h ?_;simp
  ·refine aa (if_neg (by exact mt Int.ofNat.inj (by assumption))) (aa (if_neg h) ?_);exact c
theorem yw{l:List (Nat×Nat)}{v x:Nat}(h:Ah l v=none):Ue (Yf l) v (.int (x:Nat))=Yf (l++[(v,x)]):=by
 have c:Bd (Yf l) v=none:=by refine aa (Jl _ _) (aa h ?_);rfl
 unfold Ue;rewrite[if_neg]
 ·unfold Yf;simp
 ·intro f;rw[List.any_eq_true]at f
  (refine ya (fun p e g=>?_) f;clear f)
  clear h;generalize Yf l=m at c e;induction m with
  |nil=>cases e
  |cons q m i=>
   obtain⟨a,b⟩:=q;have c:(if a=(v:Int)then some b else Bd m v)=none:=c;split at c
   ·injection c
   ·rename_i j;rcases pg e with rfl|e
    ·exact j (Ub g)
    ·exact i c e
theorem xu(H:Sd G){o b a m:V}(c:U x=some (.ib .step []))(q:Q .none (Ga U x (some (.ib .step [(.op,o),(.nc,b),(.args,a),(.more,m),(.Tb,.bool false),(.line,.int 0)])))):pe G k .uj [.ref x,o,b,a,m] U Q:=by refine H.call .uj rfl ?_;refine yd (.var rfl) (.var rfl) c (by exact Pa rfl) ?_;refine yd (.var rfl) (.var rfl) (da ..) (Pa rfl) ?_;rewrite[Tc];refine yd (.var rfl) (.var rfl) (da ..) (Pa rfl) ?_;rewrite[Tc];refine yd (.var rfl) (.var rfl) (da ..) (Pa rfl) ?_;rewrite[Tc];refine yd .ff (.var rfl) (da ..) (Pa rfl) ?_;rewrite[Tc];refine yd .int (.var rfl) (da ..) (Pa rfl) ?_;rewrite[Tc];exact ja q
theorem yj(H:Sd G){o b a m:V}(h:Ff G (k+1) I U es [o,b,a,m])(q:∀x,U x=none->Q (.ref x) (Ga U x (some (.ib .step [(.op,o),(.nc,b),(.args,a),(.more,m),(.Tb,.bool false),(.line,.int 0)])))):wb G (k+1) false (.new .step es) I U Q:=by refine h _ fun x c=>?_;refine xu H (da ..) ?_;rewrite[Tc];exact q x c
theorem Zp{o:E}(a:qb G k I U o (.ref x))(b:U x=some (.list l))(c:l.length≤Ac)(f:∀Q:V->Mem->Prop,(∀y U',U' x=some (.list l)->Ia G k ss I (Ga U' x (some (.list (l++[y])))) Kn Kr->Q y U')->wb G k false e I U Q):Ia G k (.expr (.append o e)::ss) I U Kn Kr:=by refine tj ?_;refine a _ ⟨by refine aa (Mg b) ?_;rfl,f _ fun y U' h h'=>?_⟩;exact Af x l rfl h c h'
theorem qb.Sm{o:E}{v:V}(a:qb G k I U o v)(hv:lv U v=some l)(b:qb G k I U e y)(c:l.findIdx? (fun z=>V.eqv z y)=some i)(f:V.zj 8 l=true)(g:V.ok 8 y=true)(h:l.length≤Ac):qb G k I U (.Sm o e) (.int i):=fun Q q=>by exact a _ ⟨by refine aa hv ?_;rfl,b _ (Af l i hv c (yc f g h) q)⟩
theorem Wy:∀{l:List Nat}{v:Nat},v∈l->(l.map fun(n:Nat)=>V.int n).findIdx? (fun z=>V.eqv z (.int v))=some (l.idxOf v):=by
 intro b;induction b with
 |nil=>intro v h;exact nomatch h
 |cons a l c=>
  intro v h;refine aa List.findIdx?_cons (aa List.idxOf_cons ?_);have e:V.eqv (.int a) (.int v)=(a==v):=by
   refine(?_:decide ((a:Int)=v)=_);by_cases q:a=v
   ·refine aa q ?_;simp
   ·refine aa (decide_eq_false (by exact mt Int.ofNat.inj (by assumption))) ?_;exact(beq_eq_false_iff_ne.mpr q).symm
  refine aa e ?_;by_cases q:a=v
  ·refine aa q ?_;simp
  ·have f:v∈l:=by
    rcases pg h with rfl|h
    ·exact absurd rfl q
    ·exact h
   refine aa (beq_eq_false_iff_ne.mpr q) (aa (c f) ?_);rfl
theorem Mu(l:List Nat)(v:Nat):(l.map fun(n:Nat)=>V.int n).any (fun y=>V.eqv y (.int v))=l.contains v:=by
 induction l with
 |nil=>rfl
 |cons a l b=>
  refine aa List.map_cons (aa List.any_cons (aa b (aa List.contains_cons ?_)));have:V.eqv (.int a) (.int v)=(v==a):=by
   refine(?_:decide ((a:Int)=v)=_);by_cases q:a=v
   ·refine aa q ?_;simp
   ·refine aa (decide_eq_false (by exact mt Int.ofNat.inj (by assumption))) ?_;exact(beq_eq_false_iff_ne.mpr (Ne.symm q)).symm
  exact aa this rfl
structure nt(U0 U:Mem)(F J A L D:Addr)(ps:List Nat)(hv:Bool)(t:TA):Prop where
 keep:xg (fun a=>a=F) U0 U
 f:U F=some (.ib .func (Td ps hv t.Z J))
 a:∃as,U A=some (.list (Ab as))∧ye (Zc U) as t.sf∧∀a∈as,U0 a=none
 l:U L=some (.list (t.found.map zb.v))
 d:U D=some (.dict (Yf t.Lc))
noncomputable def Ji{b:Type}:Nat->List b->List (Nat×b)
 |_,[]=>[]
 |n,a::l=>(n,a)::Ji (n+1) l
theorem jn{c:Type}(f:c->V):∀(n:Nat)(l:List c),ye (fun(p:Nat×c) x=>x=.Ba [.int p.1,f p.2]) (Ji n l) (Aj n (l.map f)):=by
 intro n b;induction b generalizing n with
 |nil=>exact trivial
 |cons a l e=>exact⟨rfl,e (n+1)⟩
theorem nt.IK{A L D:Addr}{t:TA}(h:nt U0 U F J A L D ps hv t)(c:U0 L=none)(f:A≠L)(o:zb):nt U0 (Ga U L (some (.list (t.found.map zb.v++[o.v])))) F J A L D ps hv {t with found:=t.found++[o]}:=by
 have g:∀(b:Addr)(m:MO),U b=some m->(∀l,m≠.list l)->Ga U L (some (.list (t.found.map zb.v++[o.v]))) b=some m:=fun b m hb n=>ia hb fun e=>by rw[e,h.l]at hb;(replace hb:=(Bb hb).symm;subst hb);exact n _ rfl
 refine Pb (fun as p q s=>?_) h.a;exact⟨h.keep.Ga (.inr c) _,g _ _ h.f (fun j e=>by injection e),(cc as (ia p f) (q.za fun a i ⟨u,hs⟩=>⟨u,g _ _ hs (fun j e=>by injection e)⟩) s),by refine aa (da _ _ _) (aa List.map_append ?_);rfl,g _ _ h.d (fun j e=>by injection e)⟩
theorem nt.yl{A L D:Addr}{t:TA}(h:nt U0 U F J A L D ps hv t)(o:U0 A=none)(p:U0 D=none)(s:A≠L){as:List Addr}(n:U A=some (.list (Ab as)))(z:ye (Zc U) as t.sf)(B:∀a∈as,U0 a=none){v:Nat}(K:Ah t.Lc v=none)(f:Ga (Ga U D (some (.dict (Yf (t.Lc++[(v,t.Z)]))))) F (some (.ib .func (Td ps hv (t.Z+1) J))) x=none) : nt U0 (Ga (Ga (Ga (Ga U D (some (.dict (Yf (t.Lc++[(v,t.Z)]))))) F (some (.ib .func (Td ps hv (t.Z+1) J)))) x (some (.ib .step (Sa.fs (.cp t.Z (.r v)) 0)))) A (some (.list (Ab as++[.ref x])))) F J A L D ps hv ⟨t.sf++[.cp t.Z (.r v)],t.found,t.Lc++[(v,t.Z)],t.Z+1⟩:=by
 have g:x≠D:=fun e=>by
  subst e;by_cases q:x=F
  ·subst q;rw[da]at f;injection f
  ·rw[qa _ _ q,da]at f;injection f
 have c:x≠F:=fun e=>by subst e;rw[da]at f;injection f
 have b:U x=none:=by rw[qa _ _ c,qa _ _ g]at f;exact f
 have u:A≠x:=fun e=>by subst e;rw[n]at b;injection b
 have w:L≠x:=fun e=>by subst e;rw[h.l]at b;injection b
 have j:¬(x=F)->U0 x=none:=fun y=>by
  induction e:U0 x with
  |none=>rfl
  |some m=>have:=h.keep x m y e;rw[b]at this;injection this
 refine⟨(((h.keep.Ga (.inr p) _).Ga (.inl rfl) _).Ga (.inr (j c)) _).Ga (.inr o) _,?_,(cc (as++[x]) (by refine aa (da _ _ _) ?_;unfold Ab;simp) ?_ (fun a l=>?_)),?_,?_⟩
 ·exact aa (qa _ _ ((Wa h.f n (fun e=>by injection e)):F≠A)) (aa (qa _ _ c.symm) (aa (da _ _ _) rfl))
 ·refine(z.za fun a i ⟨G,hs⟩=>⟨G,?_⟩).append ⟨⟨0,by exact aa (qa _ _ u.symm) (aa (da _ _ _) rfl)⟩,trivial⟩;have H:a≠x:=fun e=>by subst e;rw[hs]at b;injection b
  refine aa (qa _ _ ((Wa hs n (fun e=>by injection e)):a≠A)) (aa (qa _ _ H) (aa (qa _ _ ((Wa hs h.f (fun e=>by cases e)):a≠F)) (aa (qa _ _ ((Wa hs h.d (fun e=>by injection e)):a≠D)) ?_)));exact hs
 ·refine Or.elim (List.mem_append.mp l) (fun l=>?_) (fun l=>?_)
  ·exact B a l
  ·refine aa (Jd l) ?_;exact j c
 ·refine aa (qa _ _ s.symm) (aa (qa _ _ w) (aa (qa _ _ ((Wa h.f h.l (fun e=>by injection e)):F≠L).symm) (aa (qa _ _ ((Wa h.d h.l (fun e=>by injection e)):D≠L).symm) ?_)));exact h.l
 ·exact aa (qa _ _ ((Wa h.d n (fun e=>by injection e)):D≠A)) (aa (qa _ _ g.symm) (aa (qa _ _ ((Wa h.d h.f (fun e=>by injection e)):D≠F)) (aa (da _ _ _) rfl)))
theorem Xq(H:Sd G){args:List zb}(hF:U F=some (.ib .func (Td ps hv Z J)))(cn:ps.length≤100)(ha:args.length=ps.length)(q:∀A as U',U A=none->xg (fun a=>a=F) U U'->U' F=some (.ib .func (Td ps hv (Qe ps args Z).Z J))->U' A=some (.list (Ab as))->ye (Zc U') as (Qe ps args Z).sf->(∀a∈as,U a=none)->Q (.Ba [.ref A,Xl (Qe ps args Z).found]) U'):pe G (k+1) .Ui [.ref F,Xl args] U Q:=by
 refine H.call .Ui rfl (Ob ?_);refine aa ax (aa xi ?_);refine Eg .nil fun A hA=>?_;refine aa xi ?_;refine Eg .nil fun L hL=>?_;refine aa xi ?_;refine yq .nil rfl fun D hD=>?_;refine aa ou ?_;refine QF rfl ?_;have s:A≠L:=Sub.ne hL (da ..);have W:A≠D:=Sub.ne hD (ia (da ..) s);have wa:L≠D:=Sub.ne hD (da ..);have fa:U L=none:=by
  cases e:U L with
  |none=>rfl
  |some m=>have:=Sub.new hA (some (.list [])) _ _ e;rw[hL]at this;injection this
 have xa:U D=none:=by
  cases e:U D with
  |none=>rfl
  |some m=>have:=((Sub.new hA (some (.list []))).trans (Sub.new hL (some (.list [])))) _ _ e;rw[hD]at this;injection this
 have O:nt U (Ga (Ga (Ga U A (some (.list []))) L (some (.list []))) D (some (.dict (Of [])))) F J A L D ps hv ⟨[],[],[],Z⟩:=
  ⟨xg.of (((Sub.new hA _).trans (Sub.new hL _)).trans (Sub.new hD _)),(((Sub.new hA _).trans (Sub.new hL _)).trans (Sub.new hD _)) _ _ hF,(cc [] (ia (ia (da ..) s) W) trivial (fun X h=>nomatch h)),ia (da ..) wa,da ..⟩
 have f:∀n,n≤1000->n≤Ac:=fun n h=>bc h (by decide);have ka:U A=none:=hA;generalize Ga (Ga (Ga U A (some (.list []))) L (some (.list []))) D (some (.dict (Of [])))=U1 at O ⊢
 refine Ci (.var rfl) (Hq (l:=args.map zb.v)) (fun as I U'=>I 0=some (.ref F)∧I 1=some (Xl args)∧I 2=some (.ref A)∧I 3=some (.ref L)∧I 4=some (.ref D)∧∃Ma B t,as=Ji Ma B∧nt U U' F J A L D ps hv t∧qo ps args Ma B t=Qe ps args Z∧Ma+B.length=args.length∧
  t.found.length=Ma∧t.sf.length≤Ma∧t.Lc.length≤Ma) (jn zb.v 0 args) (xn rfl rfl rfl rfl rfl (bD 0 args _ rfl O rfl (Nat.zero_add _) rfl (tf _) (tf _))) (fun X X X X=>trivial) ?_ ?_
 ·(intro za as x I U' K hx la hK;obtain⟨Ma,o⟩:=za;(refine Qq (fun l0 l1 l2 l3 u w=>?_) la;clear la;refine GG (fun ab B t hr c g pa f1 f2 f3=>?_) w;clear w))
  subst hx;cases B with
  |nil=>injection hr
  |cons o' B=>
   injection hr with e1 e2;injection e1 with e3 e4;subst e3 e4 e2;simp only[List.length_cons]at pa;have Ea:(t.found.map zb.v).length≤Ac:=by refine aa (sd _) ?_;exact f _ (by lia)
   have M:∀(I':zc)(U':Mem)(P:TA)(z:zb),nt U U' F J A L D ps hv P->P.found=t.found->{P with found:=P.found++[z]}=Hj ps args t Ma o->P.sf.length≤Ma+1->P.Lc.length≤Ma+1->I' 0=some (.ref F)->I' 1=some (Xl args)->I' 2=some (.ref A)->I' 3=some (.ref L)->I' 4=some (.ref D)->I' 6=some z.v->
    Ia G (k+1) [.expr (.append (.var 3) (.var 6))] I' U' K Q:=fun I' U' P z j hf he g2 g3 m0 m1 m2 m3 m4 m6=>by
    refine md (.var m3) (.var m6) j.l (by refine aa hf ?_;exact Ea) (ja (hK _ _ (xn m0 m1 m2 m3 m4 (bD (Ma+1) B _ rfl (j.IK fa s z) ?_ (by lia) ?_ g2 g3))))
    ·refine aa he ?_;exact g
    ·refine(?_:(P.found++[z]).length=Ma+1);refine aa hf ?_;simp[f1]
   cases o with
   |k n=>exact Oe rfl (qe (.var rfl) rfl (La (.ua (r':=true) (.ta (.var rfl) .str .wd) fun h=>nomatch h) rfl (M _ _ t (.k n) c rfl rfl (by exact Nat.le_succ_of_le (by assumption)) (by exact Nat.le_succ_of_le (by assumption)) l0 l1 l2 l3 u rfl)))
   |r v=>
    have R:(ps.map fun(n:Nat)=>V.int n).length≤Ac:=by refine aa (sd _) ?_;exact f _ (by exact bc (by assumption) (Pa rfl))
    refine Oe rfl (qe (.var rfl) rfl (Ug (r:=Zg ps args Ma v) (.as (.ua (.ta (.var rfl) .str .wd) fun X=>.ua (r:=(ps.take Ma).contains v) (.ta (.var rfl) (.as (.gr (.ma (.var l0) c.f rfl) (.var rfl) rfl (vo Ma) R) (by exact aa (Int.toNat_natCast _) (Cb List.map_take rfl))) (.DG rfl (dm _) (Mu _ _))) fun hc=>.ua (r:=!decide (args[ps.idxOf v]?=some (.r v))) ?_ fun X=>.Od) ?_) (fun hm=>?_) fun hm=>ja (M _ _ t (.r v) c rfl ?_ (by exact Nat.le_succ_of_le (by assumption)) (by exact Nat.le_succ_of_le (by assumption)) l0 l1 l2 l3 u rfl)))
    ·have T:v∈ps:=List.mem_of_mem_take (by simpa using hc);obtain⟨z,ra⟩:∃z,args[ps.idxOf v]?=some z:=⟨_,List.getElem?_eq_getElem (by refine aa ha ?_;exact List.idxOf_lt_length_iff.mpr T)⟩;refine .as (.ta (.Ma (.var l1) (.Sm (.ma (.var l0) c.f rfl) rfl (.var rfl) (Wy T) (dm ps) rfl R) rfl (kc (by refine aa List.getElem?_map (aa ra ?_);rfl)) (by refine aa (sd _) ?_;exact f _ (by lia))) (.var rfl) (.ne (.eqv (An z) (An (.r v)) (Hs z (.r v))))) ?_;refine aa ra ?_;by_cases e:z=.r v
     ·exact aa (decide_eq_true e) (aa (decide_eq_true (by rw[e])) rfl)
     ·exact aa (decide_eq_false e) (aa (decide_eq_false (fun h=>e (Bb h))) rfl)
    ·unfold Zg;simp
    ·refine Pb (fun Ha h1 h2 h3=>?_) c.a;have N:Hj ps args t Ma (.r v)=(match Ah t.Lc v with
      |some x=>{t with found:=t.found++[.r x]}
      |none=>⟨t.sf++[.cp t.Z (.r v)],t.found++[.r t.Z],t.Lc++[(v,t.Z)],t.Z+1⟩):=by
      refine(?_:(if Zg ps args Ma v=true then _ else _)=_);exact aa (if_pos hm) rfl
     cases hg:Ah t.Lc v with
     |some y=>
      rw[hg]at N;have Y:Bd (Yf t.Lc) v=some (.int (y:Nat)):=by refine aa (Jl _ _) (aa hg ?_);rfl
      exact La (.ta (.var rfl) (.var u) (.Ri (.inDict c.d))) (by refine aa Y ?_;rfl) (Gb (.Ba (.cons .str (.cons (.key (.var u) (.var rfl) c.d Y) .nil))) (ja (M _ _ t (.r y) c rfl N.symm (by exact Nat.le_succ_of_le (by assumption)) (by exact Nat.le_succ_of_le (by assumption)) l0 l1 l2 l3 u rfl)))
     |none=>
      rw[hg]at N;have Y:Bd (Yf t.Lc) v=none:=by refine aa (Jl _ _) (aa hg ?_);rfl
      have ba:F≠D:=Wa c.f c.d (fun e=>by injection e);refine gb (.ta (.var rfl) (.var u) (.Ri (.inDict c.d))) (by refine aa Y ?_;rfl) (Xi (.ma (.var l0) c.f rfl) (.var u) (.var rfl) c.d (by unfold Yf;refine aa (sd _) ?_;exact f _ (by lia)) ?_);refine aa (yw hg) ?_;refine yd (.Fd (.ma (.var l0) (ia c.f ba) rfl) .int .add) (.var l0) (ia c.f ba) (Pa rfl) ?_;have Ra:So (Td ps hv t.Z J) .ie (.int ((t.Z:Int)+1))=Td ps hv (t.Z+1) J:=rfl;refine aa Ra ?_;have W:A≠D:=Wa h1 c.d (fun e=>by injection e);have Ta:A≠F:=Wa h1 c.f (fun e=>by injection e);have sa:Bd (Yf (t.Lc++[(v,t.Z)])) v=some (.int (t.Z:Nat)):=by unfold Yf;refine aa List.map_append (aa (ko _ _ _) ?_);have Y:Bd (t.Lc.map fun p=>((p.1:Int),V.int (p.2:Nat))) v=none:=Y;refine aa Y ?_;refine(?_:(if(v:Int)=v then some _ else none)=_);exact aa (if_pos rfl) rfl
      have ea:Ga (Ga U' D (some (.dict (Yf (t.Lc++[(v,t.Z)]))))) F (some (.ib .func (Td ps hv (t.Z+1) J))) A=some (.list (Ab Ha)):=ia (ia h1 W) Ta;refine Zp (.var l2) ea (by unfold Ab;refine aa (sd _) (aa h2.Pd ?_);exact f _ (by lia)) fun Q' Ua=>yj H (.cons .str (.cons (.key (.var u) (.var rfl) (ia (da ..) ba.symm) sa) (.cons (.xb (.cons (.var rfl) .nil)) (.cons .int .nil)))) fun x hx=>Ua _ _ (ia ea (fun e=>by subst e;rw[ea]at hx;injection hx)) ?_;have j:=c.yl ka xa s h1 h2 h3 hg hx;exact ja (Gb (.Ba (.cons .str (.cons (.key (.var u) (.var rfl) j.d sa) .nil))) (ja (M _ _ _ (.r t.Z) j rfl N.symm (by refine(?_:(t.sf++[_]).length≤_);simp;assumption) (by refine(?_:(t.Lc++[_]).length≤_);simp;assumption) l0 l1 l2 l3 u rfl)))
    ·refine(?_:_=if Zg ps args Ma v=true then _ else _);exact aa (if_neg (by rw[hm];decide)) rfl
 ·(intro I U' ua;(refine Qq (fun l0 l1 l2 l3 u w=>?_) ua;clear ua;refine Df (fun Ma B t hr c g X=>?_) w;clear w))
  cases B with
  |cons o B=>injection hr
  |nil=>have g:t=Qe ps args Z:=g;subst g;refine Pb (fun as h1 h2 h3=>?_) c.a;refine Oj ?_;refine aa ax (aa xi ?_);refine qb.var l2 _ ?_;refine aa xi ?_;refine mq (.var l3) c.l ?_;refine aa ou ?_;have up:∀(b:Addr)(m:MO),U' b=some m->b≠L->Ga U' L none b=some m:=fun b m hb Ya=>ia hb Ya;refine q A as _ ka (c.keep.Ga (.inr fa) _) (up _ _ c.f (Wa c.f c.l (fun e=>by injection e))) (up _ _ h1 s) (h2.za fun a i ⟨ln,hs⟩=>⟨ln,up _ _ hs (Wa hs c.l (fun e=>by injection e))⟩) h3
noncomputable def DH:List Nat->List zb->List (Nat×zb)
 |p::ps,o::os=>(p,o)::DH ps os
 |_,_=>[]
theorem PH:∀(ps:List Nat)(c:List zb),ye (fun(p:Nat×zb) x=>x=.Ba [.int p.1,p.2.v]) (DH ps c) (To (ps.map fun(n:Nat)=>V.int n) (c.map zb.v)):=by
 intro b;induction b with
 |nil=>
  intro a;rcases a with _|⟨e,f⟩
  ·exact trivial
  ·exact trivial
 |cons p ps g=>
  intro a;rcases a with _|⟨o,c⟩
  ·exact trivial
  ·exact⟨rfl,g c⟩
theorem ry(ps:List Nat)(args:List zb):∀(a:List zb)(Ma:Nat)(t:TA),(qo ps args Ma a t).found.length=t.found.length+a.length∧(qo ps args Ma a t).sf.length≤t.sf.length+a.length:=by
 intro b;induction b with
 |nil=>intro Ma t;exact⟨rfl,tf _⟩
 |cons o a c=>
  intro Ma t;refine Qa (fun e f=>?_)<|c (Ma+1) (Hj ps args t Ma o);have:(Hj ps args t Ma o).found.length=t.found.length+1∧(Hj ps args t Ma o).sf.length≤t.sf.length+1:=by
   cases o with
   |k n=>exact⟨by refine(?_:(t.found++[_]).length=_);simp,Nat.le_succ _⟩
   |r v=>
    refine(?_:(if Zg ps args Ma v=true then _ else _:TA).found.length=_∧(if Zg ps args Ma v=true then _ else _:TA).sf.length≤_);split
    ·cases Ah t.Lc v with
     |some y=>exact⟨by refine(?_:(t.found++[_]).length=_);simp,Nat.le_succ _⟩
     |none=>exact⟨by refine(?_:(t.found++[_]).length=_);simp,by refine(?_:(t.sf++[_]).length≤_);simp⟩
    ·exact⟨by refine(?_:(t.found++[_]).length=_);simp,Nat.le_succ _⟩
  simp only[List.length_cons];refine(?_:(qo ps args (Ma+1) a (Hj ps args t Ma o)).found.length=_∧(qo ps args (Ma+1) a (Hj ps args t Ma o)).sf.length≤_);exact⟨e.trans (by rw[this.1,Nat.add_right_comm];rfl),bc f (bc (Nat.add_le_add_right this.2 _) (Nat.le_of_eq (Nat.add_right_comm ..)))⟩
theorem Km(ps:List Nat)(args:List zb)(Z:Nat):(Qe ps args Z).found.length=args.length∧(Qe ps args Z).sf.length≤args.length:=by have:=ry ps args args 0 ⟨[],[],[],Z⟩;unfold Qe;simpa using this
theorem xg.x0{X:Addr->Prop}(h:xg X U0 U)(b:U x=none)(a:¬X x):U0 x=none:=by
 induction e:U0 x with
 |none=>rfl
 |some m=>have:=h x m a e;rw[b]at this;injection this
theorem Dt(H:Sd G){args:List zb}(hF:U F=some (.ib .func (Td ps hv Z J)))(cn:ps.length≤100)(u:args.length=ps.length)(q:∀A as U',U A=none->xg (fun a=>a=F) U U'->U' F=some (.ib .func (Td ps hv (qc ps args Z).2 J))->U' A=some (.list (Ab as))->ye (Zc U') as (qc ps args Z).1->(∀a∈as,U a=none)->as.length≤1000->Q (.ref A) U'):pe G (k+1+1) .Gj [.ref F,Xl args] U Q:=by
 (change let R:Prop:=_;R;intro R);refine Qa (fun ea sa=>?_)<|Km ps args Z
 refine H.call .Gj rfl (Ob (Jc (.cons (.var rfl) (.cons (.var rfl) .nil)) (Xq H hF cn u fun A as U1 D w L fa M g=>Oe rfl ?_)))
 refine dw (.ma (.var rfl) L rfl) (.var rfl) Hq Hq (by exact aa (sd _) (aa (sd _) (aa ea (aa u rfl)))) (fun os I U'=>I 0=some (.ref F)∧I 2=some (.ref A)∧∃as y c b,os=DH c b∧y++pf c b=(qc ps args Z).1∧xg (fun a=>a=F) U U'∧U' F=some (.ib .func (Td ps hv (Qe ps args Z).Z J))∧U' A=some (.list (Ab as))∧ye (Zc U') as y∧(∀a∈as,U a=none)∧as.length+b.length≤200)
  (PH ps (Qe ps args Z).found) (yc rfl rfl (nB as _ ps _ rfl rfl w L fa M g (by have:=M.Pd;lia))) (fun N N N N=>⟨trivial,trivial⟩) ?_ ?_
 ·(intro ka os x I U' K m O hK;obtain⟨p,o⟩:=ka;(refine Nb (fun l0 l2 s=>?_) O;clear O;refine tH (fun as y c b P T w l f t g hl=>?_) s;clear s))
  rw[m]at *;clear m;induction c with
  |nil=>exact nomatch P
  |cons p' c=>
   induction b with
   |nil=>exact nomatch P
   |cons o' b=>
    injection P with e1 e2;injection e1 with e3 e4;subst e3 e4 e2;simp only[List.length_cons]at hl;have W:y++(dk p o++pf c b)=(qc ps args Z).1:=T;have skip:dk p o=[]->K (Ca (Ca I 4 (.int p)) 5 o.v) U':=fun h=>hK _ _ (yc l0 l2 (nB as y c b rfl (by refine Cb W (aa h ?_);rfl) w l f t g (by exact Nat.le_of_lt (by assumption))))
    have add:∀i:Sa,dk p o=[i]->Ff G (k+1+1) (Ca (Ca I 4 (.int p)) 5 o.v) U' [(.ite (.ta .Eq (.Ma (.var 5) (.int 0)) (.str .k)) (.str .Bk) (.str .lj)),(.var 4),(.xb true [(.var 5)]),(.int 0)] [.wd i.op,.int i.nc,Xl i.args,i.more]->i.Fq=false->
     Ia G (k+1+1) [.expr (.append (.var 2) (.new .step [(.ite (.ta .Eq (.Ma (.var 5) (.int 0)) (.str .k)) (.str .Bk) (.str .lj)),(.var 4),(.xb true [(.var 5)]),(.int 0)]))] (Ca (Ca I 4 (.int p)) 5 o.v) U' (fun I U=>Ia G (k+1+1) [] I U K Q) Q:=fun i hi pa hf=>by
     refine Zp (.var l2) f (by unfold Ab;refine aa (sd _) ?_;exact bc (show as.length≤200 by exact bc (pn _ _) (by assumption)) (by exact Pa rfl):(Ab as).length≤Ac) fun Q' ra=>yj H pa fun x m=>?_;have X:A≠x:=fun e=>by subst e;rw[f]at m;exact nomatch m
     have z:F≠x:=fun e=>by subst e;rw[l]at m;exact nomatch m
     refine ra _ _ (ia f X) (ja (ja (hK _ _ (yc l0 l2 (nB (as++[x]) (y++[i]) c b rfl (by refine Cb W (aa hi ?_);simp) ((w.Ga (.inr (w.x0 m z.symm)) _).Ga (.inr D) _) (ia (ia l z) ((Wa l f (fun e=>by exact nomatch e)):F≠A)) (by refine aa (da _ _ _) ?_;unfold Ab;simp) ?_ ?_ (by simp;lia))))))
     ·refine(t.za fun a j ⟨ln,hs⟩=>⟨ln,ia (ia hs (fun e=>by subst e;rw[hs]at m;exact nomatch m)) (Wa hs f (fun e=>by exact nomatch e))⟩).append ⟨⟨0,?_⟩,trivial⟩;refine aa (qa _ _ X.symm) (aa (da _ _ _) ?_);unfold Sa.fs;exact aa hf rfl
     ·intro a u;refine Or.elim (List.mem_append.mp u) (fun u=>?_) (fun u=>?_)
      ·exact g a u
      ·refine aa (Jd u) ?_;exact w.x0 m z.symm
    refine Oe rfl ?_;induction o with
    |k n=>exact gb (.ta (.var rfl) (.Ba (.cons .str (.cons (.var rfl) .nil))) (.ne (.eqv (An (.k n)) (An (.r p)) (Hs (.k n) (.r p))))) (by refine aa (decide_eq_false (fun e=>by exact nomatch e)) ?_;rfl) (add (.dr p n) rfl (.cons (.ite (r:=true) (.ta (.Ma (.var rfl) .int rfl rfl (wc rfl)) .str .wd) (fun N=>.str) fun h=>nomatch h) (.cons (.var rfl) (.cons (.xb (.cons (.var rfl) .nil)) (.cons .int .nil)))) rfl)
    |r v=>
     refine Ug (.ta (.var rfl) (.Ba (.cons .str (.cons (.var rfl) .nil))) (.ne (.eqv (An (.r v)) (An (.r p)) (Hs (.r v) (.r p))))) (fun h=>?_) fun h=>ja (ja (skip ?_))
     ·have B:v≠p:=fun e=>by subst e;rw[decide_eq_true rfl]at h;exact(Fc h).elim
      exact add (.cp p (.r v)) (by refine(?_:(if v=p then []else _)=_);exact aa (if_neg B) rfl) (.cons (.ite (r:=false) (.ta (.Ma (.var rfl) .int rfl rfl (wc rfl)) .str .wd) (fun h=>nomatch h) fun N=>.str) (.cons (.var rfl) (.cons (.xb (.cons (.var rfl) .nil)) (.cons .int .nil)))) rfl
     ·have B:v=p:=by
       have:decide (zb.r v=zb.r p)=true:=by simpa using h
       have:=Ub this;cases this;rfl
      refine(?_:(if v=p then []else _)=_);exact aa (if_pos B) rfl
 ·(intro I U' Y;(refine Nb (fun l0 l2 s=>?_) Y;clear Y;refine tH (fun as y c b P T w l f t g hl=>?_) s;clear s))
  have ba:pf c b=[]:=by
   induction c with
   |nil=>rfl
   |cons p c=>induction b with
    |nil=>rfl
    |cons o b=>exact nomatch P
  rw[ba,List.append_nil]at T;rw[T]at *;clear T;exact Xa (.var l2) (q A as U' D w l f t g (by exact bc (bc (pn _ _) (by assumption)) (Pa rfl)))
noncomputable def Te(ps:List Nat)(B:xd)(jc:Nat)(Z:Nat):xd×Nat:=
 let a:=(B.la[jc]?.map Sa.args).getD [];(⟨B.la.take jc++(qc ps a Z).1,.Ib 0⟩,(qc ps a Z).2)
theorem Dc.of:∀{n:Nat}{bs:List Addr}{P:List xd},bs.length=P.length->(∀(j:Nat)(b:Addr)(B:xd),bs[j]?=some b->P[j]?=some B->jd U b (n+j) B)->Dc U n bs P:=by
 intro n c;induction c generalizing n with
 |nil=>
  intro a h H;rcases a with _|⟨e,f⟩
  ·exact trivial
  ·injection h
 |cons b bs g=>
  intro a h H;rcases a with _|⟨B,P⟩
  ·injection h
  ·exact⟨H 0 b B rfl rfl,g (by simpa using h) fun j i l m o=>by
    have:=H (j+1) i l (by exact m) (by exact o);refine aa (show n+1+j=n+(j+1) by exact Nat.add_right_comm _ _ _) ?_;exact this⟩
theorem xg.step{b:Addr}(h:xg (fun a=>a=F∨a=b) U U'){i j:List (At×V)}(l:U F=some (.ib .func i))(hb:U b=some (.ib .td j)){m:MO}(f:U a=some m)(g:∀c n,m=.ib c n->c=.step):U' a=some m:=by
 refine h a m (fun e=>?_) f;rcases e with rfl|rfl
 ·rw[l]at f;(replace f:=Bb f;induction f);have:=g _ _ rfl;exact absurd (congrArg Fin.val this) (Mo rfl)
 ·rw[hb]at f;(replace f:=Bb f;induction f);have:=g _ _ rfl;exact absurd (congrArg Fin.val this) (Mo rfl)
theorem xg.lv{b:Addr}(h:xg (fun a=>a=F∨a=b) U U'){g i:List (At×V)}(j:U F=some (.ib .func g))(hb:U b=some (.ib .td i)){v:V}(hv:Mine.lv U v=some l):Mine.lv U' v=some l:=by
 cases v with
 |fl m=>exact hv
 |ref a=>
  have f:(match U a with|some (.list l)=>some l|_=>none)=some l:=hv;split at f
  ·rename_i e
   (replace f:=Bb f;induction f)
   exact Mg (h.step j hb e (fun c n e=>by exact nomatch e))
  ·exact nomatch f
 |_=>exact nomatch hv
theorem jd.keep{b c:Addr}(h:xg (fun a=>a=F∨a=b) U U'){o p:List (At×V)}(j:U F=some (.ib .func o))(hb:U b=some (.ib .td p))(s:jd U c n B)(l:c≠b):jd U' c n B:=by
 (change let R:Prop:=_;R;intro R);(refine Df (fun sv e as f t u g=>?_) s.ex;refine Aa (fun m v=>?_) g;clear g)
 refine⟨(Jj sv e as (h c _ (fun q=>?_) f) (h.lv j hb t) (u.za fun a i ⟨m,hs⟩=>⟨m,h.step j hb hs (fun c w e=>by cases e;rfl)⟩) (Ks m (h.step j hb v (fun c w e=>by cases e;rfl))))⟩;rcases q with rfl|rfl
 ·rw[j]at f;(replace f:=Bb f;cases f)
 ·exact l rfl
theorem Vr{c:List (At×V)}{v:Int}(f:U x=some (.ib .step c)){i:Sa}(h:Zc U a i):Zc (Ga U x (some (.ib .step (So c .line (.int v))))) a i:=by
 (revert h;intro b;refine Aa (fun g h=>?_) b;clear b)
 by_cases e:a=x
 ·subst e;rw[f]at h;(replace h:=Bb h;cases h);exact⟨v,by refine aa (da _ _ _) ?_;rfl⟩
 ·exact⟨g,ia h e⟩
theorem eu{c:List (At×V)}{v:Int}(f:U x=some (.ib .step c)){i:En}(h:Wj U a i):Wj (Ga U x (some (.ib .step (So c .line (.int v))))) a i:=by
 (revert h;intro b;refine Aa (fun g h=>?_) b;clear b)
 by_cases e:a=x
 ·subst e;rw[f]at h;(replace h:=Bb h;cases h);exact⟨v,by refine aa (da _ _ _) ?_;rfl⟩
 ·exact⟨g,ia h e⟩
theorem Au(H:Sd G)(o:Ce U F J ps hv Z bs P)(cn:ps.length≤100){jc:Nat}{b:Addr}{r0:Sa}(hB:P[i]?=some B)(ua:bs[i]?=some b)(ba:B.la[jc]?=some r0)(cb:r0.args.length=ps.length)(u:B.la.length≤1000)(q:∀U',Ce U' F J ps hv (Te ps B jc Z).2 bs (P.set i (Te ps B jc Z).1)->xg (fun a=>a=F∨a=b) U U'->Q .none U'):pe G (k+1+1+1) .el [.ref F,.ref b,.int jc] U Q:=by
 rw[(by unfold Te;refine aa ba ?_;rfl:(Te ps B jc Z).1=⟨B.la.take jc++(qc ps r0.args Z).1,.Ib 0⟩),(by unfold Te;refine aa ba ?_;rfl:(Te ps B jc Z).2=(qc ps r0.args Z).2)]at q;refine ya (fun b' v hb=>?_)<|o.jc.Pn hB
 rw[ua]at v;(replace v:=Bb v;induction v);rw[Nat.zero_add]at hb;refine Df (fun sv e as g ea m yb=>?_)<|id hb.ex
 (refine ya (fun a0 wa p=>?_)<|Bt m ba;refine Aa (fun eb xa=>?_) p;clear p)
 refine H.call .el rfl (Gb (.ma (.Ma (.ma (.var rfl) g rfl) (.var rfl) ((Fj ea):Mine.sv U sv=some (Ab as)) (kc wa) (by unfold Ab;refine aa (sd _) (aa m.Pd ?_);exact bc u (by decide):(Ab as).length≤Ac)) xa rfl) ?_);refine Ob (Jc (.cons (.var rfl) (.cons (.ma (.Ma (.ma (.var rfl) g rfl) (.var rfl) ((Fj ea):Mine.sv U sv=some (Ab as)) (kc wa) (by unfold Ab;refine aa (sd _) (aa m.Pd ?_);exact bc u (by decide):(Ab as).length≤Ac)) xa rfl) .nil)) (Dt H o.f cn cb fun A n U1 Fb t za fa fb kb Ea=>vb ?_));refine yj H (.cons .str (.cons .int (.cons (.xb .nil) (.cons .int .nil)))) fun x D=>?_;have Ha:b≠x:=fun e=>by subst e;rw[(t b _ ((Wa g o.f (fun e=>by cases e)):b≠F) g)]at D;injection D
 have ka:F≠x:=fun e=>by subst e;rw[za]at D;injection D
 have lb:A≠x:=fun e=>by subst e;rw[fa]at D;injection D
 refine qb.var (i:=1) rfl _ ?_;refine Qp (ia (t b _ ((Wa g o.f (fun e=>by cases e)):b≠F) g) Ha) (Pa rfl) ?_
 have Ra:xg (fun a=>a=F∨a=b) U (Ga (Ga U1 x (some (.ib .step [(.op,.wd .Ib),(.nc,.int (-1)),(.args,.fl []),(.more,.int 0),(.Tb,.bool false),(.line,.int 0)]))) b (some (.ib .td [(.Yc,.int i),(.uc,sv),(.We,.ref x)]))):=
  ((t.uK fun a h=>.inl h).Ga (.inr ((t.x0 D ka.symm):U x=none)) _).Ga (.inl (.inr rfl)) _
 have L:ye (Zc (Ga (Ga U1 x (some (.ib .step [(.op,.wd .Ib),(.nc,.int (-1)),(.args,.fl []),(.more,.int 0),(.Tb,.bool false),(.line,.int 0)]))) b (some (.ib .td [(.Yc,.int i),(.uc,sv),(.We,.ref x)])))) n (qc ps r0.args Z).1:=
  fb.za fun a j ⟨M,hs⟩=>⟨M,ia (ia hs (fun e=>by subst e;rw[hs]at D;injection D)) (Wa hs (t b _ ((Wa g o.f (fun e=>by cases e)):b≠F) g) (fun e=>by cases e))⟩
 have la:Wj (Ga (Ga U1 x (some (.ib .step [(.op,.wd .Ib),(.nc,.int (-1)),(.args,.fl []),(.more,.int 0),(.Tb,.bool false),(.line,.int 0)]))) b (some (.ib .td [(.Yc,.int i),(.uc,sv),(.We,.ref x)]))) x (.Ib 0):=
  ⟨0,by refine aa (qa _ _ Ha.symm) (aa (da _ _ _) ?_);rfl⟩
 have Ta:=ia (x:=some (.ib .td [(.Yc,.int i),(.uc,sv),(.We,.ref x)])) (ia (x:=some (.ib .step [(.op,.wd .Ib),(.nc,.int (-1)),(.args,.fl []),(.more,.int 0),(.Tb,.bool false),(.line,.int 0)])) za ka) ((Wa g o.f (fun e=>by cases e)):b≠F).symm;have pa:=ia (x:=some (.ib .td [(.Yc,.int i),(.uc,sv),(.We,.ref x)])) (ia (x:=some (.ib .step [(.op,.wd .Ib),(.nc,.int (-1)),(.args,.fl []),(.more,.int 0),(.Tb,.bool false),(.line,.int 0)])) fa lb) ((Wa fa (t b _ ((Wa g o.f (fun e=>by cases e)):b≠F) g) (fun e=>by injection e)):A≠b);have ra:Ga (Ga U1 x (some (.ib .step [(.op,.wd .Ib),(.nc,.int (-1)),(.args,.fl []),(.more,.int 0),(.Tb,.bool false),(.line,.int 0)]))) b (some (.ib .td [(.Yc,.int i),(.uc,sv),(.We,.ref x)])) b=some (.ib .td [(.Yc,.int i),(.uc,sv),(.We,.ref x)]):=da ..;refine(?_:Ia G (k+1+1+1) _ _ (Ga (Ga U1 x _) b (some (.ib .td [(.Yc,.int i),(.uc,sv),(.We,.ref x)]))) _ _);generalize Ga (Ga U1 x (some (.ib .step [(.op,.wd .Ib),(.nc,.int (-1)),(.args,.fl []),(.more,.int 0),(.Tb,.bool false),(.line,.int 0)]))) b (some (.ib .td [(.Yc,.int i),(.uc,sv),(.We,.ref x)]))=U2 at Ra L la Ta pa ra ⊢
 refine rf (as:=n++[x]) (.Fd (.var rfl) (.xb (.cons (.ma (.var rfl) ra rfl) .nil)) (.rr (Mg pa) rfl (by unfold Ab;refine aa (sd _) ?_;exact bc Ea (by decide)) (wc rfl))) (xe (l:=Ab n++[.ref x]))
  (fun xs I U'=>I 0=some (.ref F)∧I 1=some (.ref b)∧I 2=some (.int jc)∧I 3=some (.int eb)∧I 4=some (.ref A)∧xg (fun a=>a=F∨a=b) U U'∧ye (Zc U') n (qc ps r0.args Z).1∧Wj U' x (.Ib 0)∧U' F=some (.ib .func (Td ps hv (qc ps r0.args Z).2 J))∧U' A=some (.list (Ab n))∧U' b=some (.ib .td [(.Yc,.int i),(.uc,sv),(.We,.ref x)])∧
   ∀a∈xs,U a=none∧((∃i,Zc U' a i)∨∃e,Wj U' a e)) (by have:=ye.map V.ref (n++[x]);rw[List.map_append]at this;exact this) (NF rfl rfl rfl rfl rfl Ra L la Ta pa ra (fun a ha=>?_)) (fun ζ ζ ζ ζ=>trivial) ?_ ?_
 ·refine Or.elim (List.mem_append.mp ha) (fun ha=>?_) (fun ha=>?_)
  ·refine⟨kb a ha,?_⟩
   (change let R:Prop:=_;R;intro R);refine Aa (fun j X=>?_)<|List.getElem?_of_mem ha
   obtain⟨r,hr⟩:∃r,(qc ps r0.args Z).1[j]?=some r:=⟨_,List.getElem?_eq_getElem (by refine Cb L.Pd ?_;exact(Ro X).1)⟩;refine ya (fun a' h1 h2=>?_)<|L.Pn hr;rw[X]at h1;(replace h1:=Bb h1;induction h1);exact .inl ⟨_,h2⟩
  ·refine aa (Jd ha) ?_;exact⟨((t.x0 D ka.symm):U x=none),.inr ⟨_,la⟩⟩
 ·(intro a xs y I U' K mb Ua hK;refine aa mb ?_;(refine fI (fun l0 l1 l2 l3 l4 hk hs he p=>?_) Ua;clear Ua;refine nf (fun N O w Ya=>?_) p;clear p))
  (change let R:Prop:=_;R;intro R);refine Qa (fun ab ob=>?_)<|Ya a (.head _)
  obtain⟨Y,s,rb⟩:∃Y,U' a=some (.ib .step Y)∧Y.length≤100:=by
   rcases ob with⟨i,M,h⟩|⟨e,M,h⟩
   ·exact(pb _ h (Pa rfl))
   ·exact(pb _ h (Pa rfl))
  refine vb (yd (.var l3) (.var rfl) s rb (ja (hK _ _ (NF l0 l1 l2 l3 l4 (hk.Ga (.inr ab) _) (hs.za fun ζ ζ h=>Vr s h) (eu s he) (ia N (Wa N s (fun e=>by cases e))) (ia O (Wa O s (fun e=>by injection e))) (ia w (Wa w s (fun e=>by cases e))) (fun a' sb=>?_)))));refine Qa (fun h1 h2=>?_)<|Ya a' (.tail _ sb)
  exact⟨h1,h2.imp (fun⟨i,h⟩=>⟨i,Vr s h⟩) fun⟨e,h⟩=>⟨e,eu s h⟩⟩
 ·(intro I U' bb;(refine fI (fun l0 l1 l2 l3 l4 hk hs he p=>?_) bb;clear bb;refine nf (fun N O w ζ=>?_) p;clear p))
  refine yd (.Fd (.gr (.ma (.var l1) w rfl) (.var l2) ((hk.lv o.f g ea):Mine.lv U' sv=some (Ab as)) (vo jc) (by unfold Ab;refine aa (sd _) (aa m.Pd ?_);exact bc u (by decide):(Ab as).length≤Ac)) (.var l4) (.rr rfl (Mg O) (by refine aa List.length_take ?_;exact bc (Nat.min_le_right _ _) (by unfold Ab;refine aa (sd _) (aa m.Pd ?_);exact bc u (by decide):(Ab as).length≤Ac)) (by unfold Ab;refine aa (sd _) ?_;exact bc Ea (by decide)))) (.var l1) w (Pa rfl) (ja ?_);have T:xg (fun a=>a=F∨a=b) U (Ga U' b (some (.ib .td (So [(.Yc,.int i),(.uc,sv),(.We,.ref x)] .uc (.fl ((Ab as).take jc++Ab n)))))):=hk.Ga (.inl (.inr rfl)) _;refine q _ ⟨ia N ((Wa g o.f (fun e=>by cases e)):b≠F).symm,T J _ (fun e=>?_) o.bl,Dc.of (by refine aa List.length_set ?_;exact o.jc.Pd) fun j c f X hC=>?_⟩ T
  ·rcases e with rfl|rfl
   ·have:=o.f;rw[o.bl]at this;(replace this:=Bb this;cases this)
   ·have:=o.bl;rw[g]at this;(replace this:=Bb this;cases this)
  ·refine aa (Nat.zero_add _) ?_;by_cases e:j=i
   ·subst e;rw[ua]at X;(replace X:=Bb X;induction X);rw[List.getElem?_set_self (Ro hB).1]at hC
    (replace hC:=Bb hC;induction hC)
    have up:∀a Y,U' a=some (.ib .step Y)->Ga U' b (some (.ib .td (So [(.Yc,.int j),(.uc,sv),(.We,.ref x)] .uc (.fl ((Ab as).take jc++Ab n))))) a=some (.ib .step Y):=fun a Y h=>ia h (Wa h w (fun e=>by cases e));refine⟨(Jj _ x (as.take jc++n) (da ..) ?_ ((((m.take jc).za fun a i ⟨M,h⟩=>⟨M,T.step o.f g h (fun c Y e=>by cases e;rfl)⟩)).append (hs.za fun a i ⟨M,h⟩=>⟨M,up _ _ h⟩)) ?_)⟩
    ·refine(?_:some ((Ab as).take jc++Ab n)=some (Ab (as.take jc++n)));unfold Ab;exact aa List.map_append (aa List.map_take rfl)
    ·(refine Aa (fun M h=>?_) he;clear he)
     exact⟨M,up _ _ h⟩
   ·rw[List.getElem?_set_ne (Ne.symm e)]at hC;refine ya (fun c' W sa=>?_)<|o.jc.Pn hC
    rw[X]at W;(replace W:=Bb W;induction W);rw[Nat.zero_add]at sa;refine sa.keep T o.f g fun h=>?_;subst h;refine qh (fun Hb e' Rb z ζ=>?_) sa.ex;rw[g]at z;injection z with z;injection z with _ z;injection z with z;injection z with _ z;injection z with z;lia
noncomputable def Jb(ps:List Nat)(hv:Bool)(P:List xd)(B:xd):Option Nat:=
 if 0≤Qb ps B.la then(if fg hv P B (Qb ps B.la).toNat=true then some (Qb ps B.la).toNat else none)else none
noncomputable def Rd(ps:List Nat)(hv:Bool)(P:List xd):List (Nat×xd)->List (Nat×Nat)
 | []=>[]
 |(n,B)::r=>(match Jb ps hv P B with
  |some a=>(n,a)::Rd ps hv P r
  |none=>Rd ps hv P r)
noncomputable def Yi(ps:List Nat):List (Nat×Nat)->List xd->Nat->List xd×Nat
 | [],P,Z=>(P,Z)
 |(i,a)::r,P,Z=>(match P[i]? with
  |some B=>Yi ps r (P.set i (Te ps B a Z).1) (Te ps B a Z).2
  |none=>(P,Z))
noncomputable def Xj(ps:List Nat)(hv:Bool)(T:Int->Bool)(P:List xd)(Z:Nat):Bool×List xd×Nat:=
 if(Rd ps hv P (Mf 0 P)).isEmpty=true∨Wf T P=true then(false,P,Z)else(true,Yi ps (Rd ps hv P (Mf 0 P)) P Z)
structure Ux(ps:List Nat)(hv:Bool)(T:Int->Bool)(Ts:List Int)(P:List xd):Prop where
 jK:ps.length≤100
 pl:P.length≤100
 rl:∀B∈P,B.la.length≤1000
 al:∀B∈P,∀i∈B.la,i.args.length≤100
 j:Wm P
 gv:∀B∈P,∀o,fe P P.length B.en=.ic o->o.isSome=hv
 Kd:Ey T Ts P
 ts:Ts.length≤50
theorem Zn(b:List Sa):∀n,n≤b.length->∀a:Nat,Yd b n=(a:Int)->a<n∧(∀j,a<j->j<n->∃i,b[j]?=some i∧Lg i=true):=by
 intro f;induction f with
 |zero=>intro m a h;have:(-1:Int)=a:=h;lia
 |succ n o=>
  intro m a h;replace h:(if(b[n]?.map Lg)=some true then Yd b n else(n:Int))=a:=h;by_cases c:(b[n]?.map Lg)=some true
  ·rw[if_pos c]at h
   (change let R:Prop:=_;R;intro R);refine Qa (fun s p=>?_)<|o (by exact Nat.le_of_lt (by assumption)) a h
   refine⟨by exact Nat.lt_succ_of_lt (by assumption),fun j g q=>?_⟩;by_cases e:j=n
   ·subst e;cases l:b[j]? with
    |none=>rw[l]at c;exact nomatch c
    |some i=>rw[l]at c;exact(pb i rfl (Bb c))
   ·exact p j g (by lia)
  ·have:n=a:=Int.ofNat.inj (by rw[if_neg c]at h;exact h);refine Cb this ?_;exact⟨by exact tf _,fun j g q=>by exact absurd (by assumption) (Nat.not_lt.mpr (by assumption))⟩
theorem nh{c:List Sa}(h:0≤Qb ps c):∃b g,c[(Qb ps c).toNat]?=some (.Qg b g)∧g.length=ps.length∧∀i∈c.drop ((Qb ps c).toNat+1),Lg i=true:=by
 have f:Qb ps c=if 0≤Yd c c.length then(if(c[(Yd c c.length).toNat]?.map (Jh ps))=some true then Yd c c.length else -1)else -1:=rfl
 by_cases m:0≤Yd c c.length
 ·rw[if_pos m]at f;by_cases e:(c[(Yd c c.length).toNat]?.map (Jh ps))=some true
  ·rw[if_pos e]at f;refine aa f ?_;refine Aa (fun a o=>?_)<|Int.eq_ofNat_of_zero_le m
   rw[o,Int.toNat_natCast]at e ⊢;refine Qa (fun u q=>?_)<|Zn c _ (tf _) a o
   induction p:c[a]? with
   |none=>rw[p]at e;exact nomatch e
   |some i=>
    rw[p]at e;have e:Jh ps i=true:=Bb e;induction i with
    |Qg b g=>
     refine(qf b g rfl (Ub e) (fun i s=>?_));refine Aa (fun j n=>?_)<|List.getElem?_of_mem s
     rw[List.getElem?_drop]at n;refine ya (fun v l t=>?_)<|q (a+1+j) (by exact pn _ _) (Ro n).1
     rw[n]at l;(replace l:=Bb l;induction l);exact t
    |_=>exact(Fc e).elim
  ·rw[if_neg e]at f;rw[f]at h;exact absurd h (by exact Ub rfl)
 ·rw[if_neg m]at f;rw[f]at h;exact absurd h (by exact Ub rfl)
theorem Cq:∀{l:List (Nat×xd)}{p:Nat×Nat},p∈Rd ps hv P l->∃B,(p.1,B)∈l∧Jb ps hv P B=some p.2:=by
 intro b;induction b with
 |nil=>intro p h;exact nomatch h
 |cons c r j=>
  intro p h;obtain⟨n,B⟩:=c;replace h:p∈(match Jb ps hv P B with|some a=>(n,a)::Rd ps hv P r|none=>Rd ps hv P r):=h;cases e:Jb ps hv P B with
  |some a=>
   rw[e]at h;rcases pg h with rfl|h
   ·exact(pb B (.head _) e)
   ·(change let R:Prop:=_;R;intro R);refine ya (fun f g i=>?_)<|j h;exact(pb f (.tail _ g) i)
  |none=>
   rw[e]at h
   (change let R:Prop:=_;R;intro R);refine ya (fun f g i=>?_)<|j h;exact(pb f (.tail _ g) i)
theorem Mz:∀{n:Nat}{l:List xd},(Rd ps hv P (Mf n l)).Pairwise fun p q=>p.1≠q.1:=by
 intro n b;induction b generalizing n with
 |nil=>exact List.Pairwise.nil
 |cons B r c=>
  refine(?_:(match Jb ps hv P B with|some a=>(n,a)::Rd ps hv P (Mf (n+1) r)|none=>Rd ps hv P (Mf (n+1) r)).Pairwise _);induction Jb ps hv P B with
  |none=>exact c
  |some a=>
   refine List.Pairwise.cons (fun q e=>?_) c
   (change let R:Prop:=_;R;intro R);refine ya (fun h f g=>?_)<|Cq e
   (change let R:Prop:=_;R;intro R);refine ya (fun j i g=>?_)<|Sn f
   lia
noncomputable def Mj(G:Og)(k:Nat)(I:zc)(U:Mem)(e:E)(b:Bool):Prop:=∀Q:Bool->Mem->Prop,(∀U',Sub U U'->Q b U')->ck G k e I U Q
theorem Mj.call{f:Fn}{b:Bool}(h:Ff G (k+1) I U es vs)(a:rm G k f vs U (.bool b)):Mj G (k+1) I U (.call f es) b:=fun Q q=>by exact h _ (a _ fun U' s=>q U' s)
theorem Mj.not{b:Bool}(h:Mj G k I U e b):Mj G k I U (.not e) (!b):=fun Q q=>by have:=h (fun b U=>Q (!b) U) q;unfold ck at this;exact this
theorem Mj.dv{r:Bool}(h:Mj G k I U e r):Mj G k I U (.and [e]) r:=fun Q q=>by
 (rewrite[ck];refine aa lD ?_)
 have:=h (fun b U=>if b=true then Sf G k true true [] I U (fun v U=>yg U v fun b=>Q b U)else Q b U) fun U' s=>?_
 ·skip;refine cast ?_ this;congr 1<;>(funext v U;rw[if_neg (fun h=>by cases h.1)])
 ·induction r with
  |false=>exact q U' s
  |true=>refine aa (if_pos rfl) ?_;exact⟨rfl,q U' s⟩
theorem Mj.kE{r:Bool}(h:Mj G k I U e r):Mj G k I U (.or [e]) r:=fun Q q=>by
 (rewrite[ck];refine aa MD ?_)
 have:=h (fun b U=>if b=false then Sf G k true false [] I U (fun v U=>yg U v fun b=>Q b U)else Q b U) fun U' s=>?_
 ·skip;refine cast ?_ this;congr 1<;>(funext v U;rw[if_neg (fun h=>by cases h.1)])
 ·induction r with
  |true=>exact q U' s
  |false=>refine aa (if_pos rfl) ?_;exact⟨rfl,q U' s⟩
theorem Mj.ua{r r':Bool}(h:Ng G k I U e r)(hs:r=true->Mj G k I U (.and es) r'):Mj G k I U (.and (e::es)) (r&&r'):=fun Q q=>by
 (rewrite[ck];refine aa lD ?_)
 have:=h (fun b U=>if b=true then Sf G k true true es I U (fun v U=>yg U v fun b=>Q b U)else Q b U) ?_
 ·skip;refine cast ?_ this;congr 1<;>(funext v U;rw[if_neg (fun h=>by cases h.1)])
 ·induction r with
  |false=>exact q U (Sub.refl _)
  |true=>have:=hs rfl Q q;exact this
theorem Mj.Ea{r r':Bool}(h:Ng G k I U e r)(hs:r=false->Mj G k I U (.or es) r'):Mj G k I U (.or (e::es)) (r||r'):=fun Q q=>by
 (rewrite[ck];refine aa MD ?_)
 have:=h (fun b U=>if b=false then Sf G k true false es I U (fun v U=>yg U v fun b=>Q b U)else Q b U) ?_
 ·skip;refine cast ?_ this;congr 1<;>(funext v U;rw[if_neg (fun h=>by cases h.1)])
 ·induction r with
  |true=>exact q U (Sub.refl _)
  |false=>have:=hs rfl Q q;exact this
theorem Gv{c:E}{a b:List S}{r:Bool}(h:Mj G k I U c r)(e:r=true->∀U',Sub U U'->Ia G k a I U' (fun I U=>Ia G k ss I U Kn Kr) Kr)(hb:r=false->∀U',Sub U U'->Ia G k b I U' (fun I U=>Ia G k ss I U Kn Kr) Kr):Ia G k (.Pc c a b::ss) I U Kn Kr:=by
 refine h _ fun U' s=>?_;induction r with
 |true=>refine aa (if_pos rfl) ?_;exact e rfl U' s
 |false=>refine aa (if_neg (by exact Ub rfl)) ?_;exact hb rfl U' s
theorem xw{c:List Addr}:∀{n:Nat}{bs:List Addr}{P:List xd},Dc U n bs P->(∀j,bs[j]?=c[n+j]?)->ye (fun(p:Nat×xd) x=>∃b,x=V.ref b∧c[p.1]?=some b∧jd U b p.1 p.2) (Mf n P) (Ab bs):=by
 intro n e;induction e generalizing n with
 |nil=>
  intro a h f;rcases a with _|⟨g,i⟩
  ·exact trivial
  ·exact h.elim
 |cons b bs l=>
  intro a h f;rcases a with _|⟨B,P⟩
  ·exact h.elim
  ·obtain⟨h,r⟩:=h;exact⟨(cc b rfl (by have:=f 0;refine Cb this ?_;rfl) h),l r fun j=>by refine aa (show n+1+j=n+(j+1) by exact Nat.add_right_comm _ _ _) (Cb (f (j+1)) ?_);rfl⟩
noncomputable def NI(U U':Mem):Prop:=∀a m,(∀c b,m≠MO.ib c b)->U a=some m->U' a=some m
theorem NI.of(h:Sub U U'):NI U U':=fun a m b q=>h a m q
theorem NI.step{b:Addr}(h:NI U0 U)(f:xg (fun a=>a=F∨a=b) U U'){g i:Cl}{j l:List (At×V)}(n:U F=some (.ib g j))(hb:U b=some (.ib i l)):NI U0 U':=fun a m c q=>by
 have q:=h a m c q;refine f a m (fun e=>?_) q;rcases e with rfl|rfl
 ·rw[n]at q;exact c _ _ (Bb q).symm
 ·rw[hb]at q;exact c _ _ (Bb q).symm
theorem Pt(H:Sd G){T:Int->Bool}{Ts:List Int}(A:Ce U F J ps hv Z bs P)(hr:RE U bs)(z:Ux ps hv T Ts P)(q:∀U',Ce U' F J ps hv (Xj ps hv T P Z).2.2 bs (Xj ps hv T P Z).2.1->NI U U'->Q (.bool (Xj ps hv T P Z).1) U'):pe G (k+1+1+1+1) .oi [.ref F] U Q:=by
 refine H.call .oi rfl (Vf (o:=.list []) (fun Q q=>Eg .nil q) fun L hL=>?_);have Ld:∀n,n≤1000->n≤Ac:=fun n h=>bc h (by exact Pa rfl);have ha:∀p∈Mf 0 P,P[p.1]?=some p.2:=fun p hp=>by
  refine ya (fun j h1 h2=>?_)<|Sn hp
  refine aa h1 (aa (Nat.zero_add _) ?_);exact h2
 refine rf (.ma (.var rfl) (A.za ((Sub.new hL _):Sub U (Ga U L (some (.list []))))).f rfl) (Vi (A.za ((Sub.new hL _):Sub U (Ga U L (some (.list []))))).bl) (fun Bs I U'=>I 0=some (.ref F)∧I 1=some (.ref L)∧(∀p∈Bs,P[p.1]?=some p.2)∧∃vs Y,Sub U U'∧U' L=some (.list vs)∧ye (fun(p:Nat×Nat) x=>∃b,x=.Ba [.ref b,.int p.2]∧bs[p.1]?=some b) Y vs∧Y++Rd ps hv P Bs=Rd ps hv P (Mf 0 P)∧vs.length+Bs.length≤100)
  (xw (A.za ((Sub.new hL _):Sub U (Ga U L (some (.list []))))).jc fun j=>by exact aa (Nat.zero_add _) rfl) ⟨rfl,rfl,ha,[],[],((Sub.new hL _):Sub U (Ga U L (some (.list [])))),((da ..):Ga U L (some (.list [])) L=some (.list [])),trivial,rfl,by
   have:∀(n:Nat)(l:List xd),(Mf n l).length=l.length:=fun n l=>by
    induction l generalizing n with
    |nil=>rfl
    |cons a l ih=>refine(?_:(Mf (n+1) l).length+1=_);refine aa (ih _) ?_;rfl
   refine aa (this _ _) ?_;simpa using z.pl⟩ (fun t t t h=>by(refine nf (fun t t t f=>?_) h;refine pd (fun t t h t=>?_) f;clear f);exact h _ _ A.bl) ?_ ?_
 ·(intro pa Bs x I U' K D M hK;obtain⟨i,B⟩:=pa;(refine Pb (fun b ba w t=>?_) D;clear D;refine aa ba ?_);(refine nf (fun l0 l1 hm f=>?_) M;clear M;refine nE (fun vs Y g u y he ka=>?_) f;clear f))
  have hB:=hm _ (.head _);have N:B∈P:=jr hB
  (change let R:Prop:=_;R;intro R);refine ya (fun b' m hb=>?_)<|(A.za g).jc.Pn hB
  rw[w]at m;(replace m:=Bb m;induction m);have ra:∀p∈Bs,P[p.1]?=some p.2:=fun p hp=>hm p (.tail _ hp);simp only[List.length_cons]at ka;refine vb (Gb (.call (.cons (.var l0) (.cons (.var rfl) .nil)) (Tu H (A.za g).f hb z.jK (z.al B N) (z.rl B N))) ?_);have sa:Y++(match Jb ps hv P B with|some a=>(i,a)::Rd ps hv P Bs|none=>Rd ps hv P Bs)=Rd ps hv P (Mf 0 P):=he;by_cases W:0≤Qb ps B.la
  ·(change let R:Prop:=_;R;intro R);refine Cd (fun c os ua za Ta=>?_)<|nh W
   have s:Jb ps hv P B=if fg hv P B (Qb ps B.la).toNat=true then some (Qb ps B.la).toNat else none:=by unfold Jb;exact aa (if_pos W) rfl
   refine Gv (r:=fg hv P B (Qb ps B.la).toNat) (by
    have:=Mj.ua (G:=G) (k:=k+1+1+1+1) (e:=.ta .GtE (.var 3) (.int 0)) (es:=[.call .Ck [.var 0,.var 2,.var 3]]) (U:=U') (I:=Ca (Ca I 2 (.ref b)) 3 (.int (Qb ps B.la))) (r:=true) (r':=fg hv P B (Qb ps B.la).toNat) (.as (.ta (.var rfl) .int .ge) (decide_eq_true W)) fun t=>.dv (.call (.cons (.var l0) (.cons (.var rfl) (.cons (.var rfl) .nil))) (by
     refine Cb ((Int.toNat_of_nonneg W):((Qb ps B.la).toNat:Int)=Qb ps B.la) ?_;exact Aw H (A.za g) (hr.za g) z.j z.pl hb N (z.rl B N) ua Ta (z.gv B N)))
    exact this) (fun hg U2 v=>?_) fun hg U2 v=>ja (ja (hK _ _ (lg l0 l1 ra (Xv vs Y (g.trans v) (v _ _ u) y ?_ (by exact Nat.le_of_lt (by assumption))))))
   ·have F2:=(A.za g).za v;refine md (.var l1) (.Ba (.cons (.var rfl) (.cons (.var rfl) .nil))) (v _ _ u) (Ld _ (by exact bc (bc (pn _ _) (by assumption)) (Pa rfl))) (ja (ja ?_));refine hK _ _ (lg l0 l1 ra (Xv _ (Y++[(i,(Qb ps B.la).toNat)]) ((g.trans v).Ga hL _) (da ..) (y.append ⟨(pb b (by exact aa ((Int.toNat_of_nonneg W):((Qb ps B.la).toNat:Int)=Qb ps B.la) rfl) w),trivial⟩) ?_ (by simp;lia)))
    ·refine Cb sa (aa s (aa (if_pos hg) ?_));simp
   ·exact Cb sa (aa s (aa (if_neg (by rw[hg];decide)) rfl))
  ·refine La (.ua (r':=true) (.ta (.var rfl) .int .ge) fun h=>absurd (Ub h) W) (by refine aa (decide_eq_false W) ?_;rfl) (ja (hK _ _ (lg l0 l1 ra (Xv vs Y g u y ?_ (by exact Nat.le_of_lt (by assumption))))));exact Cb sa (aa (show Jb ps hv P B=none by unfold Jb;rw[if_neg W]) rfl)
 ·(intro I U' O;(refine nf (fun l0 l1 t f=>?_) O;clear O;refine nE (fun vs Y g u y he ka=>?_) f;clear f))
  have he:Y=Rd ps hv P (Mf 0 P):=by refine Cb he ?_;exact(List.append_nil _).symm
  subst he;have la:vs.isEmpty=(Rd ps hv P (Mf 0 P)).isEmpty:=by have:=y.Pd;induction vs<;>induction Ua:Rd ps hv P (Mf 0 P)<;>rw[Ua]at this<;>first|rfl|exact nomatch this
  refine Gv (.Ea (.ta (.var l1) (.xb .nil) (.nil u)) fun t=>.kE (.not (.call (.cons (.var l0) .nil) (Kq H (A.za g) z.Kd z.ts)))) (fun h U2 v=>Xa .ff ?_) fun h U2 v=>ja ?_
  ·have hc:(Rd ps hv P (Mf 0 P)).isEmpty=true∨Wf T P=true:=by
    rw[la,Bool.not_not,Bool.or_eq_true]at h;exact h
   rw[(by unfold Xj;exact aa (if_pos hc) rfl:Xj ps hv T P Z=(false,P,Z))]at q;exact q _ ((A.za g).za v) (.of (g.trans v))
  have hc:¬((Rd ps hv P (Mf 0 P)).isEmpty=true∨Wf T P=true):=by
   rw[la,Bool.not_not,Bool.or_eq_false_iff]at h;rintro(h'|h')
   ·rw[h.1]at h';exact(Fc h').elim
   ·rw[h.2]at h';exact(Fc h').elim
  rw[(by unfold Xj;exact aa (if_neg hc) rfl:Xj ps hv T P Z=(true,Yi ps (Rd ps hv P (Mf 0 P)) P Z))]at q
  refine rf (.var l1) (Vi (v _ _ u)) (fun Vc I U'=>I 0=some (.ref F)∧U' L=some (.list vs)∧NI U U'∧∃X Z',Ce U' F J ps hv Z' bs X∧Yi ps Vc X Z'=Yi ps (Rd ps hv P (Mf 0 P)) P Z∧(∀p∈Vc,X[p.1]?=P[p.1]?∧∃B,P[p.1]?=some B∧Jb ps hv P B=some p.2)∧Vc.Pairwise fun p q=>p.1≠q.1) y
   (lg l0 (v _ _ u) (.of (g.trans v)) (Af P Z ((A.za g).za v) rfl (fun p hp=>⟨rfl,?_⟩) Mz)) (fun t t t h=>h.2.1) ?_ ?_
  ·(change let R:Prop:=_;R;intro R);refine ya (fun B h1 h2=>?_)<|Cq hp
   exact(pb B (ha _ h1) h2)
  ·(intro pa Vc x I U3 K D M hK;obtain⟨i,a⟩:=pa;(refine ya (fun b ba w=>?_) D;clear D;rw[ba]at *;clear ba);(refine nf (fun l0 ea ni f=>?_) M;clear M;refine Ig (fun X Z' F3 wa hp Ea=>?_) f;clear f))
   (change let R:Prop:=_;R;intro R);(refine Qa (fun fa f=>?_)<|hp _ (.head _);refine ya (fun B hB s=>?_) f;clear f)
   unfold Jb at s;split at s
   ·rename_i W;split at s
    ·(replace s:=Bb s;cases s)
     (change let R:Prop:=_;R;intro R);refine Cd (fun c os ua za t=>?_)<|nh W
     refine Oe rfl (tj (Jc (.cons (.var l0) (.cons (.var rfl) (.cons (.var rfl) .nil))) (Au H F3 z.jK ((fa.trans hB):X[i]?=some B) w ua za (z.rl B ((jr hB):B∈P)) fun U4 F4 Ha=>ja (hK _ _ (lg l0 ?_ ?_ (Af _ _ F4 ?_ (fun p Ra=>?_) ((List.pairwise_cons.mp Ea).2)))))))
     ·refine Ha L _ (fun e=>?_) ea
      (change let R:Prop:=_;R;intro R);refine ya (fun b' m xa=>?_)<|F3.jc.Pn ((fa.trans hB):X[i]?=some B)
      rw[w]at m;(replace m:=Bb m;induction m)
      (change let R:Prop:=_;R;intro R);refine qh (fun sv e' as g1 t=>?_) xa.ex
      rcases e with rfl|rfl
      ·have:=F3.f;rw[ea]at this;(replace this:=Bb this;exact nomatch this)
      ·rw[ea]at g1;(replace g1:=Bb g1;exact nomatch g1)
     ·(change let R:Prop:=_;R;intro R);refine ya (fun b' m xa=>?_)<|F3.jc.Pn ((fa.trans hB):X[i]?=some B)
      rw[w]at m;(replace m:=Bb m;induction m)
      (change let R:Prop:=_;R;intro R);refine qh (fun sv e' as g1 t=>?_) xa.ex
      exact ni.step Ha F3.f g1
     ·refine Cb wa ?_;refine(?_:_=(match X[i]? with|some B=>_|none=>_));refine aa ((fa.trans hB):X[i]?=some B) ?_;rfl
     ·(change let R:Prop:=_;R;intro R);refine Qa (fun g1 g2=>?_)<|hp p (.tail _ Ra)
      exact⟨by refine aa (List.getElem?_set_ne (((List.pairwise_cons.mp Ea).1 p Ra):i≠p.1)) ?_;exact g1,g2⟩
    ·exact nomatch s
   ·exact nomatch s
  ·(intro I U3 O;(refine nf (fun l0 ea ni f=>?_) O;clear O;refine Cd (fun X Z' F3 wa t=>?_) f;clear f))
   rw[← wa]at q;exact Xa .tt (q _ F3 ni)
noncomputable def Nf(U:Mem)(W:Addr):Prop:=∃(a:List Int)(p:Nat),U W=some (.list [.fl (a.map V.int),.int p])∧a.length≤1000
structure DS(W:Addr)(U U':Mem):Prop where
 keep:xg (fun a=>a=W) U U'
 Wg:Nf U' W
theorem DS.trans{U'':Mem}(h:DS W U U')(h':DS W U' U''):DS W U U'':=⟨h.keep.trans h'.keep,h'.Wg⟩
theorem DS.refl(h:Nf U W):DS W U U:=⟨fun a a a q=>q,h⟩
theorem DS.at(h:DS W U U'){m:MO}(c:U a=some m)(b:a≠W):U' a=some m:=h.keep a m b c
theorem DS.rv(h:DS W U0 U)(c:U0 a=none)(b:a≠W)(x:Option MO):DS W U0 (Ga U a x):=
 ⟨h.keep.Ga (.inr c) x,pd (fun f p e l=>⟨f,p,ia e b.symm,l⟩) h.Wg⟩
theorem Nf.ne(h:Nf U W)(c:U a=none):a≠W:=fun e=>by
 (refine pd (fun f p b g=>?_) h;clear h)
 subst e;rw[c]at b;injection b
theorem DS.none(h:DS W U0 U)(c:Nf U0 W)(b:U a=none):U0 a=none:=h.keep.x0 b (h.Wg.ne b)
theorem jg(H:Sd G)(i:Nf U W){size:Nat}(hs:0<size)(q:∀(n:Nat) U',n<size->DS W U U'->Q (.int n) U'):pe G k .Xc [.ref W,.int size] U Q:=by
 (change let R:Prop:=_;R;intro R);(refine pd (fun b p j e=>?_) i;clear i)
 refine H.call .Xc rfl (qe (.var rfl) (zg j) ?_);refine vF (.Fd (.var rfl) .int .add) (.var rfl) .int j ⟨by exact Ub rfl,by refine(?_:(1:Int)<2);decide⟩ (wc rfl) ?_
 have c:∀x:Int,qb G k (Ca (Ca (Me 0 [.ref W,.int size]) 2 (.fl (b.map V.int))) 3 (.int p)) (Ga U W (some (.list ([V.fl (b.map V.int),V.int p].set (1:Int).toNat (V.int ((p:Int)+1)))))) (.ite (.ta .Lt (.var 3) (.Pd (.var 2))) (.Ma (.var 2) (.var 3)) (.Fd .Add (.Fd .Mult (.var 3) (.int 3)) (.int 1))) (.int x)->
  Ia G k [.ret (.Fd .Mod (.ite (.ta .Lt (.var 3) (.Pd (.var 2))) (.Ma (.var 2) (.var 3)) (.Fd .Add (.Fd .Mult (.var 3) (.int 3)) (.int 1))) (.var 1))] (Ca (Ca (Me 0 [.ref W,.int size]) 2 (.fl (b.map V.int))) 3 (.int p)) (Ga U W (some (.list ([V.fl (b.map V.int),V.int p].set (1:Int).toNat (V.int ((p:Int)+1)))))) (fun f U=>Q .none U) Q:=fun x l=>by
  refine Xa (.Fd l (.var rfl) (.mod (by exact Int.ofNat_lt.mpr (by assumption)))) ?_;have o:x%(size:Int)<size:=Int.emod_lt_of_pos _ (by exact Int.ofNat_lt.mpr (by assumption));refine aa (show x%(size:Int)=((x%(size:Int)).toNat:Int) from(Int.toNat_of_nonneg ((Int.emod_nonneg _ (by lia)):0≤x%(size:Int))).symm) ?_;refine q _ _ (by lia) ⟨fun a m g h=>ia h g,b,p+1,?_,e⟩;refine aa (da _ _ _) ?_;rfl
 by_cases h:p<b.length
 ·refine c (b[p]) (.ite (r:=true) (.as (.ta (.var rfl) (.Pd (.var rfl) rfl (by refine aa (sd _) ?_;exact bc e (by exact Pa rfl):(b.map V.int).length≤Ac)) .lt) (by refine aa (sd _) ?_;exact decide_eq_true (by exact Int.ofNat_lt.mpr (by assumption)))) (fun f=>.Ma (.var rfl) (.var rfl) rfl (kc (by refine aa List.getElem?_map (aa (List.getElem?_eq_getElem h) ?_);rfl)) (by refine aa (sd _) ?_;exact bc e (by exact Pa rfl):(b.map V.int).length≤Ac)) fun h=>nomatch h)
 ·refine c ((p:Int)*3+1) (.ite (r:=false) (.as (.ta (.var rfl) (.Pd (.var rfl) rfl (by refine aa (sd _) ?_;exact bc e (by exact Pa rfl):(b.map V.int).length≤Ac)) .lt) (by refine aa (sd _) ?_;exact decide_eq_false (by lia))) (fun h=>nomatch h) fun f=>.Fd (.Fd (.var rfl) .int (fun f q=>.inl (Nm ⟨.inr ⟨by exact Ub rfl,by exact Ub rfl⟩,q⟩))) .int .add)
theorem qb.bk(h:qb G k I U e (.int n))(a:0<m):qb G k I U (.Fd .Mod e (.int m)) (.int (n%m:Nat)):=.as (.Fd h .int (.mod (by exact Int.ofNat_lt.mpr (by assumption)))) (by exact aa (Int.natCast_emod _ _) rfl)
theorem qb.LC(h:qb G k I U e (.int n))(a:0<m∧m<1000):qb G k I U (.Fd .FloorDiv e (.int m)) (.int (n / m:Nat)):=.as (.Fd h .int (.div ⟨by lia,by lia⟩)) (by exact aa (Int.natCast_ediv _ _) rfl)
theorem XI(H:Sd G)(n:Nat):∃c:Code,c.ok∧qg G k .Vh [.int n] U (Zd c.la):=by
 have g:n/10%3<3:=Nat.mod_lt _ (by decide)
 have go:∀c:Code,c.ok->(∀Q:V->Mem->Prop,Q (Zd c.la) U->Ia G k ((we .Vh).drop 4) (Ca (Ca (Ca (Ca (Me 0 [.int n]) 1 (.int (n%10:Nat))) 2 (.int (n/10%3:Nat))) 3 (.Ba [.wd .r,.int (n/10%3:Nat)])) 4 (.int (n/30:Nat))) U (fun j U=>Q .none U) Q)->∃c:Code,c.ok∧qg G k .Vh [.int n] U (Zd c.la):=fun c x h=>
  ⟨c,x,fun Q q=>H.call .Vh rfl (Gb (.bk (.var rfl) (by decide)) (Gb (.bk (.LC (.var rfl) (by decide)) (by decide)) (Gb (.Ba (.cons .str (.cons (.var rfl) .nil))) (Gb (.LC (.var rfl) (by decide)) (h Q q)))))⟩
 have o:n%10<10:=Nat.mod_lt _ (by decide);generalize n%10=p at go o;generalize n/10%3=a at go g;generalize n/30=f at go;have b:∀i:Ar,(i=.add∨i=.sub∨i=.Oy)->uk [V.wd .add,V.wd .sub,V.wd .Oy] (p:Int)=some (.wd i.w)->decide ((p:Int)<3)=true->∃c:Code,c.ok∧qg G k .Vh [.int n] U (Zd c.la):=fun i s t u=>by
  by_cases y:f/3%2=0
  ·refine go (.ar i a (.r (f%3))) ⟨s,g,.inl ⟨_,rfl,Nat.mod_lt _ (by decide)⟩⟩ fun Q q=>gb (.ta (.var rfl) .int .lt) u (Gb (v:=zb.v (.r (f%3))) (.ite (r:=true) (.as (.ta (.bk (.LC (.var rfl) (by decide)) (by decide)) .int .Ag) (by refine aa y ?_;rfl)) (fun j=>.Ba (.cons .str (.cons (.bk (.var rfl) (by decide)) .nil))) fun h=>nomatch h) (Xa (.xb (.cons (.Ba (.cons (.Ma (.Ba (.cons .str (.cons .str (.cons .str .nil)))) (.var rfl) rfl t (wc rfl)) (.cons (.var rfl) (.cons (.xb (.cons (.var rfl) (.cons (.var rfl) .nil))) (.cons .int (.cons .ff .nil)))))) .nil)) q))
  ·refine go (.ar i a (.k (f/6%100))) ⟨s,g,.inr ⟨_,rfl,Nat.mod_lt _ (by exact Ub rfl)⟩⟩ fun Q q=>gb (.ta (.var rfl) .int .lt) u (Gb (v:=zb.v (.k (f/6%100))) (.ite (r:=false) (.as (.ta (.bk (m:=2) (.LC (m:=3) (.var rfl) (by exact Ub rfl)) (by decide)) .int .Ag) (decide_eq_false (by exact mt Int.ofNat.inj (by assumption)))) (fun h=>nomatch h) fun j=>.Ba (.cons .str (.cons (.bk (.LC (.var rfl) (by decide)) (by decide)) .nil))) (Xa (.xb (.cons (.Ba (.cons (.Ma (.Ba (.cons .str (.cons .str (.cons .str .nil)))) (.var rfl) rfl t (wc rfl)) (.cons (.var rfl) (.cons (.xb (.cons (.var rfl) (.cons (.var rfl) .nil))) (.cons .int (.cons .ff .nil)))))) .nil)) q))
 revert go b;refine oI o ?_ ?_ ?_ ?_ ?_ ?_ ?_ ?_ ?_ ?_<;>intro go b
 ·exact b .add (.inl rfl) rfl rfl
 ·exact b .sub (.inr (.inl rfl)) rfl rfl
 ·exact b .Oy (.inr (.inr rfl)) rfl rfl
 ·exact go (.Yh a) g fun Q q=>La (.ta (.var rfl) .int .lt) rfl (gb (.ta (.var rfl) .int .Ag) rfl (Xa (.xb (.cons (.Ba (.cons .str (.cons .int (.cons (.xb (.cons (.var rfl) .nil)) (.cons .str (.cons .ff .nil)))))) .nil)) q))
 ·exact go (.iG a (decide (((f%2:Nat):Int)=0))) g fun Q q=>La (.ta (.var rfl) .int .lt) rfl (La (.ta (.var rfl) .int .Ag) rfl (gb (.ta (.var rfl) .int .Ag) rfl (Xa (.xb (.cons (.Ba (.cons .str (.cons .int (.cons (.xb (.cons (.Ba (.cons .str (.cons .int .nil))) (.cons (.var rfl) .nil))) (.cons .int (.cons (.ta (.bk (.var rfl) (by decide)) .int .Ag) .nil)))))) .nil)) q)))
 ·exact go (.eF a (decide (((f%2:Nat):Int)=0))) g fun Q q=>La (.ta (.var rfl) .int .lt) rfl (La (.ta (.var rfl) .int .Ag) rfl (La (.ta (.var rfl) .int .Ag) rfl (gb (.ta (.var rfl) .int .Ag) rfl (Xa (.xb (.cons (.Ba (.cons .str (.cons (.var rfl) (.cons (.xb (.cons (.Ba (.cons .str (.cons .int .nil))) .nil)) (.cons (.Ba (.cons .int (.cons .ff .nil))) (.cons (.ta (.bk (.var rfl) (by decide)) .int .Ag) .nil)))))) .nil)) q))))
 ·exact go (.BF a) g fun Q q=>La (.ta (.var rfl) .int .lt) rfl (La (.ta (.var rfl) .int .Ag) rfl (La (.ta (.var rfl) .int .Ag) rfl (La (.ta (.var rfl) .int .Ag) rfl (gb (.ta (.var rfl) .int .Ag) rfl (Xa (.xb (.cons (.Ba (.cons .str (.cons .int (.cons (.xb (.cons (.Ba (.cons .str (.cons .int .nil))) (.cons (.var rfl) .nil))) (.cons .int (.cons .ff .nil)))))) .nil)) q)))))
 ·exact go (.VC a) g fun Q q=>La (.ta (.var rfl) .int .lt) rfl (La (.ta (.var rfl) .int .Ag) rfl (La (.ta (.var rfl) .int .Ag) rfl (La (.ta (.var rfl) .int .Ag) rfl (La (.ta (.var rfl) .int .Ag) rfl (gb (.ta (.var rfl) .int .Ag) rfl (Xa (.xb (.cons (.Ba (.cons .str (.cons (.var rfl) (.cons (.xb (.cons (.Ba (.cons .str (.cons .int .nil))) .nil)) (.cons (.Ba (.cons .int (.cons .ff .nil))) (.cons .ff .nil)))))) .nil)) q))))))
 ·exact go (.NC a) g fun Q q=>La (.ta (.var rfl) .int .lt) rfl (La (.ta (.var rfl) .int .Ag) rfl (La (.ta (.var rfl) .int .Ag) rfl (La (.ta (.var rfl) .int .Ag) rfl (La (.ta (.var rfl) .int .Ag) rfl (La (.ta (.var rfl) .int .Ag) rfl (gb (.ta (.var rfl) .int .Ag) rfl (Xa (.xb (.cons (.Ba (.cons .str (.cons .int (.cons (.xb (.cons (.Ba (.cons .str (.cons .int .nil))) (.cons (.Ba (.cons .str (.cons .int .nil))) .nil))) (.cons .int (.cons .ff .nil)))))) (.cons (.Ba (.cons .str (.cons .int (.cons (.xb (.cons (.Ba (.cons .str (.cons .int .nil))) (.cons (.var rfl) .nil))) (.cons .int (.cons .ff .nil)))))) .nil))) q)))))))
 ·have skip:∀(ss:List S)(Q:V->Mem->Prop),Ia G k ss (Ca (Ca (Ca (Ca (Me 0 [.int n]) 1 (.int (9:Nat))) 2 (.int (a:Nat))) 3 (.Ba [.wd .r,.int (a:Nat)])) 4 (.int (f:Nat))) U (fun j U=>Q .none U) Q->ss=(we .Vh).drop 11->Ia G k ((we .Vh).drop 4) (Ca (Ca (Ca (Ca (Me 0 [.int n]) 1 (.int (9:Nat))) 2 (.int (a:Nat))) 3 (.Ba [.wd .r,.int (a:Nat)])) 4 (.int (f:Nat))) U (fun j U=>Q .none U) Q:=fun ss Q q e=>by
   subst e;exact La (.ta (.var rfl) .int .lt) rfl (La (.ta (.var rfl) .int .Ag) rfl (La (.ta (.var rfl) .int .Ag) rfl (La (.ta (.var rfl) .int .Ag) rfl (La (.ta (.var rfl) .int .Ag) rfl (La (.ta (.var rfl) .int .Ag) rfl (La (.ta (.var rfl) .int .Ag) rfl q))))))
  by_cases z:f%8=0
  ·exact go .vk trivial fun Q q=>skip _ Q (gb (.ta (.bk (.var rfl) (by decide)) .int .Ag) (by refine aa z ?_;rfl) (Xa (.xb (.cons (.Ba (.cons .str (.cons .int (.cons (.xb (.cons (.Ba (.cons .str (.cons .int .nil))) .nil)) (.cons .str (.cons .ff .nil)))))) .nil)) q)) rfl
  by_cases w:f%8=1
  ·exact go .ml trivial fun Q q=>skip _ Q (La (.ta (.bk (.var rfl) (by decide)) .int .Ag) (by refine aa w ?_;rfl) (gb (.ta (.bk (.var rfl) (by decide)) .int .Ag) (by refine aa w ?_;rfl) (Xa (.xb (.cons (.Ba (.cons .str (.cons .int (.cons (.xb (.cons (.Ba (.cons .str (.cons .int .nil))) (.cons (.Ba (.cons .str (.cons .int .nil))) .nil))) (.cons .int (.cons .ff .nil)))))) .nil)) q))) rfl
  by_cases l:f%8=2
  ·exact go .ym trivial fun Q q=>skip _ Q (La (.ta (.bk (.var rfl) (by decide)) .int .Ag) (by refine aa l ?_;rfl) (La (.ta (.bk (.var rfl) (by decide)) .int .Ag) (by refine aa l ?_;rfl) (gb (.ta (.bk (.var rfl) (by decide)) .int .Ag) (by refine aa l ?_;rfl) (Xa (.xb (.cons (.Ba (.cons .str (.cons .int (.cons (.xb (.cons (.Ba (.cons .str (.cons .int .nil))) (.cons (.Ba (.cons .str (.cons .int .nil))) .nil))) (.cons .int (.cons .ff .nil)))))) (.cons (.Ba (.cons .str (.cons .int (.cons (.xb (.cons (.Ba (.cons .str (.cons .int .nil))) .nil)) (.cons .str (.cons .ff .nil)))))) .nil))) q)))) rfl
  ·exact go (.mul a) g fun Q q=>skip _ Q (La (.ta (.bk (m:=8) (.var rfl) (by decide)) .int .Ag) (decide_eq_false (by exact mt Int.ofNat.inj (by assumption))) (La (.ta (.bk (m:=8) (.var rfl) (by decide)) .int .Ag) (decide_eq_false (by exact mt Int.ofNat.inj (by assumption))) (La (.ta (.bk (m:=8) (.var rfl) (by decide)) .int .Ag) (decide_eq_false (by exact mt Int.ofNat.inj (by assumption))) (Xa (.xb (.cons (.Ba (.cons .str (.cons (.var rfl) (.cons (.xb (.cons (.var rfl) (.cons (.Ba (.cons .str (.cons .int .nil))) .nil))) (.cons .int (.cons .ff .nil)))))) .nil)) q)))) rfl
theorem Nt(a b:List Code):va (a++b)=va a++va b:=by unfold va;exact aa List.flatMap_append rfl
theorem Qc:∀l:List Code,(va l).length≤2*l.length:=by
 intro a;induction a with
 |nil=>exact tf _
 |cons c l b=>
  have e:c.la.length≤2:=by induction c<;>first|exact tf _|exact Nat.le_succ _
  refine(?_:(c.la++va l).length≤2*(l.length+1));refine aa List.length_append ?_;lia
theorem yp{K:zc->Mem->Prop}(a:Nat->zc->Mem->Prop)(c:a n I U)(hs:∀m j I U(K:zc->Mem->Prop),m+1+j=n->a (m+1) I U->(∀I' U',a m I' U'->K I' U')->Oh t (.int (j:Nat)) U I fun I=>Ia G k body I U K Kr)(b:∀I U,a 0 I U->K I U):aj (fun f=>True) (fun x I U K=>Oh t x U I fun I=>Ia G k body I U K Kr) K (dj 0 n) I U:=by
 have key:∀m j I U,m+j=n->a m I U->aj (fun f=>True) (fun x I U K=>Oh t x U I fun I=>Ia G k body I U K Kr) K (dj j m) I U:=by
  intro m;induction m with
  |zero=>intro j I U _ h;exact⟨trivial,b _ _ h⟩
  |succ m g=>intro j I U e h;exact⟨trivial,hs m j I U _ e h fun I' U' h'=>g (j+1) I' U' (by lia) h'⟩
 exact key n 0 I U (by rfl) c
theorem wo(H:Sd G)(a:Nf U W){size:Nat}(hs:0<size∧size≤1000)(b:Ff G (k+1) I U es [.ref W,.int size])(h:∀(n:Nat) U',n<size->DS W U U'->aj (fun f=>True) (fun x I U K=>Oh t x U I fun I=>Ia G (k+1) body I U K Kr) (fun I U=>Ia G (k+1) ss I U Kn Kr) (dj 0 n) I U'):Ia G (k+1) (.Ad t (.range (.call .Xc es)) body::ss) I U Kn Kr:=by refine Jc b (jg H a hs.1 fun n U' c e=>?_);refine⟨⟨vo n,by exact_mod_cast (show(n:Nat)≤1000000 by lia)⟩,?_⟩;exact h n U' c e
theorem Sv(H:Sd G)(t:Nf U W){most:Nat}(u:0<most∧most≤1000)(q:∀(l:List Code) U',(∀c∈l,c.ok)->l.length<most->DS W U U'->Q (Zd (va l)) U'):pe G (k+1) .nj [.ref W,.int most] U Q:=by
 refine H.call .nj rfl (Gb (.xb .nil) (wo H t u (.cons (.var rfl) (.cons (.var rfl) .nil)) fun n U1 B v=>?_));refine yp (fun m I U'=>DS W U U'∧I 0=some (.ref W)∧∃l:List Code,I 2=some (Zd (va l))∧(∀c∈l,c.ok)∧l.length+m=n) (yc v rfl (cc [] rfl (fun D h=>nomatch h) (Nat.zero_add _))) ?_ ?_
 ·(intro m j I U2 K F f w;(refine Nb (fun o l0 a=>?_) f;clear f;refine Pb (fun l l2 b z=>?_) a;clear a))
  refine vb (Ob ?_);refine aa cC ?_;refine qb.var (show Ca I 3 (.int (j:Nat)) 2=some _ from l2) _ ?_;refine aa LJ ?_;refine Jc (.cons (.var l0) (.cons .int .nil)) (jg H o.Wg (size:=2400) (by exact Pa rfl) fun c U3 e A=>?_)
  (change let R:Prop:=_;R;intro R);refine ya (fun p s g=>?_)<|XI (G:=G) (k:=k) (U:=U3) H c
  refine g _ ?_;have hb:=Qc l;refine vp.rr (x:=(va l).map Sa.v) (y:=p.la.map Sa.v) rfl rfl (by refine aa (sd _) ?_;exact bc (show _≤2000 by lia) (by exact Pa rfl)) (by refine aa (sd _) ?_;exact bc (show _≤2 by induction p<;>first|exact tf _|exact Nat.le_succ _) (by exact Pa rfl)) _ ?_;refine vb (ja (w _ _ (yc (o.trans A) l0 (cc (l++[p]) ?_ (fun c e=>?_) (by simp;lia)))))
  ·skip;refine aa (Nt _ _) (Cb List.map_append ?_);refine(?_:_=some (Zd (va l++(p.la++[]))));refine aa (List.append_nil _) ?_;rfl
  ·refine Or.elim (List.mem_append.mp e) (fun e=>?_) (fun e=>?_)
   ·exact b c e
   ·refine aa (Jd e) ?_;exact s
 ·(intro I U2 i;(refine Nb (fun o l0 a=>?_) i;clear i;refine Pb (fun l l2 b z=>?_) a;clear a))
  exact Xa (.var l2) (q l U2 b (by lia) o)
theorem Sz(H:Sd G)(e:Nf U W)(q:∀(o:zb) U',dg o->DS W U U'->Q o.v U'):pe G (k+1) .si [.ref W] U Q:=by
 refine H.call .si rfl (Ob (Jc (.cons (.var rfl) (.cons .int .nil)) (jg H e (size:=40) (by exact Ub rfl) fun c U1 f a=>vb ?_)));by_cases h:c=39
 ·refine aa h ?_;exact gb (.ta (.var rfl) .int .Ag) rfl (Xa (.Ba (.cons .str (.cons .int .nil))) (q (.r 5) U1 (.inl (pb 5 rfl (by exact Ub rfl))) a))
 refine La (.ta (.var rfl) .int .Ag) (decide_eq_false (by exact mt Int.ofNat.inj (by assumption))) ?_;have b:c%7<7:=Nat.mod_lt _ (by exact Ub rfl)
 have go:∀o:zb,dg o->uk [zb.v (.r 0),zb.v (.r 1),zb.v (.r 2),zb.v (.r 3),zb.v (.r 8),zb.v (.r 11),zb.v (.k c)] ((c%7:Nat):Int)=some o.v->Ia G (k+1) ((we .si).drop 2) (Ca (Me 0 [.ref W]) 1 (.int (c:Nat))) U1 (fun j U=>Q .none U) Q:=fun o g i=>
  Xa (.Ma (.Ba (.cons (.Ba (.cons .str (.cons .int .nil))) (.cons (.Ba (.cons .str (.cons .int .nil))) (.cons (.Ba (.cons .str (.cons .int .nil))) (.cons (.Ba (.cons .str (.cons .int .nil))) (.cons (.Ba (.cons .str (.cons .int .nil))) (.cons (.Ba (.cons .str (.cons .int .nil))) (.cons (.Ba (.cons .str (.cons (.var rfl) .nil))) .nil)))))))) (.bk (m:=7) (.var rfl) (by exact Ub rfl)) rfl i (wc rfl)) (q o U1 g a)
 generalize c%7=m at go b;revert go;refine rB b ?_ ?_ ?_ ?_ ?_ ?_ ?_<;>intro go
 ·exact go (.r 0) (.inl (pb _ rfl (by exact Ub rfl))) rfl
 ·exact go (.r 1) (.inl (pb _ rfl (by exact Ub rfl))) rfl
 ·exact go (.r 2) (.inl (pb _ rfl (by exact Ub rfl))) rfl
 ·exact go (.r 3) (.inl (pb _ rfl (by exact Ub rfl))) rfl
 ·exact go (.r 8) (.inl (pb _ rfl (by exact Ub rfl))) rfl
 ·exact go (.r 11) (.inl (pb _ rfl (by exact Ub rfl))) rfl
 ·exact go (.k c) (.inr (pb _ rfl f)) rfl
theorem EC{c a b:E}(h:ck G k c I U fun r U=>if r=true then wb G k false a I U Q else wb G k false b I U Q):wb G k false (.ite c a b) I U Q:=by exact⟨rfl,h⟩
theorem tF{a b:E}{Q:Bool->Mem->Prop}(e:Ng G k I U a false)(hb:ck G k b I U Q):ck G k (.or [a,b]) I U Q:=by
 (rewrite[ck];refine aa MD ?_)
 have:=e (fun c U=>if c=false then Sf G k true false [b] I U (fun v U=>yg U v fun b=>Q b U)else Q c U) ?_
 ·unfold ck at this;refine cast ?_ this;congr 1<;>(funext v U;rw[if_neg (fun h=>by cases h.1)])
 ·refine aa (if_pos rfl) ?_;unfold ck at hb;refine cast ?_ hb;congr 1;funext v U;congr 1;funext b;induction b with
  |true=>rfl
  |false=>exact propext ⟨fun h=>⟨rfl,h⟩,fun h=>h.2⟩
theorem ye.iK{e g:Type}(f:e->g)(m:List e):∀l:List e,(∀a∈l,a∈m)->ye (fun a x=>x=f a∧a∈m) l (l.map f):=by
 intro c;induction c with
 |nil=>intro h;exact trivial
 |cons a l i=>intro h;exact⟨⟨rfl,h a (.head _)⟩,i fun b hb=>h b (.tail _ hb)⟩
theorem ye.Vx{b c:Type}(f:b->c)(l:List b):ye (fun a x=>x=f a∧a∈l) l (l.map f):=ye.iK f l l fun e h=>h
theorem cI(g:Nat->zb)(p:Nat)(a:p<4):Bd [((3:Int),(g 3).v),(0,(g 0).v),(1,(g 1).v),(2,(g 2).v)] p=some (g p).v:=by exact vy a rfl rfl rfl rfl
noncomputable def Sx:S->List S
 | .Ad _ _ b=>b
 |_=>[]
noncomputable def yB:List S:=(Sx ((we .Cf).getD 5 .Nc)).drop 1
theorem Lr(H:Sd G)(hW:Nf U W)(cn:ps.length≤4∧∀p∈ps,p<4)(q:∀(c:dd) U',c.ok hv->DS W U U'->Q (c.Xf ps hv).v U'):pe G (k+1+1) .Cf [.ref W,Ee ps,.bool hv] U Q:=by
 refine H.call .Cf rfl (Ob (Jc (.cons (.var rfl) (.cons .int .nil)) (Sv H hW (most:=2) (by exact Ub rfl) fun cs U1 fa Ea d1=>vb ?_)));refine Vf (o:=.dict [(3,zb.v (.r 8))]) (fun Q q=>yq (.cons .int (.cons (.Ba (.cons .str (.cons .int .nil))) .nil)) rfl q) fun D hD=>?_;have L:D≠W:=d1.Wg.ne hD;have sa:U D=none:=d1.none hW hD
 refine rf (R:=fun(p:Nat×List (Int×V)) x=>x=V.int p.1) (as:=[(0,[]),(1,[]),(2,[])]) (.Ba (.cons .int (.cons .int (.cons .int .nil)))) bE
  (fun as I U'=>I 0=some (.ref W)∧I 1=some (Ee ps)∧I 2=some (.bool hv)∧I 3=some (Zd (va cs))∧I 4=some (.ref D)∧DS W U U'∧∃g:Nat->zb,(∀n,n<3 - as.length->dg (g n))∧as.map (·.1)=([0,1,2]:List Nat).drop (3 - as.length)∧as.length≤3∧U' D=some (.dict ((3,zb.v (.r 8))::((List.range (3 - as.length)).map fun(n:Nat)=>((n:Int),(g n).v)))))
  (lg rfl rfl rfl trivial) (BI rfl rfl rfl rfl rfl ((d1.rv (d1.none hW hD) L _):DS W U (Ga U1 D (some (.dict [(3,zb.v (.r 8))])))) (Kj (fun X=>.r 0) (fun n h=>absurd h (Nat.not_lt_zero _)) rfl (tf _) (da ..))) (fun X X X X=>trivial) ?_ ?_
 ·(intro Y as x I U' K M ha hK;obtain⟨n,u⟩:=Y;subst M;(refine XC (fun l0 l1 l2 l3 l4 f i=>?_) ha;clear ha;refine eh (fun g hg hm ua t=>?_) i;clear i))
  simp only[List.length_cons,List.map_cons]at hg hm ua t;have P:n=3 - (as.length+1)∧as.map (·.1)=([0,1,2]:List Nat).drop (3 - as.length):=by rcases(show as.length=0∨as.length=1∨as.length=2 by lia)with e|e|e<;>(rw[e]at hm ⊢;injection hm with a b;exact⟨a,b⟩)
  (revert P;intro ka;refine Qa (fun P wa=>?_) ka;clear ka)
  have e3:3 - as.length=n+1:=by refine aa P ?_;exact(Nat.sub_add_cancel (Nat.sub_pos_of_lt (by assumption))).symm
  have xa:3 - (as.length+1)=n:=P.symm;rw[xa]at hg t;refine vb (Pp (Jc (.cons (.var l0) .nil) (Sz H f.Wg fun o U2 ho d3=>?_)));refine qb.var (show Ca I 5 (.int (n:Nat)) 4=some (.ref D) from l4) _ ?_;refine qb.var rfl _ ?_;refine aw (d3.at t L) (bc (show _≤4 by refine aa List.length_cons (aa (sd _) (aa List.length_range ?_));lia) (by exact Pa rfl)) (ja (hK _ _ (BI l0 l1 l2 l3 l4 ((f.trans d3).rv sa L _) (Kj (fun m=>if m=n then o else g m) (fun m Ha=>?_) ?_ (by exact Nat.le_of_lt (by assumption)) ?_))))
  ·refine(?_:dg (if m=n then o else g m));by_cases e:m=n
   ·refine aa (if_pos e) ?_;exact ho
   ·refine aa (if_neg e) ?_;exact hg m (by lia)
  ·exact wa
  ·refine aa (da _ _ _) (aa e3 (aa List.range_succ (aa List.map_append ?_)));have e1:(List.range n).map (fun(m:Nat)=>((m:Int),(if m=n then o else g m).v))=(List.range n).map fun(m:Nat)=>((m:Int),(g m).v):=List.map_congr_left fun m hm=>by
    exact aa (if_neg (Nat.ne_of_lt (List.mem_range.mp hm))) rfl
   refine aa e1 ?_;refine(?_:some (MO.dict (Ue _ (n:Int) o.v))=_);unfold Ue;rewrite[if_neg]
   ·simp
   ·intro A;rw[List.any_eq_true]at A
    (refine ya (fun p hp he=>?_) A;clear A)
    rcases pg hp with rfl|hp
    ·have:(3:Int)=n:=(Ub he);exact absurd (show 3=n by exact_mod_cast this) (Nat.ne_of_gt (Nat.lt_of_le_of_lt (Nat.le_of_eq (show n=3 - (as.length+1) by assumption)) (Nat.lt_succ_of_le (Nat.sub_le_sub_left (Nat.succ_le_succ (Nat.zero_le _)) 3))))
    ·(refine ya (fun m hm y=>?_)<|List.mem_map.mp hp;subst y)
     have:=List.mem_range.mp hm;lia
 (intro I U3 y;(refine XC (fun l0 l1 l2 l3 l4 d3 i=>?_) y;clear y;refine eh (fun g0 hg X X t=>?_) i;clear i))
 have hg:∀n,n<3->dg (g0 n):=hg
 obtain⟨g,g3,la,t⟩:∃g:Nat->zb,g 3=.r 8∧(∀n,n<3->dg (g n))∧U3 D=some (.dict [((3:Int),(g 3).v),(0,(g 0).v),(1,(g 1).v),(2,(g 2).v)]):=
  (cc (fun n=>if n=3 then .r 8 else g0 n) rfl (fun n P=>by refine(?_:dg (if n=3 then .r 8 else g0 n));refine aa (if_neg (by exact Nat.ne_of_lt (by assumption))) ?_;exact hg n P) t)
 have Vc:∀(l:Int) U4,(l=9∨(hv=false∧l = -1))->DS W U3 U4->Ia G (k+1+1) ((we .Cf).drop 4) (Ca I 6 (.int l)) U4 (fun X U=>Q .none U) Q:=fun l U4 T d4=>by
  have pa:=d3.trans d4;replace l0:Ca I 6 (.int l) 0=some (.ref W):=l0;replace l1:Ca I 6 (.int l) 1=some (Ee ps):=l1;replace l2:Ca I 6 (.int l) 2=some (.bool hv):=l2;replace l3:Ca I 6 (.int l) 3=some (Zd (va cs)):=l3;replace l4:Ca I 6 (.int l) 4=some (.ref D):=l4;have l6:Ca I 6 (.int l) 6=some (.int l):=rfl;generalize Ca I 6 (.int l)=I at l0 l1 l2 l3 l4 l6 ⊢;have ra:((va cs).map Sa.v).length≤Ac:=by refine aa (sd _) ?_;have:=Qc cs;exact bc (show _≤10 by lia) (by exact Ub rfl)
  refine(?_:Ia G (k+1+1) (_::_) _ _ _ _);refine Vf (o:=.list ((va cs).map Sa.v++[Sa.v (.Qg l (ps.map g))])) (fun Q q=>wA (.var l3) (.xb (.cons (.Ba (.cons .str (.cons (.var l6) (.cons (.as (.comp (R:=fun(p:Nat) x=>x=V.int p∧p∈ps) (as:=ps) (.var l1) xe (fun p=>(g p).v) (ye.Vx _ ps) trivial (bc (show _≤10 by lia) (by exact Ub rfl)) fun p x K hx hK=>by
   (refine Qa (fun Y hp=>?_) hx;clear hx;refine aa Y ?_)
   exact vb (qb.key (.var (show Ca I 5 (.int (p:Nat)) 4=some (.ref D) from l4)) (.var rfl) (d4.at t L) (cI g p (cn.2 p hp)) _ hK)) (show V.fl (ps.map fun p=>(g p).v)=Xl (ps.map g) from by unfold Xl;refine aa List.map_map ?_;first|done|rfl)) (.cons .str (.cons .ff .nil)))))) .nil)) rfl rfl ra (wc rfl) q) fun R hR=>?_
  have s:R≠W:=d4.Wg.ne hR;have N:U R=none:=pa.none hW hR;have d5:DS W U (Ga U4 R (some (.list ((va cs).map Sa.v++[Sa.v (.Qg l (ps.map g))])))):=pa.rv N s _;refine wo H d5.Wg (size:=4) (by exact Ub rfl) (.cons (.var l0) (.cons .int .nil)) fun n U6 P d6=>?_
  refine yp (fun m I' U'=>DS W U U'∧I' 0=some (.ref W)∧I' 2=some (.bool hv)∧I' 3=some (.ref R)∧∃tl:List Tl,U' R=some (.list ((va cs++[Sa.Qg l (ps.map g)]++tl.map Tl.Dl).map Sa.v))∧tl.length+m=n)
   (vq (d5.trans d6) l0 l2 rfl (pb [] (by refine aa (d6.at (da ..) s) ?_;simp) (Nat.zero_add _))) ?_ ?_
  ·(intro m j I' U7 K hj M hK;(refine Ut (fun d7 m0 m2 z i=>?_) M;clear M;refine ya (fun tl O za=>?_) i;clear i))
   refine vb (Ob (Jc (.cons (.var m0) (.cons .int .nil)) (jg H d7.Wg (size:=12) (by exact Pa rfl) fun c U8 hc d8=>vb ?_)));have ba:=d8.at O s;have ea:((va cs++[Sa.Qg l (ps.map g)]++tl.map Tl.Dl).map Sa.v).length≤Ac:=by refine aa (sd _) (aa List.length_append (aa List.length_append (aa (sd _) ?_)));have:=Qc cs;exact bc (show _≤20 by simp only[List.length_singleton];lia) (by exact Pa rfl)
   have next:∀(x:Tl) I2,I2 0=some (.ref W)->I2 2=some (.bool hv)->I2 3=some (.ref R)->K I2 (Ga U8 R (some (.list ((va cs++[Sa.Qg l (ps.map g)]++tl.map Tl.Dl).map Sa.v++[Sa.v x.Dl])))):=fun x I2 n0 n2 n3=>
    hK _ _ (vq ((d7.trans d8).rv N s _) n0 n2 n3 (pb (tl++[x]) (by refine aa (da _ _ _) ?_;simp) (by simp;lia)))
   have B:∀(x:Tl)(gl:Nat)(o:zb),x.Dl=.cp gl o->c<11->¬c<6->uk [V.Ba [.int 9,zb.v (.r 10)],.Ba [.int 10,zb.v (.k 7)],.Ba [.int 0,zb.v (.r 9)],.Ba [.int 10,zb.v (.r 0)],.Ba [.int 9,zb.v (.r 9)]] ((c:Int) - 6)=some (.Ba [.int gl,o.v])->Ia G (k+1+1) yB (Ca (Ca I' 7 (.int (j:Nat))) 8 (.int (c:Nat))) U8 K Q:=fun x gl o hx h1 h2 hl=>by
    refine Ka (.ta (.var rfl) .int .lt) (decide_eq_false (by lia)) (gb (.ta (.var rfl) .int .lt) (decide_eq_true (by exact Int.ofNat_lt.mpr (by assumption))) (qe (.Ma (.Ba (.cons (.Ba (.cons .int (.cons (.Ba (.cons .str (.cons .int .nil))) .nil))) (.cons (.Ba (.cons .int (.cons (.Ba (.cons .str (.cons .int .nil))) .nil))) (.cons (.Ba (.cons .int (.cons (.Ba (.cons .str (.cons .int .nil))) .nil))) (.cons (.Ba (.cons .int (.cons (.Ba (.cons .str (.cons .int .nil))) .nil))) (.cons (.Ba (.cons .int (.cons (.Ba (.cons .str (.cons .int .nil))) .nil))) .nil)))))) (.Fd (.var rfl) .int .sub) rfl hl (wc rfl)) rfl ?_));have:=next x (Ca (Ca (Ca (Ca I' 7 (.int (j:Nat))) 8 (.int (c:Nat))) 9 (.int (gl:Nat))) 10 o.v) m0 m2 z
    rw[hx]at this;exact md (.var z) (.Ba (.cons .str (.cons (.var rfl) (.cons (.xb (.cons (.var rfl) .nil)) (.cons .int (.cons .ff .nil)))))) ba ea (ja (ja (ja this)))
   by_cases c6:c<6
   ·exact gb (.ta (.var rfl) .int .lt) (decide_eq_true (by exact Int.ofNat_lt.mpr (by assumption))) (md (.var z) (.Ba (.cons .str (.cons .int (.cons (.xb (.cons (.Ba (.cons .str (.cons .int .nil))) .nil)) (.cons .int (.cons .ff .nil)))))) ba ea (ja (ja (next .OB _ m0 m2 z))))
   rcases(by decide:∀c,c<12->¬c<6->c=6∨c=7∨c=8∨c=9∨c=10∨c=11) c (by assumption) (by assumption)with rfl|rfl|rfl|rfl|rfl|rfl
   ·exact B .pA 9 (.r 10) rfl (by exact Nat.le_add_left _ _) c6 rfl
   ·exact B .jC 10 (.k 7) rfl (by exact Nat.le_add_left _ _) c6 rfl
   ·exact B .KJ 0 (.r 9) rfl (by exact Nat.le_add_left _ _) c6 rfl
   ·exact B .AA 10 (.r 0) rfl (by exact Nat.le_add_left _ _) c6 rfl
   ·exact B .VI 9 (.r 9) rfl (by exact tf _) c6 rfl
   ·exact Ka (.ta (.var rfl) .int .lt) rfl (Ka (.ta (.var rfl) .int .lt) rfl (md (.var z) (.Ba (.cons .str (.cons .int (.cons (.xb (.cons (.Ba (.cons .str (.cons .int .nil))) (.cons (.Ba (.cons .str (.cons .int .nil))) .nil))) (.cons .int (.cons .ff .nil)))))) ba ea (ja (ja (ja (next .add _ m0 m2 z))))))
  ·(intro I' U7 y;(refine Ut (fun d7 m0 m2 z i=>?_) y;clear y;refine ya (fun tl O za=>?_) i;clear i))
   refine Ob (Jc (.cons (.var m0) (.cons .int .nil)) (jg H d7.Wg (size:=4) (by exact Ub rfl) fun w U8 hw d8=>vb ?_));replace m2:Ca I' 11 (.int (w:Nat)) 2=some (.bool hv):=m2;replace z:Ca I' 11 (.int (w:Nat)) 3=some (.ref R):=z;have F:Ca I' 11 (.int (w:Nat)) 11=some (.int (w:Nat)):=rfl;generalize Ca I' 11 (.int (w:Nat))=I' at m2 z F ⊢;by_cases w2:w<2
   ·refine gb (.ta (.var F) .int .lt) (decide_eq_true (by exact Int.ofNat_lt.mpr (by assumption))) (Oj ?_);refine aa ax (aa xi ?_);refine mq (.var z) (d8.at O s) ?_;refine Ff.cons (.Ba (.cons .str (.cons (.ite (v:=Xl (En.ic (if hv then some (9+w)else none)).args) (.var m2) (fun h=>?_) fun h=>?_) (.cons .int .nil)))) .nil _ ?_
    ·refine aa h ?_;exact .as (.xb (.cons (.Ba (.cons .str (.cons (.Fd .int (.var F) .add) .nil))) .nil)) (by refine(?_:V.fl [.Ba [.wd .r,.int (9+(w:Int))]]=V.fl [.Ba [.wd .r,.int ((9+w:Nat):Int)]]);exact aa (show((9+w:Nat):Int)=9+(w:Int) by rfl) rfl)
    ·refine aa h ?_;exact .xb .nil
    ·refine cast ?_ (q ⟨cs,g,l,tl,w⟩ (Ga U8 R none) ⟨fa,show cs.length≤1 by exact Nat.le_of_lt_succ (by assumption),g3,la,T,show tl.length≤3 by lia,hw⟩ ((d7.trans d8).rv N s _));congr 1;unfold dd.Xf dd.en xd.v;dsimp only;refine aa (if_pos w2) ?_;rfl
   ·refine La (.ta (.var F) .int .lt) (decide_eq_false (by lia)) (Oj ?_);refine aa ax (aa xi ?_);refine mq (.var z) (d8.at O s) ?_;refine Ff.cons (.Ba (.cons .str (.cons (.xb .nil) (.cons (.Fd .int (.var F) .add) .nil)))) .nil _ ?_;refine cast ?_ (q ⟨cs,g,l,tl,w⟩ (Ga U8 R none) ⟨fa,show cs.length≤1 by exact Nat.le_of_lt_succ (by assumption),g3,la,T,show tl.length≤3 by lia,hw⟩ ((d7.trans d8).rv N s _));congr 1;unfold dd.Xf dd.en xd.v;dsimp only;refine aa (if_neg w2) ?_;rfl
 refine Ob (EC ?_);induction hv with
 |true=>refine Ng.as (w:=true) (.Ea (r:=true) (r':=true) (.var l2) (fun h=>nomatch h)) rfl _ ?_;refine aa (if_pos rfl) ?_;exact qb.int _ (vb (Vc 9 U3 (.inl rfl) (DS.refl d3.Wg)))
 |false=>
  refine tF (.var l2) ?_;rewrite[ck];refine Jc (.cons (.var l0) (.cons .int .nil)) (jg H d3.Wg (size:=2) (by exact Ub rfl) fun n U4 P d4=>?_);refine qb.int _ (uh.Ag _ ?_);refine(?_:(if decide ((n:Int)=0)=true then _ else _));by_cases e:(n:Int)=0
  ·refine aa (if_pos (decide_eq_true e)) ?_;exact qb.int _ (vb (Vc 9 U4 (.inl rfl) d4))
  ·refine aa (if_neg (by rw[decide_eq_false e];decide)) ?_;exact qb.int _ (vb (Vc (-1) U4 (.inr ⟨rfl,rfl⟩) d4))
noncomputable def Lb:List Sa:=[.name,.slot,.cp 6 (.r 5),.st 5 0 false,.dr 9 1,.cp 10 (.r 1)]
theorem qb.xv{w:Wd}{i:Int}:qb G k I U (.Ba [.str w,.int i]) (.Ba [.wd w,.int i]):=.Ba (.cons .str (.cons .int .nil))
theorem Gy(H:Sd G)(hW:Nf U W)(q:∀(D:Xb) U',D.ok->DS W U U'->Q (.Ba [Mb D.Yb,Ee D.ps,.bool D.hv]) U'):pe G (k+1+1+1) .vh [.ref W] U Q:=by
 refine H.call .vh rfl (Ob (Jc (.cons (.var rfl) (.cons .int .nil)) (jg H hW (size:=4) (by exact Ub rfl) fun t U1 ht z=>vb ?_)));obtain⟨ps,cn,A⟩:∃ps:List Nat,(ps=[0,1,2,3]∨ps=[1,2,3,0]∨ps=[2,3,0,1]∨ps=[3,0,1,2])∧V.fl (List.drop ((t:Int)).toNat [V.int 0,.int 1,.int 2,.int 3]++List.take ((t:Int)).toNat [V.int 0,.int 1,.int 2,.int 3])=Ee ps:=by
  refine vy ht ?_ ?_ ?_ ?_
  ·exact⟨_,.inl rfl,rfl⟩
  ·exact⟨_,.inr (.inl rfl),rfl⟩
  ·exact⟨_,.inr (.inr (.inl rfl)),rfl⟩
  ·exact⟨_,.inr (.inr (.inr rfl)),rfl⟩
 have g:ps.length≤4∧∀p∈ps,p<4:=by rcases cn with rfl|rfl|rfl|rfl<;>exact⟨by exact Pa rfl,by exact Ub rfl⟩
 have c:∀{I:zc},qb G (k+1+1+1) I U1 (.xb true [(.int 0),(.int 1),(.int 2),(.int 3)]) (.fl [V.int 0,.int 1,.int 2,.int 3]):=.xb (.cons .int (.cons .int (.cons .int (.cons .int .nil))));refine Gb (.as (.Fd (.wh c (.var rfl) rfl (vo t) (wc rfl)) (.gr c (.var rfl) rfl (vo t) (wc rfl)) (.rr rfl rfl (by exact List.length_drop▸bc (Nat.sub_le ..) (wc rfl)) (by exact List.length_take▸bc (Nat.min_le_right ..) (wc rfl)))) A) ?_;refine Ob ?_;refine Jc (.cons (.var rfl) (.cons .int .nil)) (jg H z.Wg (size:=4) (by exact Ub rfl) fun h U2 hh d2=>?_);refine qb.int _ (uh.lt _ (vb ?_));generalize sa:decide ((h:Int)<3)=hv;refine Ob ?_;refine aa RH ?_;refine qb.xb (vs:=Lb.map Sa.v) ?_ _ ?_
 ·exact .cons (.Ba (.cons .str (.cons .int (.cons (.xb .nil) (.cons (.Ba (.cons .str (.cons .int .nil))) (.cons .ff .nil)))))) (.cons (.Ba (.cons .str (.cons .int (.cons (.xb .nil) (.cons .int (.cons .ff .nil)))))) (.cons (.Ba (.cons .str (.cons .int (.cons (.xb (.cons .xv .nil)) (.cons .int (.cons .ff .nil)))))) (.cons (.Ba (.cons .str (.cons .int (.cons (.xb (.cons .xv (.cons .xv .nil))) (.cons .int (.cons .ff .nil)))))) (.cons (.Ba (.cons .str (.cons .int (.cons (.xb (.cons .xv .nil)) (.cons .int (.cons .ff .nil)))))) (.cons (.Ba (.cons .str (.cons .int (.cons (.xb (.cons .xv .nil)) (.cons .int (.cons .ff .nil)))))) .nil)))))
 refine Jc (.cons (.var rfl) (.cons .int .nil)) (Sv H (z.trans d2).Wg (most:=3) (by exact Ub rfl) fun b U3 B ua d3=>?_);have j:=(z.trans d2).trans d3;have pa:=Qc b;refine Af _ _ rfl rfl ⟨wc rfl,by refine aa (sd _) ?_;exact bc (show _≤10 by lia) (by exact Ub rfl)⟩ fun R hR=>vb ?_;have a:R≠W:=j.Wg.ne hR;have m:=j.none hW hR;have f:Ga U3 R (some (.list (Lb.map Sa.v++(va b).map Sa.v))) R=some (.list (Lb.map Sa.v++(va b).map Sa.v)):=da ..;refine md (.var rfl) (y:=Sa.v (.ld 11 5 false)) (.Ba (.cons .str (.cons .int (.cons (.xb (.cons .xv .nil)) (.cons (.Ba (.cons .int (.cons .ff .nil))) (.cons .ff .nil)))))) f (by refine aa List.length_append (aa (sd _) (aa (sd _) ?_));exact bc (show _≤20 by refine(?_:6+_≤20);lia) (by exact Pa rfl)) ?_;rewrite[Tc];have u:DS W U (Ga U3 R (some (.list (Lb.map Sa.v++(va b).map Sa.v++[Sa.v (.ld 11 5 false)])))):=j.rv m a _;have f:Ga U3 R (some (.list (Lb.map Sa.v++(va b).map Sa.v++[Sa.v (.ld 11 5 false)]))) R=some (.list (Lb.map Sa.v++(va b).map Sa.v++[Sa.v (.ld 11 5 false)])):=da ..;generalize Ga U3 R (some (.list (Lb.map Sa.v++(va b).map Sa.v++[Sa.v (.ld 11 5 false)])))=U4 at u f ⊢;refine Ob ?_;refine aa cC ?_;refine Jc (.cons (.var rfl) (.cons .int .nil)) (Sv H u.Wg (most:=2) (by exact Ub rfl) fun i U5 F wa K=>?_);have ra:=Qc i;refine aa pJ (aa xi ?_);refine qb.Ba (vs:=[.wd .sub,.int 8,Xl [.r 3,.k 1],.int 0,.bool false]) (.cons .str (.cons .int (.cons (.xb (.cons .xv (.cons .xv .nil))) (.cons .int (.cons .ff .nil))))) _ ?_;refine aa xi (aa ax (aa xi ?_));refine qb.str _ ?_;refine aa xi ?_;refine qb.int _ ?_;refine aa xi (aa pJ (aa xi (aa ax (aa xi ?_))));refine qb.str _ ?_;refine aa xi ?_;refine Jc (.cons (.var rfl) (.cons .int .nil)) (jg H (u.trans K).Wg (size:=4) (by exact Ub rfl) fun l U6 L d6=>?_);refine aa ou ?_;refine Ff.cons .xv .nil _ ?_;refine Ff.cons .int (.cons .ff .nil) _ ?_;refine aa ou ?_;refine vp.rr (x:=(va i).map Sa.v) (y:=[Sa.v (.ar .sub 8 3 (.k 1)),Sa.v (.ar .and 7 l (.k 1))]) rfl rfl (by refine aa (sd _) ?_;exact bc (show _≤10 by lia) (by exact Ub rfl)) (wc rfl) _ ?_;refine vb ?_;have n:=(u.trans K).trans d6;have M:=d6.at (K.at f a) a;refine Gb (v:=Xl (En.ic (if hv then some 10 else none)).args) (.ite (r:=hv) (.var rfl) (fun e=>?_) fun e=>?_) ?_
 ·refine aa e ?_;exact .xb (.cons .xv .nil)
 ·refine aa e ?_;exact .xb .nil
 refine Ob ?_;refine aa pJ (aa xi (aa ax ?_));refine qb.str _ ?_;refine qb.int _ ?_;refine aa xi (aa pJ (aa xi (aa ax ?_)));refine qb.str _ ?_;refine Jc (.cons (.var rfl) (.cons .int .nil)) (jg H n.Wg (size:=3) (by exact Ub rfl) fun w U7 N d7=>?_);refine aa ou ?_;refine Ff.nil _ ?_;refine Ff.cons .int (.cons .ff .nil) _ ?_;refine Ff.nil _ (vb ?_);have o:=n.trans d7;refine Ob (EC ?_);rewrite[ck];refine Jc (.cons (.var rfl) (.cons .int .nil)) (jg H o.Wg (size:=4) (by exact Ub rfl) fun ls U8 xa d8=>?_);refine qb.int _ (uh.Ag _ ?_);have O:=o.trans d8;have P:=d8.at (d7.at M a) a;refine(?_:(if decide ((ls:Int)=3)=true then _ else _))
 have Vc:∀(xb:Bool)(I:zc),I 0=some (.ref W)->I 2=some (Ee ps)->I 3=some (.bool hv)->I 4=some (.ref R)->I 5=some (.fl ((va i).map Sa.v++[Sa.v (.ar .sub 8 3 (.k 1)),Sa.v (.ar .and 7 l (.k 1))]))->I 6=some (Xl (En.ic (if hv then some 10 else none)).args)->I 7=some (.fl [Sa.v (.cp 10 (.r w))])->I 8=some (Zd (if xb then [.cp 10 (.r 10)]else []))->
  Ia G (k+1+1+1) ((we .vh).drop 9) I U8 (fun ζ U=>Q .none U) Q:=fun xb I m0 m2 T m4 m5 m6 m7 m8=>by
  refine Oj ?_;refine aa ax (aa xi (aa pJ (aa xi (aa ax (aa xi ?_)))));refine mq (.var m4) P ?_;have X:=O.rv m a (none:Option MO);refine Ff.cons (.Ba (.cons .str (.cons (.xb (.cons .xv .nil)) (.cons (.Ba (.cons .int (.cons .int .nil))) .nil)))) .nil _ ?_;refine qb.Ba (.cons (.var m5) (.cons (.Ba (.cons .str (.cons (.xb (.cons .xv .nil)) (.cons (.Ba (.cons .int (.cons .int .nil))) .nil)))) .nil)) _ ?_;refine qb.Ba (.cons (.var m7) (.cons (.Ba (.cons .str (.cons (.var m6) (.cons .int .nil)))) .nil)) _ ?_;refine Jc (.cons (.var m0) (.cons (.var m2) (.cons (.var T) .nil))) (Lr H X.Wg g fun Y U10 ba s=>?_);refine Jc (.cons (.var m0) (.cons (.var m2) (.cons (.var T) .nil))) (Lr H (X.trans s).Wg g fun c4 U11 ea fa=>?_);refine Ff.cons (.Ba (.cons (.xb .nil) (.cons (.Ba (.cons .str (.cons (.xb .nil) (.cons .int .nil)))) .nil))) (.cons (.Ba (.cons (.var m8) (.cons (.Ba (.cons .str (.cons (.var m6) (.cons .int .nil)))) .nil))) .nil) _ ?_;refine Ff.cons (.var m2) (.cons (.var T) .nil) _ ?_;have ha:=q ⟨ps,hv,b,i,l,w,Y,c4,xb⟩ U11 ⟨cn,B,show b.length≤2 by exact Nat.le_of_lt_succ (by assumption),F,show i.length≤1 by exact Nat.le_of_lt_succ (by assumption),L,N,ba,ea⟩ ((X.trans s).trans fa);refine cast ?_ ha;congr 1;have ka:(Xb.b0 ⟨ps,hv,b,i,l,w,Y,c4,xb⟩).v=V.Ba [.fl (Lb.map Sa.v++(va b).map Sa.v++[Sa.v (.ld 11 5 false)]),.Ba [.wd .branch,.fl [.Ba [.wd .r,.int 3]],.Ba [.int 1,.int 2]]]:=by unfold Xb.b0 xd.v Zd;refine aa List.map_append ?_;rfl
  have la:(Xb.b1 ⟨ps,hv,b,i,l,w,Y,c4,xb⟩).v=V.Ba [.fl ((va i).map Sa.v++[Sa.v (.ar .sub 8 3 (.k 1)),Sa.v (.ar .and 7 l (.k 1))]),.Ba [.wd .branch,.fl [.Ba [.wd .r,.int 7]],.Ba [.int 3,.int 4]]]:=by unfold Xb.b1 xd.v Zd;refine aa List.map_append ?_;rfl
  refine(?_:V.Ba [.fl [(Xb.b0 _).v,(Xb.b1 _).v,_,_,_,_,_],_,_]=_);refine aa ka (aa la ?_);rfl
 by_cases e:(ls:Int)=3
 ·refine aa (if_pos (decide_eq_true e)) ?_;exact qb.xb (.cons (.Ba (.cons .str (.cons .int (.cons (.xb (.cons .xv .nil)) (.cons .int (.cons .ff .nil)))))) .nil) _ (vb (Vc true _ rfl rfl rfl rfl rfl rfl rfl rfl))
 ·refine aa (if_neg (by rw[decide_eq_false e];decide)) ?_;exact qb.xb .nil _ (vb (Vc false _ rfl rfl rfl rfl rfl rfl rfl rfl))
noncomputable def Vu(U:Mem)(J:Addr)(bs:List Addr):Prop:=∀b∈bs,∃c a l,U b=some (.ib .td c)∧Sq c .uc=some (.ref a)∧U a=some (.list l)∧a≠J
theorem Vu.sL(h:Vu U J bs):RE U bs:=fun b hb=>Df (fun a c l e f g i=>(zi a c l e f g)) (h b hb)
theorem Vu.za(h:Sub U U')(r:Vu U J bs):Vu U' J bs:=fun b hb=>
 Df (fun a c l e f g i=>(Jj a c l (h _ _ e) f (h _ _ g) i)) (r b hb)
theorem Dc.AD{b:Addr}:∀{n:Nat}{bs:List Addr}{P:List xd},Dc U n bs P->jd U b (n+P.length) B->Dc U n (bs++[b]) (P++[B]):=by
 intro n f;induction f generalizing n with
 |nil=>
  intro c h e;rcases c with _|⟨g,i⟩
  ·exact⟨e,trivial⟩
  ·exact h.elim
 |cons j l m=>
  intro c h e;rcases c with _|⟨a,P⟩
  ·exact h.elim
  ·obtain⟨o,p⟩:=h;exact⟨o,m p (by exact show n+1+P.length=n+(a::P).length by simp;lia▸e)⟩
theorem jd.other{c:Addr}(w:jd U c n B)(y:Vu U J bs)(h:c∈bs)(j:U J=some (.list l))(x:Option MO):jd (Ga U J x) c n B:=by
 (change let R:Prop:=_;R;intro R);(refine Df (fun sv e as s t z b=>?_) w.ex;refine Aa (fun o A=>?_) b;clear b)
 refine Df (fun F G l' g p u D=>?_)<|y c h
 rw[s]at g;(replace g:=Bb g;cases g)
 (replace p:=(Bb p).symm;subst p)
 have q:∀a m,U a=some m->(∀l,m≠.list l)->Ga U J x a=some m:=fun a m f h=>ia f fun e=>by subst e;rw[j]at f;(replace f:=(Bb f).symm;subst f);exact h _ rfl
 refine⟨(Jj _ e as (q _ _ s (fun v e=>by injection e)) ?_ (z.za fun a i ⟨o,hs⟩=>⟨o,q _ _ hs (fun v e=>by injection e)⟩) (Ks o (q _ _ A (fun v e=>by injection e))))⟩;rw[Mg u]at t;refine Cb (Bb t) ?_;exact Mg (ia u D)
theorem lE{v x a b:V}{K:zc->Prop}(hv:sv U v=some [x,y])(c:sv U y=some [a,b])(q:K (Ca (Ca (Ca I i x) j a) k b)):Oh (.tp [.nm i,.tp [.nm j,.nm k]]) v U I K:=by refine Yo hv rfl ?_;exact Oe c q
theorem Vs(H:Sd G){b:Addr}{n:V}(hb:U b=some (.ib .td []))(q:∀a,Ga U b (some (.ib .td [(.Yc,n)])) a=none->Q .none (Ga (Ga (Ga U b (some (.ib .td [(.Yc,n)]))) a (some (.list []))) b (some (.ib .td [(.Yc,n),(.uc,.ref a),(.We,.none)])))):pe G k .Sj [.ref b,n] U Q:=by refine H.call .Sj rfl (yd (.var rfl) (.var rfl) hb (by exact Pa rfl) ?_);refine Eg .nil fun a c=>?_;refine qb.var (i:=0) rfl _ ?_;refine Qp (ia (da U b (some (.ib .td (So [] .Yc n)))) ((Sub.ne c (da ..)):b≠a)) (Pa rfl) ?_;refine yd .none (.var rfl) (da ..) (Pa rfl) (ja ?_);rewrite[Tc];exact q a c
theorem Bv(H:Sd G){n:V}(h:Ff G (k+1) I U es [n])(q:∀b c U',Sub U U'->U b=none->U c=none->U' b=some (.ib .td [(.Yc,n),(.uc,.ref c),(.We,.none)])->U' c=some (.list [])->Q (.ref b) U'):wb G (k+1) false (.new .td es) I U Q:=by refine h _ fun b hb=>?_;refine Vs H (da ..) fun c a=>?_;rw[Tc]at a ⊢;exact q b c _ ((((Sub.refl U).Ga hb _).Ga (by rw[qa _ _ ((Sub.ne a (da ..)):b≠c).symm]at a;exact a:U c=none) _).Ga hb _) hb (by rw[qa _ _ ((Sub.ne a (da ..)):b≠c).symm]at a;exact a:U c=none) (da ..) (ia (da ..) ((Sub.ne a (da ..)):b≠c).symm)
theorem Hu(H:Sd G){b:Addr}(hb:U b=some (.ib .func []))(q:∀J U',(∀a m,a≠b->U a=some m->U' a=some m)->J≠b->U J=none->U' J=some (.list [])->U' b=some (.ib .func [(.name,.wd .f),(.params,.fl []),(.Xk,.bool false),(.slots,.fl []),(.Ae,.ref J),(.ie,.int 0),(.Xg,.bool false)])->Q .none U'):pe G k .Qk [.ref b,.wd .f] U Q:=by
 refine H.call .Qk rfl (yd (.var rfl) (.var rfl) hb (by exact Pa rfl) (yd (.xb .nil) (.var rfl) (da ..) (Pa rfl) ?_));rewrite[Tc];refine yd .ff (.var rfl) (da ..) (Pa rfl) ?_;rewrite[Tc];refine yd (.xb .nil) (.var rfl) (da ..) (Pa rfl) ?_;rewrite[Tc];refine Eg .nil fun J f=>?_;have c:b≠J:=Sub.ne f (da ..);have g:U J=none:=by rw[qa _ _ c.symm]at f;exact f
 refine qb.var (i:=0) rfl _ ?_;refine Qp (ia (da U b _) c) (Pa rfl) ?_;refine yd .int (.var rfl) (da ..) (Pa rfl) ?_;rewrite[Tc];refine yd .ff (.var rfl) (da ..) (Pa rfl) (ja ?_);rewrite[Tc];refine q J _ (fun a m j h=>?_) c.symm g (ia (da ..) c.symm) (da ..);refine aa (qa _ _ j) (aa (qa _ _ (fun e=>by rw[e,g]at h;injection h)) (aa (qa _ _ j) ?_));exact h
structure NK(U0 U:Mem)(b SL:Addr)(n:Nat)(la:List Sa):Prop where
 sub:Sub U0 U
 b:U b=some (.ib .td [(.Yc,.int n),(.uc,.ref SL),(.We,.none)])
 s:∃as,U SL=some (.list (Ab as))∧ye (Zc U) as la
theorem Rv(H:Sd G)(cn:ps.length≤100)(hP:P.length≤100)(hr:∀B∈P,B.la.length≤1000∧∀i∈B.la,i.args.length≤100)(q:∀F J bs U',Sub U U'->Ce U' F J ps hv 12 bs P->RE U' bs->Q (.ref F) U'):pe G (k+1) .qm [Mb P,Ee ps,.bool hv] U Q:=by
 have Ld:∀n,n≤1000->n≤Ac:=fun n h=>bc h (by exact Pa rfl);refine H.call .qm rfl (Ob ?_);refine Ff.cons .str .nil _ fun F hF=>?_;refine Hu H (da ..) fun J U1 Ea ka sa ua Ha=>vb ?_;have s1:Sub U U1:=fun a m h=>Ea a m (fun e=>by subst e;rw[hF]at h;exact nomatch h) (ia h (fun e=>by subst e;rw[hF]at h;exact nomatch h));refine yd (.mf (.var rfl) rfl (by refine aa (sd _) ?_;exact Ld _ (by exact bc (by assumption) (Pa rfl)))) (.var rfl) Ha (Pa rfl) ?_;refine yd .int (.var rfl) (da ..) (Pa rfl) ?_;rewrite[Tc];refine yd (.xb (.cons (.Ba (.cons .int (.cons .int .nil))) .nil)) (.var rfl) (da ..) (Pa rfl) ?_;rewrite[Tc];refine yd (.var rfl) (.var rfl) (da ..) (Pa rfl) ?_;rewrite[Tc]
 refine Ci (.var rfl) (Hq (l:=P.map xd.v)) (fun as I U'=>I 3=some (.ref F)∧∃bs done X,as=Ji done.length X∧P=done++X∧Sub U U'∧U' F=some (.ib .func (Td ps hv 12 J))∧U' J=some (.list (Ab bs))∧Dc U' 0 bs done∧Vu U' J bs) (jn xd.v 0 P)
  (uu rfl (bD [] [] P rfl rfl ((s1.Ga hF _):Sub U (Ga U1 F (some (.ib .func (Td ps hv 12 J))))) ((da ..):Ga U1 F (some (.ib .func (Td ps hv 12 J))) F=some (.ib .func (Td ps hv 12 J))) ((ia ua ka):Ga U1 F (some (.ib .func (Td ps hv 12 J))) J=some (.list [])) trivial (fun ζ h=>nomatch h))) (fun ζ ζ ζ ζ=>trivial) ?_ ?_
 ·(intro Ra as x I U3 K s z hK;obtain⟨n,B⟩:=Ra;(refine Qa (fun l3 g=>?_) z;clear z;refine GG (fun bs done X Y w s3 ba p A D=>?_) g;clear g))
  rw[s]at *;clear s;cases X with
  |nil=>exact nomatch Y
  |cons B' X=>
   injection Y with e1 e2;injection e1 with e3 e4;subst e3 e4 e2
   (change let R:Prop:=_;R;intro R);refine Qa (fun wa Ta=>?_)<|hr B (by refine aa w ?_;simp:B∈P)
   have eb:done.length+1≤100:=by rw[w]at hP;simp at hP;exact Nat.lt_of_le_of_lt (pn _ _) (by assumption)
   refine lE rfl rfl (Ob (Bv H (.cons (.var rfl) .nil) fun b t U4 s4 Ua la ea fa=>vb ?_));refine rf (.var rfl) (xe (l:=B.la.map Sa.v)) (fun is I U'=>I 3=some (.ref F)∧I 6=some B.en.v∧I 7=some (.ref b)∧∃rd,rd++is=B.la∧NK U3 U' b t done.length rd) (ye.map Sa.v B.la) ⟨l3,rfl,rfl,[],rfl,s4,ea,[],fa,trivial⟩ (fun ζ ζ ζ ζ=>trivial) ?_ ?_
   ·(intro i is x I U5 K2 Ya z ab;refine aa Ya ?_;(refine nf (fun l3 l6 l7 g=>?_) z;clear z;refine ya (fun rd u y=>?_) g;clear g))
    (change let R:Prop:=_;R;intro R);refine ya (fun as v ha=>?_) y.s
    have cb:rd.length+1≤1000:=by rw[← u]at wa;simp at wa;exact Nat.lt_of_le_of_lt (pn _ _) (by assumption)
    refine uo rfl (Ob (yj H (.cons (.var rfl) (.cons (.var rfl) (.cons (.mf (.var rfl) rfl (by refine aa (sd _) ?_;exact Ld _ (bc (Ta i (by refine Cb u ?_;simp:i∈B.la)) (by exact Ub rfl)))) (.cons (.var rfl) .nil)))) fun x s=>vb ?_));refine yd (.var rfl) (.var rfl) (da ..) (Pa rfl) ?_;rewrite[Tc];have L:b≠x:=fun e=>by subst e;rw[y.b]at s;exact nomatch s
    have M:t≠x:=fun e=>by subst e;rw[v]at s;exact nomatch s
    have pa:U3 x=none:=by
     cases e:U3 x with
     |none=>rfl
     |some m=>have:=y.sub _ _ e;rw[s]at this;exact nomatch this
    refine md (.ma (.var l7) (ia y.b L) rfl) (.var rfl) (ia v M) (by unfold Ab;refine aa (sd _) (aa ha.Pd ?_);exact Ld _ (by exact Nat.le_of_lt (by assumption))) (ja (ab _ _ (lg l3 l6 l7 (pb (rd++[i]) (by refine Cb u ?_;simp) ⟨(y.sub.Ga pa _).Ga la _,ia (ia y.b L) ((Wa ea fa (fun e=>by exact nomatch e)):b≠t),as++[x],by refine aa (da _ _ _) ?_;unfold Ab;simp,?_⟩))));refine(ha.za fun a j ⟨ln,hs⟩=>⟨ln,ia (ia hs (fun e=>by subst e;rw[hs]at s;exact nomatch s)) (Wa hs v (fun e=>by exact nomatch e))⟩).append ⟨⟨0,?_⟩,trivial⟩;refine aa (qa _ _ M.symm) (aa (da _ _ _) ?_);rfl
   ·(intro I U5 N;(refine nf (fun l3 l6 l7 g=>?_) N;clear N;refine ya (fun rd u y=>?_) g;clear g))
    rw[List.append_nil]at u;rw[u]at *;clear u
    (change let R:Prop:=_;R;intro R);refine ya (fun as v ha=>?_) y.s
    refine yj H (.cons (.Ma (.var l6) .int rfl rfl (wc rfl)) (.cons .int (.cons (.mf (.Ma (.var l6) .int rfl rfl (wc rfl)) rfl (by refine aa (sd _) ?_;exact Ld _ (bc (by cases B.en with|ic o=>cases o<;>exact Pa rfl|_=>exact Pa rfl:B.en.args.length≤100) (by exact Pa rfl)))) (.cons (.Ma (.var l6) .int rfl rfl (wc rfl)) .nil)))) fun x s=>?_;have L:b≠x:=fun e=>by subst e;rw[y.b]at s;exact nomatch s
    have M:t≠x:=fun e=>by subst e;rw[v]at s;exact nomatch s
    have pa:U3 x=none:=by
     cases e:U3 x with
     |none=>rfl
     |some m=>have:=y.sub _ _ e;rw[s]at this;exact nomatch this
    refine qb.var l7 _ ?_;refine Qp (ia y.b L) (Pa rfl) ?_;have T:Sub U3 (Ga (Ga U5 x (some (.ib .step (B.en.fs 0)))) b (some (.ib .td [(.Yc,.int done.length),(.uc,.ref t),(.We,.ref x)]))):=(y.sub.Ga pa _).Ga Ua _;have ra:jd (Ga (Ga U5 x (some (.ib .step (B.en.fs 0)))) b (some (.ib .td [(.Yc,.int done.length),(.uc,.ref t),(.We,.ref x)]))) b (0+done.length) B:=by refine aa (Nat.zero_add _) ?_;refine⟨(Jj _ x as (da ..) (Mg (ia (ia v M) ((Wa ea fa (fun e=>by exact nomatch e)):b≠t).symm)) (ha.za fun a j ⟨ln,hs⟩=>⟨ln,ia (ia hs (fun e=>by subst e;rw[hs]at s;exact nomatch s)) (Wa hs y.b (fun e=>by cases e))⟩) (Ks 0 (ia (da ..) L.symm)))⟩
    have xa:Ga (Ga U5 x (some (.ib .step (B.en.fs 0)))) b (some (.ib .td [(.Yc,.int done.length),(.uc,.ref t),(.We,.ref x)])) t=some (.list (Ab as)):=ia (ia v M) ((Wa ea fa (fun e=>by exact nomatch e)):b≠t).symm;have za:Ga (Ga U5 x (some (.ib .step (B.en.fs 0)))) b (some (.ib .td [(.Yc,.int done.length),(.uc,.ref t),(.We,.ref x)])) b=some (.ib .td [(.Yc,.int done.length),(.uc,.ref t),(.We,.ref x)]):=da ..;refine(?_:Ia G (k+1) (_::_) _ (Ga (Ga U5 x (some (.ib .step (B.en.fs 0)))) b (some (.ib .td [(.Yc,.int done.length),(.uc,.ref t),(.We,.ref x)]))) _ _);generalize Ga (Ga U5 x (some (.ib .step (B.en.fs 0)))) b (some (.ib .td [(.Yc,.int done.length),(.uc,.ref t),(.We,.ref x)]))=U6 at T ra xa za ⊢;have bb:t≠J:=fun e=>by subst e;rw[p]at la;exact nomatch la
    have O:Vu U6 J (bs++[b]):=fun c hc=>by
     refine Or.elim (List.mem_append.mp hc) (fun hc=>?_) (fun hc=>?_)
     ·exact D.za T c hc
     ·refine aa (Jd hc) ?_;exact(Jj _ t _ za rfl xa bb)
    refine md (.ma (.var l3) (T _ _ ba) rfl) (.var l7) (T _ _ p) (by unfold Ab;refine aa (sd _) (aa A.Pd ?_);exact Ld _ (by exact Nat.le_of_lt (Nat.lt_of_lt_of_le (by assumption) (Pa rfl)))) (ja (hK _ _ (uu l3 (bD (bs++[b]) (done++[B]) X (by simp) (by refine aa w ?_;simp) ((s3.trans T).Ga (by rw[qa _ _ ka]at sa;exact sa:U J=none) _) (ia (T _ _ ba) ((ka.symm):F≠J)) (by refine aa (da _ _ _) ?_;unfold Ab;simp) ?_ (fun c hc=>?_)))))
    ·refine Dc.of (((A.za T).AD ra):Dc U6 0 (bs++[b]) (done++[B])).Pd fun j c f hj hC=>?_
     (change let R:Prop:=_;R;intro R);refine ya (fun c' W g2=>?_)<|(((A.za T).AD ra):Dc U6 0 (bs++[b]) (done++[B])).Pn hC
     rw[hj]at W;(replace W:=(Bb W).symm;subst W);exact g2.other O (jr hj) (T _ _ p) _
    ·(change let R:Prop:=_;R;intro R);refine Df (fun fs S' l' W g2 g3 g4=>?_)<|O c hc
     exact(Jj fs S' l' (ia W (fun e=>by subst e;rw[(T _ _ p)]at W;(replace W:=Bb W;cases W))) g2 (ia g3 g4) g4)
 ·(intro I U3 N;(refine Qa (fun l3 g=>?_) N;clear N;refine GG (fun bs done X Y w s3 ba p A D=>?_) g;clear g))
  cases X with
  |cons B X=>exact nomatch Y
  |nil=>rw[List.append_nil]at w;subst w;exact Xa (.var l3) (q F J bs U3 s3 ⟨ba,p,A⟩ D.sL)
theorem zw(H:Sd G)(O:Ce U F J ps hv Z bs P)(hP:P.length≤100)(hr:∀B∈P,B.la.length≤1000∧∀i∈B.la,i.args.length≤100):rm G k .Cm [.ref F] U (Mb P):=fun Q q=>by
 have Ld:∀n,n≤1000->n≤Ac:=fun n h=>bc h (by exact Pa rfl);refine H.call .Cm rfl (Vf (o:=.list []) (fun Q q=>Eg .nil q) fun L y=>?_);refine rf (.ma (.var rfl) (O.za ((Sub.new y _):Sub U (Ga U L (some (.list []))))).f rfl) (Vi (O.za ((Sub.new y _):Sub U (Ga U L (some (.list []))))).bl) (fun Bs I U'=>I 1=some (.ref L)∧∃done,done++Bs=P∧U'=Ga U L (some (.list (done.map xd.v)))) (sk O.jc) (uu rfl (pb [] rfl rfl)) (fun T I U' h=>by(refine Qa (fun T c=>?_) h;clear h;refine ya (fun done T f=>?_) c;clear c;refine aa f ?_);exact(Sub.new y _) _ _ O.bl) ?_ ?_
 ·(intro B Bs x I U' K z A hK;(refine pd (fun b m s hb=>?_) z;clear z;refine aa s ?_);(refine Qa (fun l1 c=>?_) A;clear A;refine ya (fun done w f=>?_) c;clear c;refine aa f ?_))
  (change let R:Prop:=_;R;intro R);refine Qa (fun W X=>?_)<|hr B (by refine Cb w ?_;simp:B∈P)
  (change let R:Prop:=_;R;intro R);(refine Df (fun sv e as t D v c=>?_)<|id (hb.za ((Sub.new y _):Sub U (Ga U L (some (.list (done.map xd.v)))))).ex;refine Aa (fun ln g=>?_) c;clear c)
  refine ya (fun St g1 g2=>?_)<|oq D
  have Y:ye (fun(i:Sa) x=>(∃a,x=V.ref a∧Zc (Ga U L (some (.list (done.map xd.v)))) a i)∧i∈B.la) B.la (Ab as):=by
   have key:∀(l:List Sa)(as:List Addr),(∀i∈l,i∈B.la)->ye (Zc (Ga U L (some (.list (done.map xd.v))))) as l->ye (fun(i:Sa) x=>(∃a,x=V.ref a∧Zc (Ga U L (some (.list (done.map xd.v)))) a i)∧i∈B.la) l (Ab as):=by
    intro l;induction l with
    |nil=>intro as _ h;induction as with|nil=>trivial|cons=>exact h.elim
    |cons i l ih=>intro as hm h;induction as with|nil=>exact h.elim|cons a as=>exact⟨⟨(pb a rfl h.1),hm i (.head _)⟩,ih as (fun j hj=>hm j (.tail _ hj)) h.2⟩
   exact key _ _ (fun T h=>h) v
  refine vb (Gb (.comp (.ma (.var rfl) t rfl) g1 Sa.v Y (g2 _ D) (Ld _ W) fun i x K' hx ba=>?_) ?_)
  ·(refine Qa (fun M hi=>?_) hx;clear hx;refine ya (fun a N u=>?_) M;clear M;refine aa N ?_;refine Aa (fun ea p=>?_) u;clear u)
   exact vb (qb.Ba (.cons (.ma (.var rfl) p rfl) (.cons (.ma (.var rfl) p rfl) (.cons (.mf (.ma (.var rfl) p rfl) rfl (by refine aa (sd _) ?_;exact Ld _ (bc (X i hi) (by exact Ub rfl)))) (.cons (.ma (.var rfl) p rfl) (.cons (.ma (.var rfl) p rfl) .nil))))) _ ba)
  refine md (.var l1) (.Ba (.cons (.var rfl) (.cons (.Ba (.cons (.ma (.ma (.var rfl) t rfl) g rfl) (.cons (.mf (.ma (.ma (.var rfl) t rfl) g rfl) rfl (by refine aa (sd _) ?_;exact Ld _ (bc (by induction B.en with|ic o=>induction o<;>exact Pa rfl|_=>exact Pa rfl:B.en.args.length≤100) (by decide)))) (.cons (.ma (.ma (.var rfl) t rfl) g rfl) .nil)))) .nil))) (da ..) (by refine aa (sd _) ?_;rw[← w]at hP;simp at hP;exact Ld _ (by exact bc (bc (pn _ _) (by assumption)) (Pa rfl)):(done.map xd.v).length≤Ac) (ja ?_);rewrite[Tc];exact hK _ _ (uu l1 (pb (done++[B]) (by refine Cb w ?_;simp) (by refine aa List.map_append ?_;rfl)))
 ·(intro I U' s;(refine Qa (fun l1 c=>?_) s;clear s;refine ya (fun done w f=>?_) c;clear c;refine aa f ?_))
  rw[List.append_nil]at w;refine aa w ?_;refine Oj (mq (.var l1) (da ..) ?_);rewrite[Tc];exact q _ (Sub.new y _)
noncomputable def gq(Ja:List Nat)(z:Int):Bool:=!(Ja.any fun m=>(m:Int)==z)
noncomputable def PG(g:Nat)(Ja:List Nat)(i:Sa):Prop:=i.nc=(g:Int)->i.qk (gq Ja)=false
theorem HC(a b:List Nat)(z:Int)(h:gq (a++b) z=true):gq a z=true:=by unfold gq at *;simp only[List.any_append,Bool.not_eq_true',Bool.or_eq_false_iff]at h ⊢;exact h.1
theorem PG.za{g:Nat}{Ja:List Nat}{i:Sa}(b:List Nat)(h:PG g Ja i):PG g (Ja++b) i:=fun e=>by
 induction q:i.qk (gq (Ja++b))with
 |false=>rfl
 |true=>have:=Nl (HC Ja b) i q;rw[h e]at this;exact(Fc this).elim
noncomputable def m2(U:Mem)(S W:Addr)(a b:List V):Mem:=Ga (Ga U S (some (.list a))) W (some (.list b))
theorem LK{S:Addr}(h:S≠W)(a b:List V):m2 U S W a b S=some (.list a):=ia (da ..) h
theorem FG{S:Addr}(a b:List V):m2 U S W a b W=some (.list b):=da ..
theorem MJ{S:Addr}(h:S≠W)(a b c:List V):Ga (m2 U S W a b) S (some (.list c))=m2 U S W c b:=by
 funext x;unfold m2 Ga;by_cases e:x=S
 ·subst e;simp[h]
 ·by_cases f:x=W
  ·subst f;simp[Ne.symm h]
  ·simp[e,f]
theorem dG{S:Addr}(a b c:List V):Ga (m2 U S W a b) W (some (.list c))=m2 U S W a c:=by unfold m2;(rewrite[Tc];rfl)
noncomputable def Lf(l:List Nat):List V:=l.map fun(n:Nat)=>V.int n
theorem sy(l:List Nat)(n:Nat):(Lf l).any (fun y=>V.eqv y (.int n))=l.contains n:=Mu l n
theorem yo(l:List Nat)(n:Nat):gq l n=!l.contains n:=by
 unfold gq;congr 1;induction l with
 |nil=>rfl
 |cons a l b=>
  refine aa List.any_cons ?_;congr 1;by_cases h:a=n
  ·refine aa h ?_;simp
  ·exact aa (beq_eq_false_iff_ne.mpr (Ne.symm h)) (aa (beq_eq_false_iff_ne.mpr (by exact mt Int.ofNat.inj (by assumption))) rfl)
theorem Ng.OH(h:I i=some (.ref x))(a:U x=some (.list l))(c:l.length≤Ac):Ng G k I U (.var i) (!l.isEmpty):=fun Q q=>by
 (rewrite[ck];refine aa VH ?_;rewrite[Ke]);refine aa h ?_
 refine(?_:yg U (.ref x) fun b=>Q b U);unfold yg;dsimp only;refine aa (Mg a) ?_;exact⟨c,q⟩
structure iD(T:Int->Bool)(N num:Nat)(P:List xd)(Ja wt:List Nat):Prop where
 Kd:∀x∈Ja,T x=true->T num=true
 nd:Ja.Nodup
 lt:∀x∈Ja,x<N
 sub:∀x∈wt,x∈Ja
 num:num∈Ja
structure CS(U U':Mem)(S W:Addr)(T:Int->Bool)(N num:Nat)(P:List xd)(n g:Nat)(Ja wt:List Nat):Prop where
 mem:U'=m2 U S W (Lf Ja) (Lf wt)
 Ud:iD T N num P Ja wt
 gs:g∈Ja
 lt:2*(N - Ja.length)+wt.length<n
 pr:∀x∈Ja,x∈wt∨x=g∨∀B∈P,∀i∈B.la,PG x Ja i
theorem lu{N:Nat}:∀{l:List Nat},l.Nodup->(∀x∈l,x<N)->l.length≤N:=fun{l} a b=>by
 have:l ⊆ List.range N:=fun x c=>List.mem_range.mpr (b x c);have:=List.Nodup.length_le_of_subset a this
 rwa [List.length_range]at this
theorem jE(H:Sd G){T:Int->Bool}{Ts:List Int}(TT:Ey T Ts P){N:Nat}(hN:N≤50)(fb:∀B∈P,∀i∈B.la,∀n,zb.r n∈i.args->n<N){t:Nat}(Ha:t<N):rm G k .Fe [Mb P,.int t] U (.bool (T t)):=fun Q q=>by
 refine H.call .Fe rfl (Vf (o:=.list [.int t]) (fun Q q=>Eg (.cons (.var rfl) .nil) q) fun S hS=>Vf (o:=.list [.int t]) (fun Q q=>Eg (.cons (.var rfl) .nil) q) fun W hW=>?_);have ra:∀a b,Sub U (m2 U S W a b):=fun a b=>((Sub.refl U).Ga hS _).Ga (by rw[qa _ _ ((Sub.ne hW (da ..)):S≠W).symm]at hW;exact hW:U W=none) _;have Ra:∀{Ja u:List Nat},iD T N t P Ja u->(Lf Ja).length≤50:=fun h=>by refine aa (sd _) ?_;exact bc (lu h.nd h.lt) hN
 have ea:∀n,n≤1000->n≤Ac:=fun n h=>bc h (by exact Pa rfl)
 refine km (fun n I U'=>I 0=some (Mb P)∧I 2=some (.ref S)∧I 3=some (.ref W)∧∃Ja u,U'=m2 U S W (Lf Ja) (Lf u)∧iD T N t P Ja u∧2*(N - Ja.length)+u.length=n∧n≤101∧∀x∈Ja,x∈u∨∀B∈P,∀i∈B.la,PG x Ja i)
  (n:=2*(N - 1)+1) (lg rfl rfl rfl (Xv [t] [t] rfl ⟨fun x w h=>by rw[Jd w]at h;exact h,List.nodup_cons.mpr ⟨List.not_mem_nil,List.nodup_nil⟩,fun x w=>by exact Jd w▸Ha,fun x h=>h,.head _⟩ rfl (by lia) (fun x h=>.inl h))) ?_
 (intro n I U' Ta;(refine nf (fun l0 l2 l3 s=>?_) Ta;clear Ta;refine nE (fun Ja u sa Ud hn Rb Ua=>?_) s;clear s;rw[sa]at *;clear sa))
 have Hb:u.length≤101:=by lia
 refine(cc (!(Lf u).isEmpty) (Ng.OH l3 (FG ..) (by unfold Lf;refine aa (sd _) ?_;exact ea _ (by exact bc (by assumption) (Pa rfl)))) (fun hb=>Xa .ff ?_) (fun hb K hK=>?_))
 ·have kb:u=[]:=by simpa[Lf]using hb
  subst kb;have hT:T t=false:=by
   induction e:T t with
   |false=>rfl
   |true=>
    have fa:=TT.IC (gq Ja) (fun B z i L h0 ht=>by
     induction hk:gq Ja i.nc with
     |true=>rfl
     |false=>
      unfold gq at hk;simp only[Bool.not_eq_false',List.any_eq_true,beq_iff_eq]at hk
      (change let R:Prop:=_;R;intro R);(refine ya (fun m hm he=>?_) hk;clear hk)
      have:=((Ua m hm).resolve_left (fun h=>nomatch h)) B z i L he.symm;rw[this]at ht;exact(Fc ht).elim) t e
    rw[yo]at fa;simp at fa;exact absurd Ud.num fa
  rw[hT]at q;exact q _ (ra _ _)
 rcases List.eq_nil_or_concat u with rfl|⟨O,g,rfl⟩
 ·exact(Fc hb).elim
 simp only[List.concat_eq_append]at *;refine Ob (rC (y:=.int g) (.var l3) (FG ..) (by simp[Lf]) (by unfold Lf;refine aa (sd _) ?_;exact ea _ (by exact bc (by assumption) (Pa rfl))) (vb ?_));refine aa (dG _ _ _) (aa (show(Lf (O++[g])).dropLast=Lf O by simp[Lf]) ?_);have mb:CS U (m2 U S W (Lf Ja) (Lf O)) S W T N t P n g Ja O:=⟨rfl,⟨Ud.Kd,Ud.nd,Ud.lt,fun x w=>Ud.sub x (by simp[w]),Ud.num⟩,((Ud.sub g (by simp)):g∈Ja),by refine Cb hn ?_;simp,fun x w=>by
  refine Or.elim (Ua x w) (fun h=>?_) (fun h=>?_)
  ·refine Or.elim (List.mem_append.mp h) (fun h=>?_) (fun h=>?_)
   ·exact .inl h
   ·exact .inr (.inl (Jd h))
  ·exact .inr (.inr h)⟩
 have lb:∀{Ja u},iD T N t P Ja u->(Lf Ja).length≤Ac:=fun h=>ea _ (bc (Ra h) (by exact Pa rfl));have lw:∀{U' Ja u},CS U U' S W T N t P n g Ja u->(Lf u).length≤Ac:=fun h=>by unfold Lf;refine aa (sd _) ?_;have:=h.lt;exact ea _ (by lia)
 refine rf (.var l0) (xe (l:=P.map xd.v)) (fun Bs I U'=>I 0=some (Mb P)∧I 2=some (.ref S)∧I 3=some (.ref W)∧I 4=some (.int g)∧(∀B∈Bs,B∈P)∧∃Ja u,CS U U' S W T N t P n g Ja u∧∀B∈P,B∈Bs∨∀i∈B.la,PG g Ja i) (ye.map xd.v P)
  (xn l0 l2 l3 rfl (fun v h=>h) (ej Ja O mb (fun B h=>.inl h))) (fun v v v v=>trivial) ?_ ?_
 ·(intro B Bs x I U' K2 M A ob;refine aa M ?_;(refine Qq (fun l0 l2 l3 F hm s=>?_) A;clear A;refine pd (fun Ja u cs z=>?_) s;clear s))
  refine Oe rfl (rf (.var rfl) (xe (l:=B.la.map Sa.v)) (fun is I U'=>I 0=some (Mb P)∧I 2=some (.ref S)∧I 3=some (.ref W)∧I 4=some (.int g)∧(∀i∈is,i∈B.la)∧∃Ja u,CS U U' S W T N t P n g Ja u∧(∀B'∈P,B'∈(B::Bs)∨∀i∈B'.la,PG g Ja i)∧∀i∈B.la,i∈is∨PG g Ja i) (ye.map Sa.v B.la)
   (xn l0 l2 l3 F (fun v h=>h) (qf Ja u cs z (fun i h=>.inl h))) (fun v v v v=>trivial) ?_ ?_)
  ·(intro i is x I U' K3 M A Ya;rw[M]at *;clear M;(refine Qq (fun l0 l2 l3 F ka s=>?_) A;clear A;refine Cd (fun Ja u cs z L=>?_) s;clear s))
   have ua:∀i∈is,i∈B.la:=fun j X=>ka j (.tail _ X);have skip:PG g Ja i->∀I',I' 0=some (Mb P)->I' 2=some (.ref S)->I' 3=some (.ref W)->I' 4=some (.int g)->K3 I' U':=fun hp I' a b c f=>Ya _ _ (xn a b c f ua (qf Ja u cs z (fun j X=>(L j X).elim (fun h=>(pg h).elim (fun e=>.inr (e▸hp)) .inl) .inr)));refine uo rfl (Ug (r:=decide (i.nc=g)&&(decide (i.op=.slot)&&true)) (.ua (.ta (.var rfl) (.var F) .Ag) fun v=>.ua (.ta (.var rfl) .str .wd) fun v=>.Od) (fun Y=>Xa .tt ?_) fun Y=>ja ?_)
   ·simp only[Bool.and_true,Bool.and_eq_true,decide_eq_true_eq]at Y;have rb:i.qk T=true:=by
     induction i with
     |slot=>rfl
     |ar op _ _ _=>have:=Y.2;induction op<;>exact nomatch this
     |_=>have:=Y.2;exact nomatch this
    have:=TT.iu B (hm B (.head _)) i (ka i (.head _)) (by refine aa Y.1 ?_;exact vo g) rb;rw[Y.1]at this;rw[cs.Ud.Kd g cs.gs this]at q;refine aa cs.mem ?_;exact q _ (ra _ _)
   refine Ug (r:=decide (i.nc=g)&&(!([V.wd .load,.wd .call].any fun y=>V.eqv y (.wd i.op))&&true)) (.ua (.ta (.var rfl) (.var F) .Ag) fun v=>.ua (.ta (.var rfl) (.Ba (.cons .str (.cons .str .nil))) (.Ri (.Lh rfl rfl rfl))) fun v=>.Od) (fun hd=>?_) fun hd=>ja (ja (skip (fun e=>?_) _ l0 l2 l3 F))
   ·simp only[Bool.and_true,Bool.and_eq_true,decide_eq_true_eq,Bool.not_eq_true']at hd
    (change let R:Prop:=_;R;intro R);(refine Qa (fun xa za=>?_) hd;clear hd)
    have ab:∀K:Int->Bool,i.qk K=i.args.any (tc K):=fun K=>by
     induction i with
     |slot=>rw[xa]at Y;simp at Y;exact absurd rfl Y
     |ld _ _ _=>exact(Fc za.symm).elim
     |Yh _ _=>exact(Fc za.symm).elim
     |Qg _ _=>exact(Fc za.symm).elim
     |_=>rfl
    refine rf (.var rfl) (xe (l:=i.args.map zb.v)) (fun os I U'=>I 0=some (Mb P)∧I 2=some (.ref S)∧I 3=some (.ref W)∧I 4=some (.int g)∧(∀o∈os,o∈i.args)∧∃Ja u,CS U U' S W T N t P n g Ja u∧(∀B'∈P,B'∈(B::Bs)∨∀i∈B'.la,PG g Ja i)∧(∀j∈B.la,j∈(i::is)∨PG g Ja j)∧∀m,zb.r m∈i.args->zb.r m∈os∨m∈Ja) (ye.map zb.v i.args)
     (xn l0 l2 l3 F (fun v h=>h) (Af Ja u cs z L (fun m h=>.inl h))) (fun v v v v=>trivial) ?_ ?_
    ·(intro o os x I U' K4 M A bb;refine aa M ?_;(refine Qq (fun l0 l2 l3 F cb s=>?_) A;clear A;refine Ig (fun Ja u cs z L ho=>?_) s;clear s))
     have la:=cb o (.head _);have wa:∀o∈os,o∈i.args:=fun p hp=>cb p (.tail _ hp);have nx:∀I',I' 0=some (Mb P)->I' 2=some (.ref S)->I' 3=some (.ref W)->I' 4=some (.int g)->(∀m,zb.r m=o->m∈Ja)->K4 I' U':=fun I' a b c f h=>bb _ _ (xn a b c f wa (Af Ja u cs z L (fun m hm=>(ho m hm).elim (fun h'=>(pg h').elim (fun e=>.inr (h m e)) .inl) .inr)));have Ea:=LK ((Sub.ne hW (da ..)):S≠W) (U:=U) (Lf Ja) (Lf u);rw[← cs.mem]at Ea;induction o with
     |k m=>exact Oe rfl (La (.ua (r':=true) (.ta (.var rfl) .str .wd) fun h=>nomatch h) rfl (ja (nx _ l0 l2 l3 F fun m h=>nomatch h)))
     |r m=>
      refine Oe rfl (Ug (r:=!Ja.contains m) (.as (.ua (.ta (.var rfl) .str .wd) fun v=>.ua (.ta (.var rfl) (.var l2) (.Ri (.ZG Ea ((dm Ja):V.zj 8 (Lf Ja)=true) (sy Ja m)))) fun v=>.Od) (by simp)) (fun pa=>?_) fun pa=>ja (ja (nx _ l0 l2 l3 F fun m' h=>by cases h;simpa using pa)));refine md (.var l2) (.var rfl) Ea (lb cs.Ud) ?_;refine aa cs.mem (aa ((MJ ((Sub.ne hW (da ..)):S≠W)) _ _ _) ?_);refine md (.var l3) (.var rfl) (FG ..) (lw cs) (ja (ja ?_));refine aa (dG _ _ _) ?_;have hT:T m=true->T t=true:=fun h=>by have:=TT.iu B (hm B (.head _)) i (ka i (.head _)) (by refine aa xa ?_;exact vo g) (by(refine aa (ab _) ?_;rewrite[List.any_eq_true]);exact(pb (.r m) la h):i.qk T=true);rw[xa]at this;exact cs.Ud.Kd g cs.gs this
      have eb:∀x∈Ja++[m],x<N:=fun x w=>(List.mem_append.mp w).elim (cs.Ud.lt x) fun h=>by refine aa (Jd h) ?_;exact((fb B (hm B (.head _)) i (ka i (.head _)) m la):m<N)
      have sb:=lu ((List.nodup_append.mpr (yc cs.Ud.nd (List.nodup_cons.mpr ⟨List.not_mem_nil,List.nodup_nil⟩) (fun a ha b hb e=>(by simpa using pa:m∉Ja) (by refine Cb (Jd hb) (Cb e ?_);exact ha)))):(Ja++[m]).Nodup) eb;simp only[List.length_append,List.length_singleton]at sb;have fa:=cs.lt;refine bb _ _ (xn l0 l2 l3 F wa (Af (Ja++[m]) (u++[m]) ⟨by simp[Lf],⟨fun x w h=>(List.mem_append.mp w).elim (fun h'=>cs.Ud.Kd x h' h) fun h'=>hT (by refine Cb (Jd h') ?_;exact h),((List.nodup_append.mpr (yc cs.Ud.nd (List.nodup_cons.mpr ⟨List.not_mem_nil,List.nodup_nil⟩) (fun a ha b hb e=>(by simpa using pa:m∉Ja) (by refine Cb (Jd hb) (Cb e ?_);exact ha)))):(Ja++[m]).Nodup),eb,fun x w=>(List.mem_append.mp w).elim (fun h=>List.mem_append_left _ (cs.Ud.sub x h)) fun h=>List.mem_append_right _ h,List.mem_append_left _ cs.Ud.num⟩,List.mem_append_left _ cs.gs,by simp only[List.length_append,List.length_singleton];exact nL (by assumption) (by assumption),fun x w=>?_⟩ (fun B' ba=>(z B' ba).imp id fun h j X=>(h j X).za _) (fun j X=>(L j X).imp id fun h=>h.za _) (fun m' yb=>?_)))
      ·refine Or.elim (List.mem_append.mp w) (fun w=>?_) (fun w=>?_)
       ·rcases cs.pr x w with h|h|h
        ·exact .inl (List.mem_append_left _ h)
        ·exact .inr (.inl h)
        ·exact .inr (.inr fun B z i L=>(h B z i L).za _)
       ·exact .inl (List.mem_append_right _ w)
      ·refine Or.elim (ho m' yb) (fun h=>?_) (fun h=>?_)
       ·refine Or.elim (pg h) (fun h=>?_) (fun h=>?_)
        ·cases h;exact .inr (by simp)
        ·exact .inl h
       ·exact .inr (List.mem_append_left _ h)
    ·(intro I U' D;(refine Qq (fun l0 l2 l3 F v s=>?_) D;clear D;refine Ig (fun Ja u cs z L ho=>?_) s;clear s))
     have Fb:PG g Ja i:=fun v=>by
      (refine aa (ab _) ?_;rewrite[List.any_eq_false])
      intro o la;induction o with
      |k m=>exact Ub rfl
      |r m=>have:=(ho m la).resolve_left (fun h=>nomatch h);refine(?_:¬gq Ja m=true);refine aa (yo _ _) ?_;simp[this]
     exact ja (ja (Ya _ _ (xn l0 l2 l3 F ua (qf Ja u cs z (fun j X=>(L j X).elim (fun h=>(pg h).elim (fun e=>.inr (e▸Fb)) .inl) .inr)))))
   ·rw[decide_eq_true e]at Y hd;cases i with
    |ld _ _ _=>rfl
    |Yh _ _=>rfl
    |Qg _ _=>rfl
    |ar op _ _ _=>cases op<;>exact(Fc hd.symm).elim
    |slot=>exact(Fc Y.symm).elim
    |_=>exact(Fc hd.symm).elim
  ·(intro I U' D;(refine Qq (fun l0 l2 l3 F v s=>?_) D;clear D;refine Cd (fun Ja u cs z L=>?_) s;clear s))
   exact ja (ob _ _ (xn l0 l2 l3 F (fun B h=>hm B (.tail _ h)) (ej Ja u cs (fun B' ba=>(z B' ba).elim (fun h=>(pg h).elim (fun e=>.inr (e▸fun j X=>(L j X).resolve_left (fun h=>nomatch h))) .inl) .inr))))
 ·(intro I U' D;(refine Qq (fun l0 l2 l3 F v s=>?_) D;clear D;refine pd (fun Ja u cs z=>?_) s;clear s))
  refine ja (hK _ _ _ cs.lt (lg l0 l2 l3 (Xv Ja u cs.mem cs.Ud rfl (by have:=cs.lt;lia) (fun x w=>?_))));rcases cs.pr x w with h|rfl|h
  ·exact .inl h
  ·exact .inr fun B ba=>(z B ba).resolve_left (fun h=>nomatch h)
  ·exact .inr h
noncomputable def Sa.DE:Sa->List zb
 | .st _ x _=>[.r x]
 | .Yh _ x=>[.r x]
 | .Qg _ a=>a
 |_=>[]
theorem Yu(K:Int->Bool)(i:Sa):i.Gg K=i.DE.any (tc K):=by
 induction i with
 |st _ x _=>refine(?_:K x=(K x||false));exact aa (Bool.or_false _) rfl
 |Yh _ x=>refine(?_:K x=(K x||false));exact aa (Bool.or_false _) rfl
 |Qg _ a=>rfl
 |_=>rfl
theorem Mv(H:Sd G){T:Int->Bool}{Ts:List Int}(TT:Ey T Ts P){N:Nat}(hN:N≤50)(ka:∀B∈P,∀i∈B.la,∀n,zb.r n∈i.args->n<N)(ua:∀B∈P,∀n,zb.r n∈B.en.args->n<N)(hP:P.length≤10)(hr:∀B∈P,B.la.length≤100∧∀i∈B.la,i.args.length≤10):rm G (k+1) .zf [Mb P] U (.bool (Wf T P)):=fun Q q=>by
 have Ld:∀n,n≤20000->n≤Ac:=fun n h=>bc h (by exact Pa rfl);refine H.call .zf rfl (Vf (o:=.list []) (fun Q q=>Eg .nil q) fun O hO=>?_)
 refine rf (.var rfl) (xe (l:=P.map xd.v)) (fun Y I U'=>I 0=some (Mb P)∧(∀B∈Y,B∈P)∧Sub U U'∧∃O L,I 1=some (.ref O)∧U O=none∧U' O=some (.list (L.map zb.v))∧(L.any (tc T)||Wf T Y)=Wf T P∧(∀n,zb.r n∈L->n<N)∧L.length+1010*Y.length≤10100) (ye.map xd.v P)
  (lg rfl (fun v h=>h) (Sub.new hO _) (Il O [] rfl hO (da ..) rfl (fun v h=>nomatch h) (by simp;exact Nat.mul_le_mul_left _ (by assumption)))) (fun v v v v=>trivial) ?_ ?_
 ·(intro B Y x I U' K F w hK;refine aa F ?_;(refine nf (fun l0 hm hs s=>?_) w;clear w;refine Po (fun O L l1 A t ho u hl=>?_) s;clear s))
  (change let R:Prop:=_;R;intro R);refine Qa (fun Ea wa=>?_)<|hr B (hm B (.head _))
  have la:∀B∈Y,B∈P:=fun B h=>hm B (.tail _ h);simp only[List.length_cons]at hl;have pa:Wf T (B::Y)=(B.af T||Wf T Y):=rfl;have fH:B.en.args.length≤1:=by induction B.en with|ic o=>induction o<;>exact Pa rfl|_=>exact Pa rfl
  refine Oe rfl (rf (.var rfl) (xe (l:=B.la.map Sa.v)) (fun is I U'=>I 0=some (Mb P)∧I 3=some B.en.v∧(∀i∈is,i∈B.la)∧Sub U U'∧∃O p,I 1=some (.ref O)∧U O=none∧U' O=some (.list (p.map zb.v))∧(p.any (tc T)||is.any (Sa.Gg T))=(L.any (tc T)||B.la.any (Sa.Gg T))∧(∀n,zb.r n∈p->n<N)∧p.length+10*is.length+10+1010*Y.length≤10100) (ye.map Sa.v B.la)
   (vq l0 rfl (fun v h=>h) hs (Il O L l1 A t rfl u (by lia))) (fun v v v v=>trivial) ?_ ?_)
  ·(intro i is x I U' K2 F w xa;rw[F]at *;clear F;(refine Ut (fun l0 l3 ea hs s=>?_) w;clear w;refine Po (fun O p l1 A t M u hl=>?_) s;clear s))
   have ra:∀i∈is,i∈B.la:=fun j hj=>ea j (.tail _ hj);have za:=wa i (ea i (.head _));have sa:=ka B (hm B (.head _)) i (ea i (.head _));simp only[List.length_cons]at hl;rw[List.any_cons,Yu]at M
   have go:∀(I':zc)(U2:Mem)(O':Addr)(ns:List zb),i.DE=ns->ns.length≤10->(∀n,zb.r n∈ns->n<N)->I' 0=some (Mb P)->I' 3=some B.en.v->Sub U U2->I' 1=some (.ref O')->U O'=none->U2 O'=some (.list (p.map zb.v++ns.map zb.v))->K2 I' U2:=fun I' U2 O' ns e h1 h2 a b c g e2 f=>
    xa _ _ (vq a b ra c (Il O' (p++ns) g e2 (by exact aa f (aa List.map_append rfl)) (by exact aa List.any_append (Cb M (aa e (aa (Bool.or_assoc _ _ _) rfl)))) (fun n hn=>(List.mem_append.mp hn).elim (u n) (h2 n)) (by refine aa List.length_append ?_;lia)))
   have no:(decide (i.op=.de)||decide (i.op=.call))=false->i.DE=[]->Ia G (k+1) [.Pc (.ta .Eq (.var 4) (.str .de)) [.expr (.append (.var 1) (.Ma (.var 6) (.int 1)))] [.Pc (.ta .Eq (.var 4) (.str .call)) [.Wc (.nm 1) (.rr (.var 1) (.var 6))] []]] (Ca (Ca (Ca (Ca (Ca I 4 (.wd i.op)) 5 (.int i.nc)) 6 (Xl i.args)) 7 i.more) 8 (.bool i.Fq)) U' K2 Q:=fun h e=>by simp only[Bool.or_eq_false_iff]at h;exact Ka (.ta (.var rfl) .str .wd) h.1 (La (.ta (.var rfl) .str .wd) h.2 (ja (ja (go _ _ O [] e (Nat.zero_le _) (fun v h=>nomatch h) l0 l3 hs l1 A (by refine aa (List.append_nil _) ?_;exact t)))))
   have call:i.op=.call->i.DE=i.args->Ia G (k+1) [.Pc (.ta .Eq (.var 4) (.str .de)) [.expr (.append (.var 1) (.Ma (.var 6) (.int 1)))] [.Pc (.ta .Eq (.var 4) (.str .call)) [.Wc (.nm 1) (.rr (.var 1) (.var 6))] []]] (Ca (Ca (Ca (Ca (Ca I 4 (.wd i.op)) 5 (.int i.nc)) 6 (Xl i.args)) 7 i.more) 8 (.bool i.Fq)) U' K2 Q:=fun h e=>by
    refine Ka (.ta (.var rfl) .str .wd) (by refine aa h ?_;rfl) (gb (.ta (.var rfl) .str .wd) (by refine aa h ?_;rfl) (Ob (wA (.var l1) (.var rfl) (Mg t) rfl (by refine aa (sd _) ?_;exact Ld _ (by lia):(p.map zb.v).length≤Ac) (by refine aa (sd _) ?_;exact Ld _ (by exact bc (by assumption) (Pa rfl))) fun O2 W=>vb (ja (ja (go _ _ O2 i.args e za sa l0 l3 (hs.trans (Sub.new W _)) rfl ?_ (da ..)))))));induction e:U O2 with
    |none=>rfl
    |some m=>have:=hs _ _ e;rw[W]at this;exact nomatch this
   refine uo rfl ?_;induction i with
   |st a y f=>exact gb (.ta (.var rfl) .str .wd) rfl (md (.var l1) (.Ma (.var rfl) .int rfl rfl (wc rfl)) t (by refine aa (sd _) ?_;exact Ld _ (by lia):(p.map zb.v).length≤Ac) (ja (ja (go _ _ O [.r y] rfl (Pa rfl) (fun n hn=>sa n (by exact Jd hn▸List.Mem.tail _ (List.Mem.head _))) l0 l3 (hs.Ga A _) l1 A (da ..)))))
   |Yh g y=>exact call rfl rfl
   |Qg g L=>exact call rfl rfl
   |ar op g y z=>exact no (by induction op<;>rfl) rfl
   |name=>exact no rfl rfl
   |slot=>exact no rfl rfl
   |cp g o=>exact no rfl rfl
   |dr g n=>exact no rfl rfl
   |ld g y f=>exact no rfl rfl
  ·(intro I U' D;(refine Ut (fun l0 l3 v hs s=>?_) D;clear D;refine Po (fun O p l1 A t M u hl=>?_) s;clear s))
   rw[List.any_nil,Bool.or_false]at M;simp only[List.length_nil,Nat.mul_zero,Nat.add_zero]at hl;have fa:∀{j:Int}{y:V}{U:Mem},uk [V.wd B.en.op,Xl B.en.args,B.en.more] j=some y->qb G (k+1) I U (.Ma (.var 3) (.int j)) y:=fun h=>.Ma (.var l3) .int rfl h (wc rfl)
   have no:decide (B.en.op=.ic)=false->B.af T=B.la.any (Sa.Gg T)->Ia G (k+1) [.Pc (.ta .Eq (.Ma (.var 3) (.int 0)) (.str .ic)) [.Wc (.nm 1) (.rr (.var 1) (.Ma (.var 3) (.int 1)))] []] I U' K Q:=fun h e=>
    La (.ta (fa rfl) .str .wd) h (ja (hK _ _ (lg l0 la hs (Il O p l1 A t (by exact Cb ho (aa pa (aa e (Cb (Bool.or_assoc _ _ _) (aa M rfl))))) u (by lia)))))
   induction hB:B.en with
   |Ib n=>exact no (by refine aa hB ?_;rfl) (by unfold xd.af;exact aa hB (aa (Bool.or_false _) rfl))
   |branch r x y=>exact no (by refine aa hB ?_;rfl) (by unfold xd.af;exact aa hB (aa (Bool.or_false _) rfl))
   |ic o=>
    refine gb (.ta (fa rfl) .str .wd) (by refine aa hB ?_;rfl) (Ob (wA (.var l1) (fa rfl) (Mg t) rfl (by refine aa (sd _) ?_;exact Ld _ (by lia):(p.map zb.v).length≤Ac) (by refine aa (sd _) ?_;exact Ld _ (by exact bc (by assumption) (Pa rfl))) fun O2 W=>vb (ja (ja (hK _ _ (lg l0 la (hs.trans (Sub.new W _)) (Il O2 (p++B.en.args) rfl ?_ (by exact aa (da _ _ _) (aa List.map_append rfl)) ?_ (fun n hn=>(List.mem_append.mp hn).elim (u n) (ua B (hm B (.head _)) n)) (by refine aa List.length_append ?_;lia))))))))
    ·induction e:U O2 with
     |none=>rfl
     |some m=>have:=hs _ _ e;rw[W]at this;exact nomatch this
    ·refine Cb ho (aa pa (aa List.any_append ?_));unfold xd.af;refine aa hB ?_;dsimp only;refine aa M ?_;induction L.any (tc T)<;>induction B.la.any (Sa.Gg T)<;>induction(En.ic o).args.any (tc T)<;>induction Wf T Y<;>rfl
 ·(intro I U' D;(refine nf (fun l0 v hs s=>?_) D;clear D;refine Po (fun O L l1 A t ho u hl=>?_) s;clear s))
  have ho:(L.any (tc T)||false)=Wf T P:=ho;rw[Bool.or_false]at ho;refine rf (as:=L) (.var l1) (Vi t) (fun Vc I U''=>I 0=some (Mb P)∧Sub U' U''∧L.any (tc T)=Vc.any (tc T)∧∀n,zb.r n∈Vc->n<N) (ye.map zb.v L) (lg l0 (Sub.refl _) rfl u) (fun v v v h=>h.2.1 _ _ t) ?_ ?_
  ·(intro o Vc x I U2 K F w hK;rw[F]at *;clear F;(refine nf (fun l0 X ha u=>?_) w;clear w))
   have ba:∀n,zb.r n∈Vc->n<N:=fun n hn=>u n (.tail _ hn);induction o with
   |k n=>exact Oe rfl (La (.ua (r':=true) (.ta (.var rfl) .str .wd) fun h=>nomatch h) rfl (ja (hK _ _ (lg l0 X ha ba))))
   |r n=>
    refine Oe rfl (Gv (.ua (.ta (.var rfl) .str .wd) fun v=>.dv (.call (.cons (.var l0) (.cons (.var rfl) .nil)) (jE H TT hN ka (u n (.head _))))) (fun h U3 s3=>Xa .tt ?_) fun h U3 s3=>ja (ja (hK _ _ (lg l0 (X.trans s3) ?_ ba))))
    ·have h:T n=true:=by assumption
     have:Wf T P=true:=by refine Cb ho (aa ha ?_);refine(?_:(T n||_)=true);refine aa h ?_;rfl
     rw[this]at q;exact q _ ((hs.trans X).trans s3)
    ·have h:T n=false:=by assumption
     refine aa ha ?_;refine(?_:(T n||_)=_);refine aa h ?_;rfl
  ·(intro I U2 D;(refine nf (fun l0 X ha v=>?_) D;clear D))
   have:Wf T P=false:=by refine Cb ho (aa ha ?_);rfl
   rw[this]at q;exact Xa .ff (q _ (hs.trans X))
noncomputable def Le(c:Ar)(a b:Int):Int:=(match c with
 | .add=>a+b| .sub=>a - b| .Oy=>Builtin.bitXor a b| .and=>Builtin.bitAnd a b| .mul=>a*b| .eq=>if a=b then 1 else 0)%4294967296
theorem pC(H:Sd G)(e:Ar){a b:Int}(hb:e=.mul-> -(2^62)<b∧b<2^62):qg G k .ui [.wd e.w,.int a,.int b] U (.int (Le e a b)):=fun Q q=>by
 refine H.call .ui rfl ?_;have c:∀(v:Int) I,I 3=some (.int v)->Q (.int (v%4294967296)) U->Ia G k [.ret (.Fd .Mod (.var 3) (.Tj .size))] I U (fun f U=>Q .none U) Q:=fun v I h q=>Xa (.Fd (.var h) .Tj (.mod (by exact Ub rfl))) q;have g:vp U .BitXor (.int a) (.int b) (.int (Builtin.bitXor a b)):=fun f q=>Nm q;have i:vp U .BitAnd (.int a) (.int b) (.int (Builtin.bitAnd a b)):=fun f q=>Nm q;induction e with
 |add=>exact gb (.ta (.var rfl) .str .wd) rfl (Gb (.Fd (.var rfl) (.var rfl) .add) (ja (c _ _ rfl q)))
 |sub=>exact Ka (.ta (.var rfl) .str .wd) rfl (gb (.ta (.var rfl) .str .wd) rfl (Gb (.Fd (.var rfl) (.var rfl) .sub) (ja (ja (c _ _ rfl q)))))
 |Oy=>exact Ka (.ta (.var rfl) .str .wd) rfl (Ka (.ta (.var rfl) .str .wd) rfl (gb (.ta (.var rfl) .str .wd) rfl (Gb (.Fd (.var rfl) (.var rfl) g) (ja (ja (ja (c _ _ rfl q)))))))
 |and=>exact Ka (.ta (.var rfl) .str .wd) rfl (Ka (.ta (.var rfl) .str .wd) rfl (Ka (.ta (.var rfl) .str .wd) rfl (gb (.ta (.var rfl) .str .wd) rfl (Gb (.Fd (.var rfl) (.var rfl) i) (ja (ja (ja (ja (c _ _ rfl q)))))))))
 |mul=>exact Ka (.ta (.var rfl) .str .wd) rfl (Ka (.ta (.var rfl) .str .wd) rfl (Ka (.ta (.var rfl) .str .wd) rfl (Ka (.ta (.var rfl) .str .wd) rfl (gb (.ta (.var rfl) .str .wd) rfl (Gb (.Fd (.var rfl) (.var rfl) (fun f q=>.inl (Nm ⟨.inr (hb rfl),q⟩))) (ja (ja (ja (ja (ja (c _ _ rfl q)))))))))))
 |eq=>
  refine Ka (.ta (.var rfl) .str .wd) rfl (Ka (.ta (.var rfl) .str .wd) rfl (Ka (.ta (.var rfl) .str .wd) rfl (Ka (.ta (.var rfl) .str .wd) rfl (Ka (.ta (.var rfl) .str .wd) rfl (Gb (v:=.int (if a=b then 1 else 0)) (.ite (.ta (.var rfl) (.var rfl) .Ag) (fun h=>?_) fun h=>?_) (ja (ja (ja (ja (ja (c _ _ rfl q)))))))))))
  ·refine aa (if_pos (Ub h)) ?_;exact .int
  ·refine aa (if_neg (of_decide_eq_false h)) ?_;exact .int
theorem qb.all{bs:List Bool}(h:qb G k I U e (.fl l))(hb:Di l=some bs)(a:l.length≤Ac):qb G k I U (.all e) (.bool (bs.all id)):=fun Q q=>by exact h _ (Af l bs rfl hb a q)
theorem Fg{c:Type}(f:c->V)(n:Nat)(h:∀a,V.ok n (f a)=true):∀l:List c,V.zj n (l.map f)=true:=by
 intro b;induction b with
 |nil=>exact rfl
 |cons a l e=>refine(?_:(V.ok n (f a)&&V.zj n (l.map f))=true);refine aa (h a) (aa e ?_);rfl
theorem jD(n:Nat)(o:zb):V.ok (n+1) o.v=true:=by induction o<;>rfl
theorem xB(n:Nat)(a:List zb):V.ok (n+2) (Xl a)=true:=Fg zb.v (n+1) (jD n) a
theorem Ls(n:Nat)(i:Sa):V.ok (n+1) i.more=true:=by induction i<;>rfl
theorem AG(n:Nat)(i:Sa):V.ok (n+3) i.v=true:=by refine(?_:(true&&(true&&(V.ok (n+2) (Xl i.args)&&(V.ok (n+1+1) i.more&&(true&&true)))))=true);refine aa (xB _ _) (aa (Ls _ _) ?_);rfl
theorem gm(n:Nat)(l:List Sa):V.ok (n+4) (Zd l)=true:=Fg Sa.v (n+3) (AG n) l
theorem eJ(n:Nat)(e:En):V.ok (n+3) e.v=true:=by refine(?_:(true&&(V.ok (n+2) (Xl e.args)&&(V.ok (n+2) e.more&&true)))=true);refine aa (xB _ _) ?_;induction e<;>rfl
theorem Us(n:Nat)(B:xd):V.ok (n+5) B.v=true:=by refine(?_:(V.ok (n+4) (Zd B.la)&&(V.ok (n+1+3) B.en.v&&true))=true);refine aa (gm _ _) (aa (eJ _ _) ?_);rfl
theorem xr(n:Nat)(P:List xd):V.ok (n+6) (Mb P)=true:=Fg xd.v (n+5) (Us n) P
mutual
theorem V.Kk:∀{n:Nat}{v:V},V.ok n v=true->V.eqv v v=true
 |_,.none,_=>rfl
 |_,.bool b,_=>by cases b<;>rfl
 |_,.int i,_=>by refine(?_:decide (i=i)=true);simp
 |_,.wd w,_=>by refine(?_:decide (w=w)=true);simp
 |0,.Ba _,h=>by injection h
 |n+1,.Ba l,h=>V.tn (n:=n) h
 |0,.fl _,h=>by injection h
 |n+1,.fl l,h=>V.tn (n:=n) h
 |0,.gn _,h=>by injection h
 |_+1,.gn _,h=>by injection h
 |0,.ref _,h=>by injection h
 |_+1,.ref _,h=>by injection h
theorem V.tn:∀{n:Nat}{l:List V},V.zj n l=true->V.Hy l l=true
 |_,[],_=>rfl
 |n,x::xs,h=>by have h:(V.ok n x&&V.zj n xs)=true:=h;rw[Bool.and_eq_true]at h;refine(?_:(V.eqv x x&&V.Hy xs xs)=true);refine aa (V.Kk h.1) (aa (V.tn h.2) ?_);rfl
end
noncomputable def Ef:Sa->Bool
 | .Qg ..=>true
 |_=>false
noncomputable def bg(ps:List Nat)(hv:Bool)(P:List xd)(B:xd):Int:=match Jb ps hv P B with
 |some a=>a
 |none=> -1
noncomputable def Xu(a:List Sa):List Nat:=((Ji 0 a).filter fun p=>!Lg p.2).map (·.1)
theorem rz{c:Type}:∀(n:Nat)(l m:List c),Ji n (l++m)=Ji n l++Ji (n+l.length) m:=by
 intro n b;induction b generalizing n with
 |nil=>intro m;exact rfl
 |cons a l e=>intro m;refine(?_:(n,a)::Ji (n+1) (l++m)=(n,a)::(Ji (n+1) l++Ji (n+(l.length+1)) m));exact aa (e (n+1) m) (aa (show n+1+l.length=n+(l.length+1) by exact Nat.add_right_comm _ _ _) rfl)
theorem aC(b:List Sa):∀n,n≤b.length->(∀a:Nat,Yd b n=a->(Xu (b.take n)).getLast?=some a)∧(Yd b n<0->Xu (b.take n)=[]):=by
 intro c;induction c with
 |zero=>intro i;exact⟨fun a h=>by have:(-1:Int)=a:=h;lia,fun o=>by rfl⟩
 |succ n j=>
  intro i;refine Qa (fun l m=>?_)<|j (by exact Nat.le_of_lt (by assumption));obtain⟨r,f⟩:∃r,b[n]?=some r:=⟨_,List.getElem?_eq_getElem (by assumption)⟩;have e:Xu (b.take (n+1))=Xu (b.take n)++(if Lg r=true then []else [n]):=by refine aa List.take_add_one (aa f ?_);refine(?_:((Ji 0 (b.take n++[r])).filter _).map _=_);refine aa (rz _ _ _) (aa (List.filter_append _ _) (aa List.map_append (aa List.length_take (aa (Nat.min_eq_left (by exact Nat.le_of_lt (by assumption))) (aa (Nat.zero_add _) ?_)))));congr 1;refine(?_:(([(n,r)]:List (Nat×Sa)).filter fun p=>!Lg p.2).map (·.1)=_);cases g:Lg r<;>simp[g]
  refine aa e ?_;refine(?_:(∀a:Nat,(if(b[n]?.map Lg)=some true then Yd b n else(n:Int))=a->_)∧((if(b[n]?.map Lg)=some true then Yd b n else(n:Int))<0->_));refine aa f ?_;refine(?_:(∀a:Nat,(if some (Lg r)=some true then Yd b n else(n:Int))=a->_)∧((if some (Lg r)=some true then Yd b n else(n:Int))<0->_));cases g:Lg r with
  |true=>simp only[if_true,List.append_nil];exact⟨l,m⟩
  |false=>
   refine⟨fun a h=>?_,fun h=>?_⟩
   ·rw[if_neg (by exact Ub rfl)]at h;have:n=a:=by exact_mod_cast h
    refine Cb this ?_;simp
   ·rw[if_neg (by exact Ub rfl)]at h;lia
theorem Jy(h:l.getLast?=some y):uk l (-1)=some y:=by
 unfold uk;refine aa (if_neg (by exact Ub rfl)) ?_;rw[List.getLast?_eq_getElem?]at h;have b:0<l.length:=by
  induction l with
  |nil=>injection h
  |cons=>exact Nat.succ_pos _
 obtain⟨m,a⟩:∃m,l.length=m+1:=⟨_,(Nat.succ_pred_eq_of_pos b).symm⟩;rw[a]at h;refine aa a (aa (if_pos (show(-((m+1:Nat):Int))≤ -1 from Int.neg_le_neg (Int.ofNat_le.mpr (Nat.succ_le_succ (Nat.zero_le m))))) (aa (show(-1+((m+1:Nat):Int)).toNat=m by rw[Int.add_comm];exact congrArg Int.toNat (Int.add_sub_cancel (m:Int) 1)) ?_));exact h
theorem qb.aF{g:Type}{R:g->V->Prop}{c:E}{v:V}{as:List g}{S:Mem->Prop}(s:qb G k I U e v)(hv:∀Q:Ln->Prop,Q ⟨l,S⟩->kg U v Q)(p:g->Bool)(f:g->V)(m:ye R as (Aj 0 l))(u:S U)(n:as.length≤Ac)(hs:∀a x(K:zc->Prop),R a x->(∀I',Ng G k I' U c (p a)->qb G k I' U elt (f a)->K I')->Oh t x U I K):qb G k I U (.Jf true t (.fj e) c elt) (.fl ((as.filter p).map f)):=fun Q q=>by
 refine s _ (hv _ (Ej (fun a=>if p a=true then some (f a)else Option.none) u (fun a x K w i=>hs a x _ w fun I' hb j=>?_) m (by simpa using n) ?_))
 ·refine hb (fun b U=>if b=true then wb G k false elt I' U fun v U=>K (some v) U else K Option.none U) ?_;by_cases h:p a=true
  ·rw[if_pos h]at i ⊢;exact j _ i
  ·rw[if_neg h]at i ⊢;exact i
 ·refine aa (if_pos rfl) ?_;have:([]:List V)++as.filterMap (fun a=>if p a=true then some (f a)else Option.none)=(as.filter p).map f:=by
   refine aa (List.nil_append _) ?_;clear m n hs q;induction as with
   |nil=>rfl
   |cons a as o=>
    by_cases h:p a=true
    ·exact aa List.filterMap_cons (aa (if_pos h) (aa (List.filter_cons_of_pos h) (aa List.map_cons (Cb o rfl))))
    ·exact aa List.filterMap_cons (aa (if_neg h) (aa (List.filter_cons_of_neg h) (Cb o rfl)))
  refine aa this ?_;exact q
theorem EF(i:Sa):V.eqv i.more (.wd .f)=Ef i:=by induction i<;>rfl
theorem nA(i:Sa)(h:Ef i=true):i.op=.call:=by induction i<;>first|rfl|exact(Fc h).elim
noncomputable def Xd(l:List Int):V:=.fl (l.map V.int)
theorem ru(l:List Int)(n:Int):(l.map V.int).any (fun y=>V.eqv y (.int n))=decide (n∈l):=by
 induction l with
 |nil=>rfl
 |cons a l b=>
  refine aa List.map_cons (aa List.any_cons (aa b ?_));refine(?_:(decide (a=n)||decide (n∈l))=_);by_cases h:a=n
  ·subst h;simp
  ·simp[h,Ne.symm h]
theorem su(H:Sd G)(hj:Wm P)(hP:P.length≤100)(hB:P[j]?=some B)(h3:B.la.length≤100)(xa:∀i∈B.la,Ef i=true->Jh ps i=true)(T:∀t c,fe P P.length B.en=.Ib t->P[t]?=some c->c.la≠[])(za:∀o,fe P P.length B.en=.ic o->o.isSome=hv):qg G k .fh [Mb P,.int j,.bool hv] U (.int (bg ps hv P B)):=fun Q q=>by
 have Ld:∀n,n≤20000->n≤Ac:=fun n h=>bc h (by exact Pa rfl);have W:∀{I:zc}{e:E}{t:Nat}{c:xd},I 0=some (Mb P)->qb G k I U e (.int t)->P[t]?=some c->qb G k I U (.Ma (.var 0) e) c.v:=fun h he hC=>.Ma (.var h) he rfl (kc (by refine aa List.getElem?_map (aa hC ?_);rfl)) (by refine aa (sd _) ?_;exact Ld _ (by exact bc (by assumption) (Pa rfl)):(P.map xd.v).length≤Ac);refine H.call .fh rfl (qe (W rfl (.var rfl) hB) rfl ?_)
 (change let R:Prop:=_;R;intro R);refine Qa (fun Ea Ha=>?_)<|aC B.la B.la.length (tf _)
 rw[List.take_length]at Ea Ha;have Ra:∀(n:Nat)(l:List Sa),(Ji n l).length=l.length:=fun n l=>by
  induction l generalizing n with
  |nil=>rfl
  |cons a l ih=>refine(?_:(Ji (n+1) l).length+1=_);refine aa (ih _) ?_;rfl
 refine Gb (v:=Ee (Xu B.la)) (.as (.aF (R:=fun(p:Nat×Sa) x=>x=.Ba [.int p.1,p.2.v]) (.var rfl) Hq (fun p=>!Lg p.2) (fun p=>.int p.1) (jn Sa.v 0 B.la) trivial (by refine aa (Ra _ _) ?_;exact Ld _ (by exact bc (by assumption) (Pa rfl))) fun p x K hx hK=>by
  refine aa hx ?_;exact Oe rfl (hK _ (.as (.ta (.Ma (.var rfl) .int rfl rfl (wc rfl)) .str (.ne .wd)) (by exact Cb (DA _) rfl)) (.var rfl))) (by unfold Xu Ee;refine aa List.map_map ?_;rfl)) ?_
 have Sb:(Xu B.la).length≤100:=by refine aa (sd _) ?_;exact bc (List.length_filter_le _ _) (by refine aa (Ra _ _) ?_;exact h3)
 have Ta:∀l:List Nat,uh U .Eq (Ee l) (.fl []) l.isEmpty:=fun l=>.eqv (by refine(?_:V.zj 7 _=true);exact Fg _ 7 (fun w=>rfl) l) rfl (by induction l<;>rfl);by_cases h0:0≤Yd B.la B.la.length
 ·(change let R:Prop:=_;R;intro R);refine Aa (fun a ha=>?_)<|Int.eq_ofNat_of_zero_le h0
  have sa:=Ea a ha
  (change let R:Prop:=_;R;intro R);refine Qa (fun lb mb=>?_)<|Zn B.la _ (tf _) a ha
  obtain⟨r,hr⟩:∃r,B.la[a]?=some r:=⟨_,List.getElem?_eq_getElem lb⟩;have u:∀{I:zc},I 7=some (Ee (Xu B.la))->qb G k I U (.Ma (.var 7) (.int (-1))) (.int a):=fun h=>.Ma (.var h) .int rfl (Jy (by refine aa List.getLast?_map (aa sa ?_);rfl)) (by refine aa (sd _) ?_;exact Ld _ (by exact bc (by assumption) (Pa rfl)):((Xu B.la).map fun(n:Nat)=>V.int n).length≤Ac);have X:∀{I:zc},I 3=some (Zd B.la)->I 7=some (Ee (Xu B.la))->qb G k I U (.Ma (.var 3) (.Ma (.var 7) (.int (-1)))) r.v:=fun h h'=>.Ma (.var h) (u h') rfl (kc (by refine aa List.getElem?_map (aa hr ?_);rfl)) (by refine aa (sd _) ?_;exact Ld _ (by exact bc (by assumption) (Pa rfl)):(B.la.map Sa.v).length≤Ac);have Y:Qb ps B.la=if Ef r=true then(a:Int)else -1:=by
   unfold Qb;refine aa ha (aa hr ?_);refine(?_:(if some (Jh ps r)=some true then(a:Int)else -1)=_);induction hc:Ef r with
   |true=>refine aa (xa r (jr hr) hc) ?_;rfl
   |false=>
    have:Jh ps r=false:=by induction r<;>first|rfl|exact(Fc hc.symm).elim
    refine aa this ?_;rfl
  have ba:∀{I:zc},I 3=some (Zd B.la)->I 7=some (Ee (Xu B.la))->Ng G k I U (.or [(.ta .Eq (.var 7) (.xb true [])),(.ta .NotEq (.Ma (.Ma (.var 3) (.Ma (.var 7) (.int (-1)))) (.int 0)) (.str .call)),(.ta .NotEq (.Ma (.Ma (.var 3) (.Ma (.var 7) (.int (-1)))) (.int 3)) (.str .f))]) (!Ef r):=fun h h'=>by
   refine .as (.Ea (.ta (.var h') (.xb .nil) (Ta _)) fun w=>.Ea (.ta (.Ma (X h h') .int rfl rfl (wc rfl)) .str (.ne .wd)) fun w=>.Ea (.ta (.Ma (X h h') .int rfl rfl (wc rfl)) .str (.ne (.eqv (Ls 7 r) rfl (EF r)))) fun w=>.ud) ?_;refine aa (by induction e:Xu B.la with|nil=>rw[e]at sa;injection sa|cons=>rfl:(Xu B.la).isEmpty=false) ?_;induction hc:Ef r with
   |true=>refine aa (nA r hc) ?_;rfl
   |false=>simp
  induction hc:Ef r with
  |false=>
   rw[hc]at Y ba;have:bg ps hv P B = -1:=by unfold bg Jb;refine aa Y ?_;rfl
   rw[this]at q;exact gb (ba rfl rfl) rfl (Xa .int q)
  |true=>
   rw[hc]at Y ba;refine La (ba rfl rfl) rfl ?_;have ob:Jb ps hv P B=if fg hv P B a=true then some a else none:=by unfold Jb;exact aa Y (aa (if_pos (vo a)) (aa (Int.toNat_natCast _) rfl))
   have rb:bg ps hv P B=if fg hv P B a=true then(a:Int)else -1:=by unfold bg;refine aa ob ?_;induction fg hv P B a<;>rfl
   rw[rb]at q;rw[(by unfold fg;refine aa hr ?_;rfl:fg hv P B a=Wn hv ((B.la.drop (a+1)).foldl Dd (fun n=>decide (n=r.nc))) (fe P P.length B.en))]at q;generalize hF:fe P P.length B.en=ea at T za q
   refine Bn (fun n I=>I 0=some (Mb P)∧I 2=some (.bool hv)∧I 3=some (Zd B.la)∧I 7=some (Ee (Xu B.la))∧∃s,I 4=some s.v∧fe P n s=ea∧∀t,s=.Ib t->t<P.length) (n:=P.length)
    (vq rfl rfl rfl rfl (cc B.en rfl hF (hj B (jr hB)))) ?_
   (intro n I Ya;(refine Ut (fun l0 l2 l3 l7 A=>?_) Ya;clear Ya;refine Pb (fun s N fa sb=>?_) A;clear A))
   have D:s=ea->Ia G k ((we .fh).drop 4) I U (fun w U=>Q .none U) Q:=fun he=>by
    subst he;have ka:∀{j:Int}{y:V}{I:zc},I 4=some s.v->uk [V.wd s.op,Xl s.args,s.more] j=some y->qb G k I U (.Ma (.var 4) (.int j)) y:=fun h h'=>.Ma (.var h) .int rfl h' (wc rfl);by_cases hg:∃o,s=.ic o
    ·(change let R:Prop:=_;R;intro R);(refine Aa (fun o ua=>?_) hg;clear hg;subst ua)
     refine La (.ta (ka N rfl) .str (.ne .wd)) rfl (Gb (v:=Xd [r.nc]) (.xb (.cons (.Ma (X l3 l7) .int rfl rfl (wc rfl)) .nil)) ?_);have ab:∀i∈B.la.drop (a+1),Lg i=true:=fun i hi=>by
      refine Aa (fun x hx=>?_)<|List.getElem?_of_mem hi
      rw[List.getElem?_drop]at hx;refine ya (fun i' g1 g2=>?_)<|mb (a+1+x) (by exact pn _ _) (Ro hx).1
      rw[hx]at g1;refine aa (Bb g1) ?_;exact g2
     refine lh (.as (.wh (.var l3) (.Fd (u l7) .int .add) rfl (by exact Ub rfl) (by refine aa (sd _) ?_;exact Ld _ (by exact bc (by assumption) (Pa rfl)):(B.la.map Sa.v).length≤Ac)) (show _=Zd (B.la.drop (a+1)) by unfold Zd;exact aa (by rfl:((a:Int)+1).toNat=a+1) (aa List.map_drop rfl))) (xe (l:=(B.la.drop (a+1)).map Sa.v)) (fun is I=>I 2=some (.bool hv)∧I 4=some (En.ic o).v∧I 7=some (Ee (Xu B.la))∧(∀i∈is,Lg i=true)∧∃Ua:List Int,I 8=some (Xd Ua)∧Ua.length+is.length≤102∧∀n,is.foldl Dd (fun n=>decide (n∈Ua)) n=(B.la.drop (a+1)).foldl Dd (fun n=>decide (n=r.nc)) n) (ye.map Sa.v (B.la.drop (a+1)))
      (vq l2 N l7 ab (cc [r.nc] rfl ?_ (fun n=>?_))) trivial ?_ ?_
     ·refine aa List.length_drop ?_;exact bc (Nat.add_le_add_left (Nat.sub_le _ _) 1) (bc (Nat.add_le_add_left (by assumption) 1) (Pa rfl))
     ·have:(fun n:Int=>decide (n∈[r.nc]))=fun n=>decide (n=r.nc):=funext fun n=>by simp
      exact aa this rfl
     ·(intro i is x I K bb cb hK;rw[bb]at *;clear bb;(refine Ut (fun l2 N l7 eb A=>?_) cb;clear cb;refine Pb (fun Ua l8 fb hk=>?_) A;clear A))
      have yb:=eb i (.head _);simp only[List.length_cons]at fb;induction i with
      |cp f O=>
       have la:(Ua.map V.int).length≤Ac:=by refine aa (sd _) ?_;exact Ld _ (by exact bc (bc (pn _ _) (by assumption)) (Pa rfl))
       refine uo rfl ?_;generalize F:Ca (Ca (Ca (Ca (Ca I 9 _) 10 _) 11 _) 12 _) 13 _=I5;have m2:I5 2=some (.bool hv):=by refine Cb F ?_;exact l2
       have m4:I5 4=some (En.ic o).v:=by refine Cb F ?_;exact N
       have m7:I5 7=some (Ee (Xu B.la)):=by refine Cb F ?_;exact l7
       have m8:I5 8=some (Xd Ua):=by refine Cb F ?_;exact l8
       have pa:I5 10=some (.int (f:Nat)):=by refine Cb F ?_;rfl
       have wa:I5 11=some (Xl [O]):=by refine Cb F ?_;rfl
       refine Gb (v:=.bool (tc (fun n=>decide (n∈Ua)) O)) ?_ ?_
       ·induction O with
        |k m=>exact .as (.ua (r':=true) (.ta (.Ma (.Ma (.var wa) .int rfl rfl (wc rfl)) .int rfl rfl (wc rfl)) .str .wd) fun h=>nomatch h) rfl
        |r m=>exact .as (.ua (.ta (.Ma (.Ma (.var wa) .int rfl rfl (wc rfl)) .int rfl rfl (wc rfl)) .str .wd) fun w=>.VE (.ta (.Ma (.Ma (.var wa) .int rfl rfl (wc rfl)) .int rfl rfl (wc rfl)) (.var m8) (.DG rfl (Fg _ 8 (fun w=>rfl) Ua) (ru Ua m)))) (by rfl)
       generalize L:Ca I5 14 _=I6;replace m2:I6 2=some (.bool hv):=by refine Cb L ?_;exact m2
       replace m4:I6 4=some (En.ic o).v:=by refine Cb L ?_;exact m4
       replace m7:I6 7=some (Ee (Xu B.la)):=by refine Cb L ?_;exact m7
       replace m8:I6 8=some (Xd Ua):=by refine Cb L ?_;exact m8
       replace pa:I6 10=some (.int (f:Nat)):=by refine Cb L ?_;exact pa
       have Fb:=List.length_filter_le (fun z=>!decide (z=(f:Int))) Ua
       have e1:qb G k I6 U (.Jf true (.nm 15) (.seq (.var 8)) (.ta .NotEq (.var 15) (.var 10)) (.var 15)) (Xd (Ua.filter fun z=>!decide (z=(f:Int)))):=
        .Jf (R:=fun(z:Int) x=>x=.int z) (.var m8) xe (fun z=>!decide (z=(f:Int))) V.int (ye.map V.int Ua) trivial (by rw[sd]at la;exact la:Ua.length≤Ac) fun z x K' hx Hb=>by refine aa hx ?_;exact vb (Hb _ (.ta (.var rfl) (.var (show Ca I6 15 (.int z) 10=some (.int (f:Nat)) from pa)) (.ne .Ag)) (.var rfl))
       refine Gb (v:=Xd (Ua.filter (fun z=>!decide (z=(f:Int)))++(if tc (fun n=>decide (n∈Ua)) O=true then [(f:Int)]else []))) (.as (.Fd e1 ((.ite (.var (by refine Cb L ?_;rfl:I6 14=some (.bool (tc (fun n=>decide (n∈Ua)) O)))) (fun h=>by exact if_pos h▸.xb (.cons (.var pa) .nil)) fun h=>by refine aa (if_neg (by rw[h];decide)) ?_;exact .xb .nil):qb G k I6 U (.ite (.var 14) (.xb true [(.var 10)]) (.xb true [])) (Xd (if tc (fun n=>decide (n∈Ua)) O=true then [(f:Int)]else []))) (.rr rfl rfl (by refine aa (sd _) ?_;exact bc Fb (by rw[sd]at la;exact la:Ua.length≤Ac)) (by refine aa (sd _) ?_;split<;>exact wc rfl))) (by unfold Xd;exact aa List.map_append rfl)) (ja (hK _ (vq m2 m4 m7 (fun i hi=>eb i (.tail _ hi)) (cc _ rfl ?_ (fun n=>?_)))))
       ·refine aa List.length_append ?_;have h1:(if tc (fun n=>decide (n∈Ua)) O=true then [(f:Int)]else []).length≤1:=by split<;>simp
        exact bc (Nat.add_le_add_right (Nat.add_le_add (List.length_filter_le _ _) h1) _) (by rw[Nat.add_assoc,Nat.add_comm 1];assumption)
       ·refine Cb (hk n) (aa List.foldl_cons ?_);have Rb:(fun z:Int=>decide (z∈Ua.filter (fun z=>!decide (z=(f:Int)))++(if tc (fun n=>decide (n∈Ua)) O=true then [(f:Int)]else [])))=Dd (fun n=>decide (n∈Ua)) (.cp f O):=by
         funext z;refine(?_:_=if z=(f:Int)then tc (fun n=>decide (n∈Ua)) O else decide (z∈Ua));by_cases e:z=(f:Int)
         ·refine aa e ?_;induction tc (fun n=>decide (n∈Ua)) O<;>simp
         ·refine aa (if_neg e) ?_;simp[List.mem_append,(by split<;>simp[e]:z∉(if tc (fun n=>decide (n∈Ua)) O=true then [(f:Int)]else [])),e]
        exact aa Rb rfl
      |_=>exact(Fc yb).elim
     ·(intro I M;(refine Ut (fun l2 N l7 w A=>?_) M;clear M;refine Pb (fun Ua l8 fb hk=>?_) A;clear A))
      cases hv with
      |false=>exact La (.ua (r':=true) (.var l2) fun h=>nomatch h) rfl (Xa (u l7) q)
      |true=>
       (change let R:Prop:=_;R;intro R);(refine Aa (fun g ua=>?_)<|Option.isSome_iff_exists.mp (za o rfl);subst ua)
       have q:Q (.int (if((B.la.drop (a+1)).foldl Dd (fun n=>decide (n=r.nc)) g)=true then(a:Int)else -1)) U:=q;rw[← (((hk):∀n,decide (n∈Ua)=(B.la.drop (a+1)).foldl Dd (fun n=>decide (n=r.nc)) n) g)]at q;refine Ug (r:=!decide ((g:Int)∈Ua)) (.as (.ua (.var l2) fun w=>.ua (.Ea (.ta (.Ma (.Ma (ka N rfl) .int rfl rfl (wc rfl)) .int rfl rfl (wc rfl)) .str (.ne .wd)) fun w=>.Ea (.ta (.Ma (.Ma (ka N rfl) .int rfl rfl (wc rfl)) .int rfl rfl (wc rfl)) (.var l8) (.Ri (.DG rfl (Fg _ 8 (fun w=>rfl) Ua) (ru Ua g)))) fun w=>.ud) fun w=>.Od) (by simp)) (fun h=>Xa .int ?_) fun h=>ja (Xa (u l7) ?_)
       ·rw[if_neg (by simpa using h)]at q;exact q
       ·rw[if_pos (by simpa using h)]at q;exact q
    ·have kb:decide (s.op=.ic)=false∧∀K,Wn hv K s=false:=by
      cases s with
      |ic o=>exact absurd ⟨o,rfl⟩ hg
      |_=>exact⟨rfl,fun w=>rfl⟩
     rw[kb.2]at q;exact gb (.ta (ka N rfl) .str (.ne .wd)) (by refine aa kb.1 ?_;rfl) (Xa .int q)
   have ra:(∀t,s≠.Ib t)->∃b,Ng G k I U (.and [(.ta .Eq (.Ma (.var 4) (.int 0)) (.str .Ib)),(.ta .Eq (.Ma (.Ma (.var 0) (.Ma (.var 4) (.int 2))) (.int 0)) (.xb true []))]) b∧b=false∧s=ea:=fun h=>by
    refine(cc false ?_ rfl ?_)
    ·have:decide (s.op=.Ib)=false:=by cases s<;>first|rfl|exact absurd rfl (h _)
     exact .as (.ua (r':=true) (.ta (.Ma (.var N) .int rfl (show uk [V.wd s.op,Xl s.args,s.more] 0=_ from rfl) (wc rfl)) .str .wd) fun h'=>by rw[this]at h';exact nomatch h') (by refine aa this ?_;rfl)
    ·refine Cb fa ?_;cases n<;>cases s<;>first|rfl|exact absurd rfl (h _)
   cases s with
   |ic o=>
    (change let R:Prop:=_;R;intro R);(refine Pb (fun b hb M he=>?_)<|ra (fun t e=>by exact nomatch e);subst M)
    exact(cc false hb (fun w=>D he) (fun h=>nomatch h))
   |branch x y z=>
    (change let R:Prop:=_;R;intro R);(refine Pb (fun b hb M he=>?_)<|ra (fun t e=>by exact nomatch e);subst M)
    exact(cc false hb (fun w=>D he) (fun h=>nomatch h))
   |Ib t=>
    obtain⟨c,hC⟩:∃c,P[t]?=some c:=⟨_,List.getElem?_eq_getElem (sb t rfl)⟩;refine(cc c.la.isEmpty (.as (.ua (.ta (.Ma (.var N) .int rfl rfl (wc rfl)) .str .wd) fun w=>.ua (.ta (.Ma ((W l0 (.Ma (.var N) .int rfl rfl (wc rfl)) hC):qb G k I U (.Ma (.var 0) (.Ma (.var 4) (.int 2))) c.v) .int rfl rfl (wc rfl)) (.xb .nil) (.eqv (gm 4 c.la) rfl (show _=c.la.isEmpty by cases c.la<;>rfl))) fun w=>.Od) (by refine(?_:(true&&(_&&true))=_);simp)) (fun h=>D ?_) (fun h K hK=>?_))
    ·refine Cb fa ?_;cases n with
     |zero=>rfl
     |succ n=>refine(?_:_=(match P[t]? with|some B=>if B.la.isEmpty=true then fe P n B.en else .Ib t|none=>.Ib t));refine aa hC ?_;dsimp only;refine aa h ?_;rfl
    ·cases n with
     |zero=>have:En.Ib t=ea:=fa;exact absurd (by simpa using h) (T t c this.symm hC)
     |succ n=>refine Gb (.Ma ((W l0 (.Ma (.var N) .int rfl rfl (wc rfl)) hC):qb G k I U (.Ma (.var 0) (.Ma (.var 4) (.int 2))) c.v) .int rfl rfl (wc rfl)) (ja (hK n _ (Nat.lt_succ_self n) (vq l0 l2 l3 l7 (cc c.en rfl ?_ (hj c (jr hC))))));refine Cb fa ?_;refine(?_:_=(match P[t]? with|some B=>if B.la.isEmpty=true then fe P n B.en else .Ib t|none=>.Ib t));refine aa hC ?_;dsimp only;refine aa h ?_;rfl
 ·have hl:Yd B.la B.la.length<0:=by exact Int.not_le.mp (by assumption)
  have:bg ps hv P B = -1:=by unfold bg Jb;refine aa (show Qb ps B.la = -1 by unfold Qb;rw[if_neg h0]) ?_;rfl
  rw[this]at q;exact gb (.Ea (r:=true) (r':=true) (.as (.ta (.var rfl) (.xb .nil) (Ta _)) (by refine aa (Ha hl) ?_;rfl)) fun h=>nomatch h) rfl (Xa .int q)
noncomputable def Mk:Sa->Bool
 | .cp ..| .dr ..=>true
 |_=>false
theorem uw(H:Sd G){e c:List Sa}{o:En}{pl:Nat}(z:e.length≤1000)(A:c.length≤1000)(f:∀i∈e.drop pl,Mk i=true)(g:e.take pl=c.take pl):qg G k .gg [(xd.mk e (.Ib 0)).v,(xd.mk c o).v,.int pl] U (.bool true):=fun Q q=>by
 have Ld:∀n,n≤20000->n≤Ac:=fun n h=>bc h (by exact Pa rfl);have tk:∀l:List Sa,V.fl ((l.map Sa.v).take ((pl:Nat):Int).toNat)=Zd (l.take pl):=fun l=>by unfold Zd;exact aa (Int.toNat_natCast _) (aa List.map_take rfl)
 refine H.call .gg rfl (qe (.var rfl) rfl (La (.Ea (r:=false) (r':=false) (.as (.ta (.as (.gr (.var rfl) (.var rfl) rfl (vo pl) (by refine aa (sd _) ?_;exact Ld _ (by exact bc (by assumption) (Pa rfl)):(e.map Sa.v).length≤Ac)) (tk e)) (.as (.gr (.Ma (.var rfl) .int rfl rfl (wc rfl)) (.var rfl) rfl (vo pl) (by refine aa (sd _) ?_;exact Ld _ (by exact bc (by assumption) (Pa rfl)):(c.map Sa.v).length≤Ac)) (tk c)) (.ne (.eqv (gm 4 _) (gm 4 _) rfl))) ?_) fun p=>.as (.Ea (.ta (.var rfl) (.Ba (.cons .str (.cons (.xb .nil) (.cons .int .nil)))) (.ne (.eqv rfl rfl rfl))) fun p=>.ud) rfl) rfl ?_))
 ·refine aa g (aa (V.Kk (gm 4 _)) ?_);rfl
 have s:∀l:List Sa,Di (l.map fun i=>V.bool (Mk i))=some (l.map Mk):=fun l=>by
  induction l with
  |nil=>rfl
  |cons a l t=>refine(?_:(Di (l.map fun i=>V.bool (Mk i))).map (Mk a::·)=_);refine aa t ?_;rfl
 refine Xa (v:=.bool true) (.as (.all (.comp (R:=fun(i:Sa) x=>x=i.v) (as:=e.drop pl) (.as (.wh (.var rfl) (.var rfl) rfl (vo pl) (by refine aa (sd _) ?_;exact Ld _ (by exact bc (by assumption) (Pa rfl)):(e.map Sa.v).length≤Ac)) (show _=Zd (e.drop pl) by unfold Zd;exact aa (Int.toNat_natCast _) (aa List.map_drop rfl))) xe (fun i=>.bool (Mk i)) (ye.map Sa.v _) trivial (by exact List.length_drop▸Ld _ (by lia)) fun i x K m u=>?_) (s _) (by refine aa (sd _) (aa List.length_drop ?_);exact Ld _ (by lia))) ?_) q
 ·rw[m]at *;clear m;refine vb (qb.ta (.Ma (.var rfl) .int rfl rfl (wc rfl)) (.Ba (.cons .str (.cons .str .nil))) (.Lh rfl rfl ?_) _ u);induction i with
  |ar w _ _ _=>induction w<;>rfl
  |_=>rfl
 ·have:(((e.drop pl).map Mk).all id)=true:=by
   rewrite[List.all_eq_true];intro b hb
   (refine ya (fun i y j=>?_)<|List.mem_map.mp hb;refine Cb j ?_)
   exact f i y
  exact aa this rfl
abbrev FM:=Int->Option Int
noncomputable def Za(f:FM)(i v:Int):FM:=fun n=>if n=i then some v else f n
structure Fr where
 Ua:FM
 jc:Nat
 place:Nat
 Fb:Int
 je:Int
structure Nr where
 op:Wd
 jB:List Int
 val:Int
structure MS where
 mem:FM
 Ja:List (List Int)
 oa:List Nr
 Rb:Nat
 most:Nat
 Na:Fr
 stack:List Fr
noncomputable def jz(ps:List Nat)(ks:List Int):FM:=(((ps.map fun(n:Nat)=>(n:Int)).zip ks)).foldl (fun f p=>Za f p.1 p.2) (fun a=>none)
noncomputable def dc(f:FM):zb->Option Int
 | .r n=>f n
 | .k n=>some n
noncomputable def Ge(f:FM):List zb->Option (List Int)
 | []=>some []
 |o::os=>match dc f o,Ge f os with
  |some v,some vs=>some (v::vs)
  |_,_=>none
noncomputable def MS.Uc(s:MS)(a v:Int):MS:={s with Na:={s.Na with Ua:=Za s.Na.Ua a v,place:=s.Na.place+1}}
set_option genCtorIdx false in
inductive lz where
 |go (s:MS)|done (v:Int) (s:MS)
noncomputable def lz.ctorIdx(x:lz):Nat:=lz.casesOn (motive:=fun a=>Nat) x (fun a=>0) (fun a a=>1)
noncomputable def wJ(ks:List Int)(m:Option MS):Option MS:=match ks with| []=>m|_::_=>none
noncomputable def pH(ks:List Int)(m:Int->Option MS):Option MS:=match ks with| []=>none|k::r=>wJ r (m k)
noncomputable def MK(ks:List Int)(m:Int->Int->Option MS):Option MS:=match ks with| []=>none|k::r=>pH r (m k)
noncomputable def Pe(ps:List Nat)(s:MS)(i:Sa)(ks:List Int):Option MS:=match i with
 | .Qg c _=>if ks.length=ps.length then
  some {s with Rb:=s.Rb+1,most:=max s.most (s.stack.length+1+1),Na:=⟨jz ps ks,0,0,1000+8*((s.Rb:Int)+1),c⟩,stack:=s.stack++[{s.Na with place:=s.Na.place+1}]}else none
 | .Yh c _=>pH ks fun k=>some { (s.Uc c ((k*5+1)%4294967296))with Ja:=s.Ja++[[k]]}
 | .st _ _ f=>MK ks fun a x=>some {s with mem:=Za s.mem a x,oa:=if f=true then s.oa++[⟨.de,[a,x],x⟩]else s.oa,Na:={s.Na with place:=s.Na.place+1}}
 | .ld c _ f=>pH ks fun a=>(s.mem a).map fun v=>{ (s.Uc c v)with oa:=if f=true then s.oa++[⟨.load,[a],v⟩]else s.oa}
 | .slot=>wJ ks (some (s.Uc 5 s.Na.Fb))
 | .name=>wJ ks (some (s.Uc 4 500))
 | .cp c _=>pH ks fun k=>some (s.Uc c k)
 | .dr c _=>pH ks fun k=>some (s.Uc c k)
 | .ar e c _ _=>MK ks fun a b=>if e=.mul∧¬(-(2^62)<b∧b<2^62)then none else some (s.Uc c (Le e a b))
theorem Am{m:Option MS}{s:MS}(h:wJ ks m=some s):ks=[]∧m=some s:=by
 induction ks with
 |nil=>exact⟨rfl,h⟩
 |cons _ _=>injection h
theorem Uh{m:Int->Option MS}{s:MS}(h:pH ks m=some s):∃k,ks=[k]∧m k=some s:=by
 induction ks with
 |nil=>injection h
 |cons k r=>refine Qa (fun e h=>?_)<|Am (show wJ r (m k)=some s from h);exact(pb k (by exact aa e rfl) h)
theorem bp{m:Int->Int->Option MS}{s:MS}(h:MK ks m=some s):∃k l,ks=[k,l]∧m k l=some s:=by
 induction ks with
 |nil=>injection h
 |cons k r=>refine ya (fun l e h=>?_)<|Uh (show pH r (m k)=some s from h);exact(ej k l (by exact aa e rfl) h)
noncomputable def Ft(s:MS):En->Option lz
 | .Ib n=>some (.go {s with Na:={s.Na with jc:=n,place:=0}})
 | .branch r a b=>(s.Na.Ua r).map fun(v:Int)=>lz.go {s with Na:={s.Na with jc:=if v=0 then b else a,place:=0}}
 | .ic o=>(match(match o with|some r=>s.Na.Ua r|none=>some 0)with
  |none=>none
  |some v=>(match s.stack.getLast? with
   |none=>some (.done v s)
   |some f=>some (.go {s with Na:={f with Ua:=Za f.Ua s.Na.je v},stack:=s.stack.dropLast})))
noncomputable def cg(P:List xd)(ps:List Nat)(s:MS):Option lz:=match P[s.Na.jc]? with
 |none=>none
 |some B=>(match B.la[s.Na.place]? with
  |some i=>(match Ge s.Na.Ua i.args with
   |none=>none
   |some ks=>(Pe ps s i ks).map .go)
  |none=>Ft s B.en)
noncomputable def vv(P:List xd)(ps:List Nat):Nat->MS->Option (Int×MS)
 |0,_=>none
 |n+1,s=>(match cg P ps s with
  |none=>none
  |some (.go s')=>vv P ps n s'
  |some (.done v s')=>some (v,s'))
noncomputable def init(ps:List Nat)(a:List Int):MS:=⟨Za (fun b=>none) 500 9,[],[],1,1,⟨jz ps a,0,0,1000, -1⟩,[]⟩
noncomputable def Nr.v(t:Nr):V:=.Ba [.wd t.op,Xd t.jB,.int t.val]
noncomputable def lJ(v:Int)(s:MS):V:=.Ba [.Ba [.int v,.fl (s.Ja.map Xd),.fl (s.oa.map Nr.v)],.int s.most]
noncomputable def yf(U:Mem)(a:Addr)(f:FM)(n:Nat):Prop:=∃kvs,U a=some (.dict kvs)∧kvs.length≤n∧∀z,Bd kvs z=(f z).map V.int
theorem yf.za{f:FM}(h:yf U a f n)(e:n≤m):yf U a f m:=Pb (fun kvs b c g=>(cc kvs b (bc c e) g)) h
theorem yf.ne{b:Addr}{f:FM}(h:yf U a f n)(hb:b≠a)(x:Option MO):yf (Ga U b x) a f n:=Pb (fun kvs c e g=>(cc kvs (ia c hb.symm) e g)) h
theorem yf.list{b:Addr}{f:FM}(h:yf U a f n)(hb:U b=some (.list l)):b≠a:=ya (fun kvs c g=>Wa hb c (fun e=>by exact nomatch e)) h
theorem yf.set{f:FM}(h:yf U a f n)(g:U a=some (.dict kvs))(i v:Int):yf (Ga U a (some (.dict (Ue kvs i (.int v))))) a (Za f i v) (n+1):=by
 (refine Pb (fun c b l j=>?_) h;clear h)
 rw[g]at b;(replace b:=Bb b;cases b);refine(cc _ (da ..) (bc (Mm _ _ _) (by exact Nat.succ_le_succ (by assumption))) (fun z=>?_));rewrite[ai];unfold Za;by_cases e:z=i
 ·simp[e]
 ·simp[e,j]
noncomputable def Ye(U:Mem)(n:Nat):List Addr->List Fr->List V->Prop
 | [],[],[]=>True
 |h::hs,f::fs,v::vs=>(v=.Ba [.ref h,.int f.jc,.int f.place,.int f.Fb,.int f.je]∧yf U h f.Ua n)∧Ye U n hs fs vs
 |_,_,_=>False
theorem Ye.za:∀{hs:List Addr}{q:List Fr}{vs:List V},(∀h∈hs,∀f,yf U h f n->yf U' h f m)->Ye U n hs q vs->Ye U' m hs q vs:=by
 intro i;induction i with
 |nil=>
  intro c e k h;rcases c with _|⟨s,t⟩
  ·rcases e with _|⟨u,v⟩
   ·exact trivial
   ·exact h.elim
  ·exact h.elim
 |cons h w y=>
  intro c e k g;rcases c with _|⟨j,l⟩
  ·exact g.elim
  ·rcases e with _|⟨o,p⟩
   ·exact g.elim
   ·obtain⟨⟨a,b⟩,r⟩:=g;exact⟨⟨a,k h (.head _) _ b⟩,y (fun x z=>k x (.tail _ z)) r⟩
theorem Ye.AD{h:Addr}{f:Fr}:∀{hs:List Addr}{o:List Fr}{vs:List V},Ye U n hs o vs->yf U h f.Ua n->Ye U n (hs++[h]) (o++[f]) (vs++[.Ba [.ref h,.int f.jc,.int f.place,.int f.Fb,.int f.je]]):=by
 intro g;induction g with
 |nil=>
  intro c e h b;rcases c with _|⟨p,q⟩
  ·rcases e with _|⟨s,t⟩
   ·exact⟨⟨rfl,b⟩,trivial⟩
   ·exact h.elim
  ·exact h.elim
 |cons u v w=>
  intro c e h b;rcases c with _|⟨i,j⟩
  ·exact h.elim
  ·rcases e with _|⟨l,m⟩
   ·exact h.elim
   ·obtain⟨a,r⟩:=h;exact⟨a,w r b⟩
theorem Ye.Pd:∀{hs:List Addr}{e:List Fr}{vs:List V},Ye U n hs e vs->hs.length=e.length∧vs.length=e.length:=by
 intro c;induction c with
 |nil=>
  intro a b h;rcases a with _|⟨l,m⟩
  ·rcases b with _|⟨o,p⟩
   ·exact⟨rfl,rfl⟩
   ·exact h.elim
  ·exact h.elim
 |cons q s t=>
  intro a b h;rcases a with _|⟨f,g⟩
  ·exact h.elim
  ·rcases b with _|⟨i,j⟩
   ·exact h.elim
   ·obtain⟨_,r⟩:=h;have:=t r;simp[this.1,this.2]
theorem Ye.dD:∀{hs:List Addr}{o:List Fr}{vs:List V}{f:Fr},Ye U n hs o vs->o.getLast?=some f->∃j h,hs=j++[h]∧vs.getLast?=some (.Ba [.ref h,.int f.jc,.int f.place,.int f.Fb,.int f.je])∧yf U h f.Ua n∧Ye U n j o.dropLast vs.dropLast:=by
 intro i l;induction l generalizing i with
 |nil=>
  intro c f h e;rcases i with _|⟨p,q⟩
  ·rcases c with _|⟨s,t⟩
   ·injection e
   ·exact h.elim
  ·exact h.elim
 |cons g m u=>
  intro c f h e;rcases i with _|⟨h,hs⟩
  ·exact h.elim
  ·rcases m with _|⟨D,F⟩
   ·rcases c with _|⟨v,vs⟩
    ·exact h.elim
    ·obtain⟨⟨a,b⟩,r⟩:=h;simp at e;refine Cb e ?_;induction hs with
     |cons _ _=>exact r.elim
     |nil=>induction vs with
      |cons _ _=>exact r.elim
      |nil=>exact(Af [] h rfl (by refine aa a ?_;rfl) b trivial)
   ·rcases c with _|⟨v,vs⟩
    ·exact h.elim
    ·obtain⟨w,r⟩:=h;refine Ig (fun j h' x y z A=>?_)<|u r e;induction vs with
     |nil=>induction hs<;>exact r.elim
     |cons G B=>refine(Af (h::j) h' (by refine aa x ?_;rfl) (by exact y) z ?_);exact⟨w,A⟩
structure WA where
 M:Addr
 SE:Addr
 TO:Addr
 ST:Addr
 H:Addr
 hs:List Addr
structure WM(U0 U:Mem)(a:WA)(t:Nat)(mem:FM)(Ja:List (List Int))(oa:List Nr)(Na:FM)(stack:List Fr):Prop where
 sub:Sub U0 U
 m:yf U a.M mem (200+t)
 se:U a.SE=some (.list (Ja.map Xd))
 sl:Ja.length≤t
 to:U a.TO=some (.list (oa.map Nr.v))
 tl:oa.length≤t
 h:yf U a.H Na (200+t)
 st:∃vs,U a.ST=some (.list vs)∧Ye U (200+t) a.hs stack vs
 zD:stack.length≤t
 nd:(a.M::a.H::a.hs).Nodup
 l1:a.SE≠a.TO
 l2:a.SE≠a.ST
 l3:a.TO≠a.ST
 fr:U0 a.M=none∧U0 a.SE=none∧U0 a.TO=none∧U0 a.ST=none∧U0 a.H=none∧∀x∈a.hs,U0 x=none
section
variable{a:WA}{t:Nat}{mem:FM}{Ja:List (List Int)}{oa:List Nr}{Na:FM}{stack:List Fr}
theorem WM.PB(h:WM U0 U a t mem Ja oa Na stack):WM U0 U a (t+1) mem Ja oa Na stack:=
 {h with m:=h.m.za (by exact Nat.le_succ _),sl:=by have:=h.sl;exact Nat.le_succ_of_le (by assumption),tl:=by have:=h.tl;exact Nat.le_succ_of_le (by assumption),h:=h.h.za (by exact Nat.le_succ _),zD:=by have:=h.zD;exact Nat.le_succ_of_le (by assumption),st:=let⟨vs,e,f⟩:=h.st;(pb vs e (f.za fun c c c b=>b.za (by exact Nat.le_succ _)))}
theorem WM.mh(h:WM U0 U a t mem Ja oa Na stack):a.M≠a.H∧a.M∉a.hs∧a.H∉a.hs:=by have:=h.nd;simp only[List.nodup_cons,List.mem_cons,not_or]at this;exact(yc this.1.1 this.1.2 this.2.1)
theorem WM.HH(h:WM U0 U a t mem Ja oa Na stack)(g:U a.H=some (.dict kvs))(b v:Int):WM U0 (Ga U a.H (some (.dict (Ue kvs b (.int v))))) a (t+1) mem Ja oa (Za Na b v) stack:=by
 refine ya (fun vs c i=>?_) h.st;refine Nb (fun j p l=>?_) h.mh;have h':=h.PB
 exact{h' with sub:=h.sub.Ga h.fr.2.2.2.2.1 _,m:=h'.m.ne j.symm _,se:=ia h.se (h.h.list h.se),to:=ia h.to (h.h.list h.to),h:=h.h.set g b v,st:=(pb vs (ia c (h.h.list c)) (i.za fun x n f o=>(o.za (by exact Nat.le_succ _)).ne (fun e=>l (by exact e▸n)) _))}
theorem WM.ZI(h:WM U0 U a t mem Ja oa Na stack)(g:U a.H=some (.dict kvs))(l:kvs.length+1≤200+t)(b v:Int):WM U0 (Ga U a.H (some (.dict (Ue kvs b (.int v))))) a t mem Ja oa (Za Na b v) stack:=by
 refine ya (fun vs i n=>?_) h.st;refine Nb (fun o y p=>?_) h.mh;have q:yf U a.H Na kvs.length:=by refine Pb (fun j c z s=>?_) h.h;rw[g]at c;(replace c:=Bb c;cases c);exact(cc kvs g (tf _) s)
 exact{h with sub:=h.sub.Ga h.fr.2.2.2.2.1 _,m:=h.m.ne o.symm _,se:=ia h.se (h.h.list h.se),to:=ia h.to (h.h.list h.to),h:=(q.set g b v).za l,st:=(pb vs (ia i (h.h.list i)) (n.za fun x u f w=>w.ne (fun e=>p (by exact e▸u)) _))}
theorem WM.jI(h:WM U0 U a t mem Ja oa Na stack)(g:U a.M=some (.dict kvs))(b v:Int):WM U0 (Ga U a.M (some (.dict (Ue kvs b (.int v))))) a (t+1) (Za mem b v) Ja oa Na stack:=by
 refine ya (fun vs c i=>?_) h.st;refine Nb (fun j l p=>?_) h.mh;have h':=h.PB
 exact{h' with sub:=h.sub.Ga h.fr.1 _,m:=h.m.set g b v,se:=ia h.se (h.m.list h.se),to:=ia h.to (h.m.list h.to),h:=h'.h.ne j _,st:=(pb vs (ia c (h.m.list c)) (i.za fun x n f o=>(o.za (by exact Nat.le_succ _)).ne (fun e=>l (by exact e▸n)) _))}
theorem WM.XD(h:WM U0 U a t mem Ja oa Na stack)(x:List Int):WM U0 (Ga U a.SE (some (.list (Ja.map Xd++[Xd x])))) a (t+1) mem (Ja++[x]) oa Na stack:=by
 refine ya (fun vs c e=>?_) h.st;have h':=h.PB
 exact{h' with sub:=h.sub.Ga h.fr.2.1 _,m:=h'.m.ne (h.m.list h.se) _,se:=by refine aa (da _ _ _) (aa List.map_append ?_);rfl,sl:=by have:=h.sl;simp;assumption,to:=ia h.to h.l1.symm,h:=h'.h.ne (h.h.list h.se) _,st:=(pb vs (ia c h.l2.symm) (e.za fun x g f b=>(b.za (by exact Nat.le_succ _)).ne (b.list h.se) _))}
theorem WM.yJ(h:WM U0 U a t mem Ja oa Na stack)(x:Nr)(g:oa.length+1≤t):WM U0 (Ga U a.TO (some (.list (oa.map Nr.v++[x.v])))) a t mem Ja (oa++[x]) Na stack:=by
 refine ya (fun vs c e=>?_) h.st
 exact{h with sub:=h.sub.Ga h.fr.2.2.1 _,m:=h.m.ne (h.m.list h.to) _,se:=ia h.se h.l1,to:=by refine aa (da _ _ _) (aa List.map_append ?_);rfl,tl:=by simp;assumption,h:=h.h.ne (h.h.list h.to) _,st:=(pb vs (ia c h.l3.symm) (e.za fun x i f b=>b.ne (b.list h.to) _))}
theorem WM.push(h:WM U0 U a t mem Ja oa Na stack)(f:Fr)(W:f.Ua=Na)(hv:U a.ST=some (.list vs)){g:FM}(q:Ga U a.ST (some (.list (vs++[.Ba [.ref a.H,.int f.jc,.int f.place,.int f.Fb,.int f.je]]))) x=none)(hk:kvs.length≤200)(X:∀z,Bd kvs z=(g z).map V.int) : WM U0 (Ga (Ga U a.ST (some (.list (vs++[.Ba [.ref a.H,.int f.jc,.int f.place,.int f.Fb,.int f.je]])))) x (some (.dict kvs))) {a with H:=x,hs:=a.hs++[a.H]} (t+1) mem Ja oa g (stack++[f]):=by
 refine ya (fun Y D P=>?_) h.st;rw[hv]at D;(replace D:=Bb D;cases D);refine Nb (fun n1 n2 n3=>?_) h.mh;have j:x≠a.ST:=fun e=>by subst e;rw[da]at q;exact nomatch q
 have p:U x=none:=by rw[qa _ _ j]at q;exact q
 have s:∀{y:Addr}{m:MO},U y=some m->y≠x:=fun c e=>by subst e;rw[c]at p;exact nomatch p
 generalize G:V.Ba [.ref a.H,.int f.jc,.int f.place,.int f.Fb,.int f.je]=w at q ⊢
 have K:∀{y:Addr}{f:FM}{n:Nat},yf U y f n->yf (Ga (Ga U a.ST (some (.list (vs++[w])))) x (some (.dict kvs))) y f n:=fun b=>
  (b.ne (b.list hv) _).ne (fun e=>by(refine ya (fun kvs L u=>?_) b;clear b);exact s L e.symm) _
 have Q:∀{y:Addr}{l:List V},U y=some (.list l)->y≠a.ST->Ga (Ga U a.ST (some (.list (vs++[w])))) x (some (.dict kvs)) y=some (.list l):=fun c M=>ia (ia c M) (s c);have A:U0 x=none:=by
  induction e:U0 x with
  |none=>rfl
  |some m=>have:=h.sub _ _ e;rw[p]at this;exact nomatch this
 refine ya (fun kM eM u=>?_)<|id h.m
 refine ya (fun kH eH u=>?_)<|id h.h
 have N:∀{hs:List Addr}{F:List Fr}{vs:List V},Ye U (200+t) hs F vs->x∉hs:=fun{hs}=>by
  induction hs with
  |nil=>intro _ _ _ h;exact nomatch h
  |cons y hs ih=>
   intro F vs i O;induction F with
   |nil=>induction vs<;>exact i.elim
   |cons f F=>
    induction vs with
    |nil=>exact i.elim
    |cons v vs=>
     (refine Qa (fun B r=>?_) i;clear i;refine Qa (fun u o=>?_) B;clear B;refine ya (fun kv L u=>?_) o;clear o)
     rcases pg O with rfl|O
     ·exact s L rfl
     ·exact ih r O
 refine Qq (fun f1 f2 f3 R f5 f6=>?_) h.fr
 refine{sub:=(h.sub.Ga R _).Ga A _,m:=(K h.m).za (by exact Nat.le_succ _),se:=Q h.se h.l2,sl:=by have:=h.sl;exact Nat.le_succ_of_le (by assumption),to:=Q h.to h.l3,tl:=by have:=h.tl;exact Nat.le_succ_of_le (by assumption),h:=(cc kvs (da ..) (by exact bc (by assumption) (pn _ _)) X),st:=(pb (vs++[w]) (ia (da ..) j.symm) ?_),zD:=by have:=h.zD;simp;assumption,nd:=?_,l1:=h.l1,l2:=h.l2,l3:=h.l3,fr:=(xn f1 f2 f3 R A (fun y c=>?_))}
 ·refine Cb G ?_;refine Ye.AD (P.za fun y u f b=>?_) ?_
  ·refine aa G ?_;exact(K b).za (by exact Nat.le_succ _)
  ·refine aa G (aa W ?_);exact(K h.h).za (by exact Nat.le_succ _)
 ·simp only[List.nodup_cons,List.mem_cons,List.mem_append,List.not_mem_nil,or_false,not_or,List.nodup_append,List.nodup_nil,and_true,not_false_eq_true,true_and];have:=h.nd;simp only[List.nodup_cons,List.mem_cons,not_or]at this;refine(lg (yc (s eM) n2 n1) ⟨N P,fun e=>s eH e.symm⟩ this.2.2 (fun y c z T e=>?_));rw[T]at *;clear T;subst e;exact n3 c
 ·rcases List.mem_append.mp c with c|c
  ·exact f6 y c
  ·refine aa (Jd c) ?_;exact f5
theorem WM.Ez(h:WM U0 U a t mem Ja oa Na stack){f:Fr}(N:stack.getLast?=some f)(b v:Int):∃vs c x kvs,a.hs=c++[x]∧U a.ST=some (.list vs)∧vs.length≤t∧vs.getLast?=some (.Ba [.ref x,.int f.jc,.int f.place,.int f.Fb,.int f.je])∧x≠a.ST∧U x=some (.dict kvs)∧kvs.length≤200+t∧ WM U0 (Ga (Ga U a.ST (some (.list vs.dropLast))) x (some (.dict (Ue kvs b (.int v))))) {a with H:=x,hs:=c} (t+1) mem Ja oa (Za f.Ua b v) stack.dropLast:=by
 refine ya (fun vs j D=>?_) h.st;refine Ig (fun c x p O F P=>?_)<|D.dD N
 refine Pb (fun kvs g z Q=>?_)<|id F
 have nd:=h.nd;rw[p]at nd;simp only[List.nodup_cons,List.mem_cons,List.mem_append,List.not_mem_nil,or_false,not_or,List.nodup_append,List.nodup_nil,and_true,not_false_eq_true,true_and]at nd
 (refine nf (fun q s R T=>?_) nd;clear nd;refine Nb (fun n1 W G=>?_) q;clear q;refine Qa (fun n4 n5=>?_) s;clear s)
 refine Qq (fun X Y f3 K f5 A=>?_) h.fr;have u:x∉c:=fun hm=>T x hm x rfl rfl;have L:∀{y:Addr}{f:FM}{n:Nat},yf U y f n->y≠x->yf (Ga (Ga U a.ST (some (.list vs.dropLast))) x (some (.dict (Ue kvs b (.int v))))) y f n:=fun w i=>(w.ne (w.list j) _).ne i.symm _;have M:∀{y:Addr}{l:List V},U y=some (.list l)->y≠a.ST->Ga (Ga U a.ST (some (.list vs.dropLast))) x (some (.dict (Ue kvs b (.int v)))) y=some (.list l):=fun o i=>ia (ia o i) (Wa o g (fun e=>by exact nomatch e));refine(nB vs c x kvs p j (by exact((D.Pd).2)▸h.zD) O ((Wa g j (fun e=>by exact nomatch e)):x≠a.ST) g z ?_)
 refine{sub:=(h.sub.Ga K _).Ga (A x (by refine aa p ?_;simp)) _,m:=(L h.m G).za (by exact Nat.le_succ _),se:=M h.se h.l2,sl:=by have:=h.sl;exact Nat.le_succ_of_le (by assumption),to:=M h.to h.l3,tl:=by have:=h.tl;exact Nat.le_succ_of_le (by assumption),h:=?_,st:=(pb vs.dropLast (ia (da ..) ((Wa g j (fun e=>by exact nomatch e)):x≠a.ST).symm) (P.za fun y o f w=>(L w (fun e=>u (e▸o))).za (by exact Nat.le_succ _))),zD:=by have:=h.zD;refine aa List.length_dropLast ?_;omega,nd:=?_,l1:=h.l1,l2:=h.l2,l3:=h.l3,fr:=(xn X Y f3 K (A x (by refine aa p ?_;simp)) (fun y o=>A y (by refine aa p ?_;simp[o])))}
 ·have B:yf (Ga U a.ST (some (.list vs.dropLast))) x f.Ua (200+t):=F.ne ((Wa g j (fun e=>by exact nomatch e)):x≠a.ST).symm _;exact B.set (ia g ((Wa g j (fun e=>by exact nomatch e)):x≠a.ST)) b v
 ·simp only[List.nodup_cons,List.mem_cons,not_or];exact(yc ⟨G,W⟩ u R)
end
theorem Bo{f:FM}:∀{a:List zb}{ks:List Int},Ge f a=some ks->a.map (fun o=>V.int ((dc f o).getD 0))=ks.map V.int∧(∀o∈a,∃v,dc f o=some v)∧ks.length=a.length:=by
 intro c;induction c with
 |nil=>intro ks h;rw[← Bb h];exact⟨rfl,(fun m h=>nomatch h),rfl⟩
 |cons o a g=>
  intro ks h;replace h:(match dc f o,Ge f a with|some v,some vs=>some (v::vs)|_,_=>none)=some ks:=h;induction hv:dc f o with
  |none=>rw[hv]at h;exact nomatch h
  |some v=>
  induction b:Ge f a with
  |none=>rw[hv,b]at h;exact nomatch h
  |some vs=>
   rw[hv,b]at h;rw[← Bb h]
   (change let R:Prop:=_;R;intro R);refine Nb (fun i j l=>?_)<|g b
   refine⟨by refine aa List.map_cons (aa i (aa hv ?_));rfl,fun p e=>?_,by simp[l]⟩;rcases pg e with rfl|e
   ·exact⟨v,hv⟩
   ·exact j p e
theorem Bp:∀(ps:List Nat)(ks:List Int)(acc:List (Int×V))(f:FM),(∀z,Bd acc z=(f z).map V.int)->∀z,Bd ((((ps.map fun(n:Nat)=>(n:Int)).zip (ks.map V.int))).foldl (fun acc p=>Ue acc p.1 p.2) acc) z=(((((ps.map fun(n:Nat)=>(n:Int)).zip ks)).foldl (fun f p=>Za f p.1 p.2) f) z).map V.int:=by
 intro b;induction b with
 |nil=>intro a acc f h z;exact h z
 |cons p ps c=>
  intro a acc f h z;rcases a with _|⟨k,ks⟩
  ·exact h z
  ·exact c ks (Ue acc p (.int k)) (Za f p k) (fun z=>by
    rewrite[ai];unfold Za;by_cases e:z=(p:Int)
    ·simp[e]
    ·simp[e,h]) z
theorem Dq:∀(l:List (Int×V))(acc:List (Int×V)),(l.foldl (fun acc p=>Ue acc p.1 p.2) acc).length≤acc.length+l.length:=by
 intro a;induction a with
 |nil=>intro acc;exact tf _
 |cons p l b=>intro acc;have:=b (Ue acc p.1 p.2);have c:=Mm acc p.1 p.2;refine aa List.foldl_cons (aa List.length_cons ?_);lia
theorem zr{a b:E}{x:V}{ks:List V}{c:List Nat}(e:qb G k I U a x)(hb:qb G k I U b y)(f:lv U x=some ks)(g:lv U y=some vs)(h:jh ks=some c)(i:c.length≤1000∧vs.length=c.length)(q:Md U (.dict (Of ((c.map fun(n:Nat)=>(n:Int)).zip vs))) Q):wb G k false (.Th a b) I U Q:=by exact e _ (hb _ (Qw ks vs c f g h i q))
theorem qb.max{a b:E}{x y:Int}(c:qb G k I U a (.int x))(hb:qb G k I U b (.int y)):qb G k I U (.max a b) (.int (if x<y then y else x)):=fun Q q=>by exact c _ (hb _ (qf x y rfl rfl q))
structure WL(I:zc)(P:List xd)(ps:List Nat)(a:WA)(s:MS):Prop where
 l0:I 0=some (Mb P)
 l1:I 1=some (Ee ps)
 l3:I 3=some (.ref a.M)
 l4:I 4=some (.ref a.SE)
 l5:I 5=some (.ref a.TO)
 l6:I 6=some (.int s.Rb)
 l7:I 7=some (.int s.most)
 l8:I 8=some (.ref a.H)
 l9:I 9=some (.int s.Na.jc)
 WC:I 10=some (.int s.Na.place)
 fE:I 11=some (.int s.Na.Fb)
 QC:I 12=some (.int s.Na.je)
 TC:I 13=some (.ref a.ST)
noncomputable def mu:List S:=Sx ((we .pj).getD 5 .Nc)
noncomputable def Oi:List S:=match mu with
 | [_,.Pc _ b _]=>b
 |_=>[]
noncomputable def oE:List S:=match mu with
 | [_,.Pc _ _ b]=>b
 |_=>[]
abbrev oy (U0 U:Mem) (a:WA) (t:Nat) (s:MS):Prop:=WM U0 U a t s.mem s.Ja s.oa s.Na.Ua s.stack
structure RX(U0 U:Mem)(P:List xd)(ps:List Nat)(a:WA)(s:MS)(t:Nat)(i:Sa)(ks:List Int)(I:zc):Prop where
 W:oy U0 U a t s
 ht:t≤2000
 cn:ps.length≤100
 RL:ks.length≤100
 n0:I 0=some (Mb P)
 n1:I 1=some (Ee ps)
 n3:I 3=some (.ref a.M)
 n4:I 4=some (.ref a.SE)
 n5:I 5=some (.ref a.TO)
 n6:I 6=some (.int s.Rb)
 n7:I 7=some (.int s.most)
 n8:I 8=some (.ref a.H)
 n9:I 9=some (.int s.Na.jc)
 qJ:I 10=some (.int ((s.Na.place+1:Nat):Int))
 bK:I 11=some (.int s.Na.Fb)
 aL:I 12=some (.int s.Na.je)
 XJ:I 13=some (.ref a.ST)
 kI:I 17=some (.wd i.op)
 WJ:I 18=some (.int i.nc)
 JL:I 20=some i.more
 BK:I 21=some (.bool i.Fq)
 rH:I 24=some (Xd ks)
noncomputable def nv(U0:Mem)(P:List xd)(ps:List Nat)(t:Nat)(s':MS)(K:zc->Mem->Prop):Prop:=∀I' U' a,WL I' P ps a s'->oy U0 U' a (t+1) s'->K I' U'
section
variable{a:WA}{s s':MS}{t:Nat}{i:Sa}{K:zc->Mem->Prop}
theorem Ld(h:n≤20000):n≤Ac:=bc h (Pa rfl)
theorem RX.yE(X:RX U0 U P ps a s t i ks I){x:Int}(h:ks[j]?=some x):qb G (k+1) I U' (.Ma (.var 24) (.int j)) (.int x):=
 .Ma (.var X.rH) .int rfl (kc (by refine aa List.getElem?_map (aa h ?_);rfl)) (by refine aa (sd _) ?_;exact bc X.RL (Pa rfl))
theorem RX.cond(X:RX U0 U P ps a s t i ks I):Ng G (k+1) I U' (.and [(.ta .Eq (.var 17) (.str .call)),(.ta .Eq (.var 20) (.str .f))]) (Ef i):=by
 refine .as (.ua (.ta (.var X.kI) .str .wd) fun b=>.ua (.ta (.var X.JL) .str (.eqv (Ls 7 i) rfl (EF i))) fun b=>.Od) ?_;induction c:Ef i with
 |true=>refine aa (nA i c) ?_;rfl
 |false=>simp
theorem RX.op(X:RX U0 U P ps a s t i ks I){w:Wd}{r:Bool}(h:decide (i.op=w)=r):Ng G (k+1) I U' (.ta .Eq (.var 17) (.str w)) r:=h▸.ta (.var X.kI) .str .wd
theorem RX.wl(X:RX U0 U P ps a s t i ks I)(b:s'.Rb=s.Rb)(c:s'.most=s.most)(e:s'.Na.jc=s.Na.jc)(f:s'.Na.place=s.Na.place+1)(g:s'.Na.Fb=s.Na.Fb)(h:s'.Na.je=s.Na.je):WL I P ps a s':=
 ⟨X.n0,X.n1,X.n3,X.n4,X.n5,b▸X.n6,c▸X.n7,X.n8,e▸X.n9,f▸X.qJ,g▸X.bK,h▸X.aL,X.XJ⟩
noncomputable def uB:List S:=[.Pc (.var 21) [.expr (.append (.var 5) (.Ba [(.var 17),(.var 24),(.Ma (.var 3) (.Ma (.var 24) (.int 0)))]))] []]
theorem RX.stop(X:RX U0 U P ps a s t i ks I)(b:nv U0 P ps t s' K)(c:i.Fq=false)(e:oy U0 U' a (t+1) s')(f:WL I P ps a s'):Ia G (k+1) uB I U' K Kr:=
 La (.var X.BK) c (ja (b _ _ _ f e))
theorem RX.mI(X:RX U0 U P ps a s t i ks I)(e:i.Fq=true){s1:MS}(c:oy U0 U' a (t+1) s1)(tl:s1.oa.length≤t){x v:Int}{b:List (Int×V)}(f:ks[0]?=some x)(g:U' a.M=some (.dict b))(hv:Bd b x=some (.int v))(h:WL I P ps a {s1 with oa:=s1.oa++[⟨i.op,ks,v⟩]})(l:nv U0 P ps t {s1 with oa:=s1.oa++[⟨i.op,ks,v⟩]} K):Ia G (k+1) uB I U' K Kr:=by refine gb (.var X.BK) e (md (.var X.n5) (.Ba (.cons (.var X.kI) (.cons (.var X.rH) (.cons (.key (.var X.n3) (X.yE (j:=0) f) g hv) .nil)))) c.to (by refine aa (sd _) ?_;have:=c.tl;have:=X.ht;exact Ld (by lia)) (ja (ja (l _ _ _ h ?_))));exact c.yJ ⟨i.op,ks,v⟩ (Nat.succ_le_succ tl)
theorem RX.fG(X:RX U0 U P ps a s t i ks I){b v:Int}{K':zc->Mem->Prop}(f:i.nc=b)(g:qb G (k+1) I U e (.int v))(h:∀U',oy U0 U' a (t+1) (s.Uc b v)->K' I U'):Ia G (k+1) [.Ph (.var 8) (.var 18) e] I U K' Kr:=by refine Pb (fun kvs c j l=>?_) X.W.h;refine Xi g (.var X.n8) (.var X.WJ) c (Ld (by have:=X.ht;lia)) (ja ?_);refine aa f ?_;exact h _ (X.W.HH c b v)
theorem RX.jq(X:RX U0 U P ps a s t i ks I){c v:Int}{b:Bool}(j:Ef i=false)(l:decide (i.op=.call)=false)(m:decide (i.op=.de)=false)(n:decide (i.op=.load)=false)(h:i.nc=c)(o:i.Fq=false)(hb:([V.wd .slot,.wd .name].any (fun y=>V.eqv y (.wd i.op)))=b)(g:qb G (k+1) I U (if b=true then .ite (.ta .Eq (.var 17) (.str .slot)) (.var 11) (.Tj .Mt)else .ite (.ta .Eq (.Pd (.var 24)) (.int 1)) (.Ma (.var 24) (.int 0)) (.call .ui [(.var 17),(.Ma (.var 24) (.int 0)),(.Ma (.var 24) (.int 1))])) (.int v))(p:nv U0 P ps t (s.Uc c v) K):Ia G (k+1) (Oi.drop 3) I U K Kr:=by
 have f:∀U',oy U0 U' a (t+1) (s.Uc c v)->Ia G (k+1) [] I U' (fun I U=>Ia G (k+1) [] I U (fun I U=>Ia G (k+1) [] I U (fun I U=>Ia G (k+1) uB I U K Kr) Kr) Kr) Kr:=fun U' q=>ja (ja (ja (X.stop p o q (X.wl rfl rfl rfl rfl rfl rfl))));refine Ka X.cond j (Ka (X.op l) rfl (Ka (X.op m) rfl (Ka (X.op n) rfl (Ug (.ta (.var X.kI) (.Ba (.cons .str (.cons .str .nil))) (.Lh rfl rfl hb)) (fun e=>?_) fun e=>?_))))
 ·rw[if_pos e]at g;exact X.fG h g f
 ·rw[if_neg (by refine aa e ?_;decide)]at g;exact X.fG h g f
theorem gE{b:Int}{y:Nat}(X:RX U0 U P ps a s t (.Yh b y) ks I)(c:Pe ps s (.Yh b y) ks=some s')(i:nv U0 P ps t s' K):Ia G (k+1) (Oi.drop 3) I U K Kr:=by
 (refine ya (fun x g c=>?_)<|Uh c;subst g)
 rw[← Bb c]at i;have W:=X.W;refine Pb (fun kvs f h l=>?_) W.h;have m:=X.ht;refine Ka X.cond rfl (gb (X.op rfl) rfl (md (.var X.n4) (.var X.rH) W.se (by refine aa (sd _) ?_;have:=W.sl;exact Ld (by exact bc (by assumption) (bc (by assumption) (Pa rfl)))) ?_));refine Xi (.Fd (.Fd (.Fd (X.yE (j:=0) rfl) .int (fun n q=>.inl (Nm ⟨.inr ⟨by exact Ub rfl,by exact Ub rfl⟩,q⟩))) .int .add) .Tj (.mod (by exact Ub rfl))) (.var X.n8) (.var X.WJ) ((ia f (Wa f W.se (fun e=>by exact nomatch e))):Ga U a.SE (some (.list (s.Ja.map Xd++[Xd [x]]))) a.H=some (.dict kvs)) (Ld (by lia)) (ja (ja (X.stop i rfl ?_ (X.wl rfl rfl rfl rfl rfl rfl))));exact(W.XD [x]).ZI ((ia f (Wa f W.se (fun e=>by exact nomatch e))):Ga U a.SE (some (.list (s.Ja.map Xd++[Xd [x]]))) a.H=some (.dict kvs)) (Nat.succ_le_succ h) b ((x*5+1)%4294967296)
theorem UG{y z:Nat}{f:Bool}(X:RX U0 U P ps a s t (.st y z f) ks I)(b:Pe ps s (.st y z f) ks=some s')(e:nv U0 P ps t s' K):Ia G (k+1) (Oi.drop 3) I U K Kr:=by
 (refine pd (fun c g h b=>?_)<|bp b;subst h)
 rw[← Bb b]at e;refine Pb (fun l i m n=>?_) X.W.m;have o:=X.ht;refine Ka X.cond rfl (Ka (X.op rfl) rfl (gb (X.op rfl) rfl (Xi (X.yE (j:=1) rfl) (.var X.n3) (X.yE (j:=0) rfl) i (Ld (by lia)) (ja (ja (ja ?_))))));induction f with
 |false=>exact X.stop e rfl (X.W.jI i c g) (X.wl rfl rfl rfl rfl rfl rfl)
 |true=>exact X.mI rfl (s1:={s with mem:=Za s.mem c g,Na:={s.Na with place:=s.Na.place+1}}) (X.W.jI i c g) X.W.tl (x:=c) rfl (da ..) (by(rewrite[ai];exact aa (if_pos rfl) rfl)) (X.wl rfl rfl rfl rfl rfl rfl) e
theorem uG{b y:Nat}{f:Bool}(X:RX U0 U P ps a s t (.ld b y f) ks I)(c:Pe ps s (.ld b y f) ks=some s')(h:nv U0 P ps t s' K):Ia G (k+1) (Oi.drop 3) I U K Kr:=by
 (refine ya (fun x i c=>?_)<|Uh c;subst i)
 have c:(s.mem x).map (fun v=>{ (s.Uc b v)with oa:=if f=true then s.oa++[⟨.load,[x],v⟩]else s.oa})=some s':=c;rw[Option.map_eq_some_iff]at c;refine ya (fun v hv l=>?_) c;rw[← l]at h;have W:=X.W;refine Pb (fun kvs m o p=>?_) W.h;refine Pb (fun e n q g=>?_) W.m;have u:=X.ht;refine Ka X.cond rfl (Ka (X.op rfl) rfl (Ka (X.op rfl) rfl (gb (X.op rfl) rfl (Xi (.key (.var X.n3) (X.yE (j:=0) rfl) n (by refine aa (g _) (aa hv ?_);rfl:Bd e x=some (.int v))) (.var X.n8) (.var X.WJ) m (Ld (by lia)) (ja (ja (ja (ja ?_))))))));induction f with
 |false=>exact X.stop h rfl (W.HH m b v) (X.wl rfl rfl rfl rfl rfl rfl)
 |true=>exact X.mI rfl (s1:=s.Uc b v) (W.HH m b v) W.tl (x:=x) rfl (ia n W.mh.1) (by refine aa (g _) (aa hv ?_);rfl:Bd e x=some (.int v)) (X.wl rfl rfl rfl rfl rfl rfl) h
theorem xE(H:Sd G){b:Int}{o:List zb}(X:RX U0 U P ps a s t (.Qg b o) ks I)(c:Pe ps s (.Qg b o) ks=some s')(p:nv U0 P ps t s' K):Ia G (k+1) (Oi.drop 3) I U K Kr:=by
 have c:(if ks.length=ps.length then
  some {s with Rb:=s.Rb+1,most:=max s.most (s.stack.length+1+1),Na:=⟨jz ps ks,0,0,1000+8*((s.Rb:Int)+1),b⟩,stack:=s.stack++[{s.Na with place:=s.Na.place+1}]}else none)=some s':=c
 by_cases h:ks.length=ps.length
 case neg=>rw[if_neg h]at c;exact nomatch c
 rw[if_pos h]at c;rw[← Bb c]at p;have A:=X.ht
 (change let R:Prop:=_;R;intro R);refine ya (fun vs q l=>?_) X.W.st
 have m:=l.Pd.2;have u:=X.W.zD;refine gb X.cond rfl (md (.var X.XJ) (.Ba (.cons (.var X.n8) (.cons (.var X.n9) (.cons (.var X.qJ) (.cons (.var X.bK) (.cons (.var X.aL) .nil)))))) q (Ld (by lia)) ?_);have j:∀{y:V},qb G (k+1) I (Ga U a.ST (some (.list (vs++[y])))) (.Pd (.var 13)) (.int (s.stack.length+1:Nat)):=fun{y}=>.as (.Pd (.var X.XJ) (zg (da ..)) (by refine aa List.length_append (aa List.length_singleton ?_);exact Ld (by lia))) (by exact aa List.length_append (aa List.length_singleton (aa m rfl)));refine qe (x:=.int ((s.Rb+1:Nat):Int)) (y:=.int ((max s.most (s.stack.length+1+1):Nat):Int)) (.Ba (.cons (.as (.Fd (.var X.n6) .int .add) (by refine aa (Int.natCast_add _ _) ?_;rfl)) (.cons (.as (.max (.var X.n7) (.Fd j .int .add)) ?_) .nil))) rfl ?_
 ·congr 1;by_cases e:(s.most:Int)<((s.stack.length+1:Nat):Int)+1
  ·refine aa (if_pos e) ?_;lia
  ·refine aa (if_neg e) ?_;lia
 refine Ob ?_;refine zr (.var X.n1) (.var X.rH) rfl rfl (Ek ps) ⟨bc X.cn (Pa rfl),by refine aa (sd _) ?_;exact h⟩ fun x v=>?_;refine Ff.cons (I:=Ca (Ca I 6 (.int ((s.Rb+1:Nat):Int))) 7 (.int ((max s.most (s.stack.length+1+1):Nat):Int))) .int (.cons .int (.cons (.Fd .int (.Fd .int (.var (i:=6) rfl) (vp.mul (x:=8) ⟨by exact Ub rfl,by exact Ub rfl⟩)) .add) (.cons (.var (i:=18) X.WJ) .nil))) _ ?_;refine uo rfl ?_;have w:=X.W.push (f:={s.Na with place:=s.Na.place+1}) rfl q v (kvs:=Of ((ps.map fun(n:Nat)=>(n:Int)).zip (ks.map V.int))) (g:=jz ps ks) (by
  have:=Dq ((ps.map fun(n:Nat)=>(n:Int)).zip (ks.map V.int)) [];rw[List.length_nil,Nat.zero_add]at this;refine bc this ?_;refine aa List.length_zip (aa (sd _) ?_);exact bc (Nat.min_le_left ..) (bc X.cn (Pa rfl))) (Bp ps ks [] (fun B=>none) (fun z=>rfl))
 refine ja (La (.var (show Ca (Ca (Ca (Ca (Ca (Ca (Ca I 6 _) 7 _) 8 _) 9 _) 10 _) 11 _) 12 _ 21=some (.bool false) from X.BK)) rfl (ja (p _ _ {a with H:=x,hs:=a.hs++[a.H]} ⟨X.n0,X.n1,X.n3,X.n4,X.n5,rfl,rfl,rfl,rfl,rfl,?_,rfl,X.XJ⟩ w)));rfl
theorem JE(H:Sd G)(X:RX U0 U P ps a s t i ks I)(e:Pe ps s i ks=some s')(l:nv U0 P ps t s' K):Ia G (k+1) (Oi.drop 3) I U K Kr:=by
 induction i with
 |name=>
  refine Qa (fun p e=>?_)<|Am e
  rw[← Bb e]at l;exact X.jq rfl rfl rfl rfl rfl rfl rfl (.ite (r:=false) (X.op rfl) (fun h=>nomatch h) fun p=>.Tj) l
 |slot=>
  refine Qa (fun p e=>?_)<|Am e
  rw[← Bb e]at l;exact X.jq rfl rfl rfl rfl rfl rfl rfl (.ite (r:=true) (X.op rfl) (fun p=>.var X.bK) fun h=>nomatch h) l
 |cp c o=>
  (refine ya (fun x n e=>?_)<|Uh e;subst n)
  rw[← Bb e]at l;exact X.jq rfl rfl rfl rfl rfl rfl rfl (.ite (r:=true) (.ta (.Pd (.var X.rH) rfl (wc rfl)) .int .Ag) (fun p=>X.yE (j:=0) rfl) fun h=>nomatch h) l
 |dr c o=>
  (refine ya (fun x n e=>?_)<|Uh e;subst n)
  rw[← Bb e]at l;exact X.jq rfl rfl rfl rfl rfl rfl rfl (.ite (r:=true) (.ta (.Pd (.var X.rH) rfl (wc rfl)) .int .Ag) (fun p=>X.yE (j:=0) rfl) fun h=>nomatch h) l
 |ar g c y z=>
  (refine pd (fun B q u e=>?_)<|bp e;subst u)
  have e:(if g=.mul∧¬(-(2^62)<q∧q<2^62)then none else some (s.Uc c (Le g B q)))=some s':=e;by_cases m:g=.mul∧¬(-(2^62)<q∧q<2^62)
  case pos=>rw[if_pos m]at e;exact nomatch e
  rw[if_neg m]at e;rw[← Bb e]at l;have A:∀{w:Wd},(∀g:Ar,decide ((Sa.ar g c y z).op=w)=false)->decide ((Sa.ar g c y z).op=w)=false:=fun h=>h g;refine X.jq (b:=false) rfl (A fun g=>by induction g<;>rfl) (A fun g=>by induction g<;>rfl) (A fun g=>by induction g<;>rfl) rfl rfl ((show ∀g:Ar,([V.wd .slot,.wd .name].any (fun v=>V.eqv v (.wd (Sa.ar g c y z).op)))=false from fun g=>by induction g<;>rfl) g) ?_ l;exact .ite (r:=false) (.ta (.Pd (.var X.rH) rfl (wc rfl)) .int .Ag) (fun h=>nomatch h) fun p=>.call (.cons (.var X.kI) (.cons (X.yE (j:=0) rfl) (.cons (X.yE (j:=1) rfl) .nil))) (pC H g fun h=>Decidable.not_not.mp fun h'=>m ⟨h,h'⟩)
 |Yh c y=>exact gE X e l
 |st y z f=>exact UG X e l
 |ld c y f=>exact uG X e l
 |Qg c D=>exact xE H X e l
end
noncomputable def iE:E:=match Oi.getD 2 .Nc with
 | .Wc _ e=>e
 |_=>.none
theorem Zv{a:WA}{s:MS}{t:Nat}{i:Sa}(c:I 19=some (Xl i.args))(j:I 8=some (.ref a.H))(W:oy U0 U a t s)(l:Ge s.Na.Ua i.args=some ks)(e:i.args.length≤100):qb G (k+1) I U iE (Xd ks):=by
 refine Nb (fun m p A=>?_)<|Bo l
 refine Pb (fun kvs q u f=>?_) W.h;refine .as (.comp (R:=fun(o:zb) x=>x=o.v∧o∈i.args) (.var c) xe (fun o=>.int ((dc s.Na.Ua o).getD 0)) (ye.Vx zb.v i.args) trivial (Ld (bc e (Pa rfl))) fun o x K' w b=>?_) (by refine aa m ?_;rfl);refine Qa (fun g y=>?_) w;refine aa g ?_;refine Aa (fun v hv=>?_)<|p o y
 rw[hv]at b;induction o with
 |k n=>rw[← Bb hv]at b;exact Oe rfl (qb.ite (r:=false) (.ta (.var rfl) .str .wd) (fun h=>nomatch h) (fun z=>.var rfl) _ b)
 |r n=>exact Oe rfl (qb.ite (r:=true) (.ta (.var rfl) .str .wd) (fun z=>.key (.var (show Ca (Ca I 22 (.wd .r)) 23 (.int (n:Nat)) 8=some (.ref a.H) from j)) (.var rfl) q (by refine aa (f _) ?_;refine(?_:((s.Na.Ua n).map V.int)=_);refine aa (show s.Na.Ua n=some v from hv) ?_;rfl)) (fun h=>nomatch h) _ b)
theorem QB(H:Sd G)(j:ps.length≤100){a:WA}{s s':MS}{t:Nat}(l:t≤2000)(W:oy U0 U a t s){i:Sa}(g:Ge s.Na.Ua i.args=some ks)(b:i.args.length≤100)(c:Pe ps s i ks=some s')(L:WL I P ps a s)(e:I 15=some (Zd B.la))(m:B.la[s.Na.place]?=some i)(f:B.la.length≤1000){K:zc->Mem->Prop}(n:∀I' U' h,WL I' P ps h s'->oy U0 U' h (t+1) s'->K I' U'):Ia G (k+1) Oi I U K Kr:=by
 refine Nb (fun p q o=>?_)<|Bo g
 refine wx (.Ma (.var e) (.var L.WC) rfl (kc (by refine aa List.getElem?_map (aa m ?_);rfl)) (by refine aa (sd _) ?_;exact Ld (bc f (Pa rfl)))) (uo rfl ?_);refine Gb (.Fd (.var (show(Ca (Ca (Ca (Ca (Ca I 17 _) 18 _) 19 _) 20 _) 21 _) 10=some (.int s.Na.place) from L.WC)) .int .add) ?_;refine Gb (Zv (a:=a) (t:=t) rfl L.l8 W g b) ?_;exact JE H ⟨W,l,j,o▸b,L.l0,L.l1,L.l3,L.l4,L.l5,L.l6,L.l7,L.l8,L.l9,rfl,L.fE,L.QC,L.TC,rfl,rfl,rfl,rfl,rfl⟩ c n
theorem GB{a:WA}{s:MS}{t:Nat}(ht:t≤2000)(W:oy U0 U a t s){l:En}{m:lz}(g:Ft s l=some m)(L:WL I P ps a s)(b:I 16=some l.v){K:zc->Mem->Prop}(z:∀s',m=.go s'->∀I' U' N,WL I' P ps N s'->oy U0 U' N (t+1) s'->K I' U')(Q:∀v,m=.done v s->∀U',Sub U0 U'->Kr (lJ v s) U'):Ia G k oE I U K Kr:=by
 have Ld:∀n,n≤20000->n≤Ac:=fun n h=>bc h (by exact Pa rfl)
 (change let R:Prop:=_;R;intro R);refine Pb (fun kvs T X A=>?_)<|id W.h
 (change let R:Prop:=_;R;intro R);refine ya (fun vs q B=>?_)<|id W.st
 have c:∀{j:Int}{y:V}{I:zc}{U:Mem},I 16=some l.v->uk [V.wd l.op,Xl l.args,l.more] j=some y->qb G k I U (.Ma (.var 16) (.int j)) y:=fun h h'=>.Ma (.var h) .int rfl h' (wc rfl);have i:∀{r:Nat}{v:Int}{I:zc}{e:E},s.Na.Ua r=some v->I 8=some (.ref a.H)->qb G k I U e (.int r)->qb G k I U (.Ma (.var 8) e) (.int v):=fun hv h Y=>.key (.var h) Y T (by refine aa (A _) (aa hv ?_);rfl);induction l with
 |Ib n=>
  (replace g:=(Bb g).symm;subst g)
  refine gb (.ta (c b rfl) .str .wd) rfl (qe (.Ba (.cons (c b rfl) (.cons .int .nil))) rfl (ja (ja (z _ rfl _ _ a ⟨L.l0,L.l1,L.l3,L.l4,L.l5,L.l6,L.l7,L.l8,rfl,rfl,L.fE,L.QC,L.TC⟩ W.PB))))
 |branch r x y=>
  have g:(s.Na.Ua r).map (fun(v:Int)=>lz.go {s with Na:={s.Na with jc:=if v=0 then y else x,place:=0}})=some m:=g;rw[Option.map_eq_some_iff]at g
  (change let R:Prop:=_;R;intro R);(refine ya (fun v hv D=>?_) g;clear g;subst D)
  refine Ka (.ta (c b rfl) .str .wd) rfl (gb (.ta (c b rfl) .str .wd) rfl (qe (x:=.int ((if v=0 then y else x:Nat):Int)) (y:=.int 0) (.Ba (.cons (.ite (.ta (i hv L.l8 (.Ma (.Ma (c b rfl) .int rfl rfl (wc rfl)) .int rfl rfl (wc rfl))) .int (.ne .Ag)) (fun h=>?_) fun h=>?_) (.cons .int .nil))) rfl (ja (ja (ja (z _ rfl _ _ a ⟨L.l0,L.l1,L.l3,L.l4,L.l5,L.l6,L.l7,L.l8,rfl,rfl,L.fE,L.QC,L.TC⟩ W.PB))))))
  ·refine aa (if_neg (by simpa using h)) ?_;exact .Ma (c b rfl) .int rfl rfl (wc rfl)
  ·refine aa (if_pos (by simpa using h)) ?_;exact .Ma (c b rfl) .int rfl rfl (wc rfl)
 |ic o=>
  obtain⟨v,hv,g⟩:∃v,(match o with|some r=>s.Na.Ua r|none=>some 0)=some v∧(match s.stack.getLast? with|none=>some (.done v s)|some f=>some (.go {s with Na:={f with Ua:=Za f.Ua s.Na.je v},stack:=s.stack.dropLast}))=some m:=by
   have g:(match(match o with|some r=>s.Na.Ua r|none=>some 0)with
    |none=>none
    |some v=>(match s.stack.getLast? with
     |none=>some (.done v s)
     |some f=>some (.go {s with Na:={f with Ua:=Za f.Ua s.Na.je v},stack:=s.stack.dropLast})))=some m:=g
   split at g
   ·exact nomatch g
   ·rename_i v hv;exact(pb v hv g)
  refine Ka (.ta (c b rfl) .str .wd) rfl (Ka (.ta (c b rfl) .str .wd) rfl (Gb (v:=.int v) ?_ ?_))
  ·induction o with
   |none=>refine Cb (Bb hv) ?_;exact .ite (r:=false) (.ta (c b rfl) (.xb .nil) (.ne (.eqv rfl rfl rfl))) (fun h=>nomatch h) fun ζ=>.int
   |some r=>exact .ite (r:=true) (.ta (c b rfl) (.xb .nil) (.ne (.eqv rfl rfl rfl))) (fun ζ=>i hv L.l8 (.Ma (.Ma (c b rfl) .int rfl rfl (wc rfl)) .int rfl rfl (wc rfl))) fun h=>nomatch h
  have m7:Ca I 25 (.int v) 7=some (.int s.most):=L.l7;have p:=B.Pd.2;induction u:s.stack.getLast? with
  |none=>
   rw[u]at g
   (replace g:=(Bb g).symm;subst g)
   have F:vs=[]:=by rw[((List.getLast?_eq_none_iff.mp u):s.stack=[])]at p;exact List.length_eq_zero_iff.mp p
   subst F;refine gb (.ta (.var ((L.TC):Ca I 25 (.int v) 13=some (.ref a.ST))) (.xb .nil) (.nil q)) rfl (Oj ?_);refine aa ax (aa xi (aa ax ?_));refine qb.var (show Ca I 25 (.int v) 25=some (.int v) from rfl) _ ?_;refine mq (.var ((L.l4):Ca I 25 (.int v) 4=some (.ref a.SE))) W.se ?_;refine mq (.var ((L.l5):Ca I 25 (.int v) 5=some (.ref a.TO))) (ia W.to W.l1.symm) ?_;refine Ff.nil _ ?_;refine Ff.cons (.var m7) .nil _ ?_;exact Q v rfl _ ((W.sub.Ga W.fr.2.1 _).Ga W.fr.2.2.1 _)
  |some f=>
   rw[u]at g
   (replace g:=(Bb g).symm;subst g)
   (change let R:Prop:=_;R;intro R);refine tH (fun ba M x ea e1 w e3 O e5 e6 e7 W'=>?_)<|W.Ez u s.Na.je v
   rw[q]at w;(replace w:=Bb w;cases w);refine La (.ta (.var ((L.TC):Ca I 25 (.int v) 13=some (.ref a.ST))) (.xb .nil) (.nil q)) (by induction vs with|nil=>injection O|cons=>rfl:vs.isEmpty=false) (Gb (.var (show Ca I 25 (.int v) 12=some (.int s.Na.je) from L.QC)) (Ob (rC (.var (show Ca (Ca I 25 (.int v)) 18 (.int s.Na.je) 13=some (.ref a.ST) from L.TC)) q O (Ld _ (by exact bc (by assumption) (bc (by assumption) (Pa rfl)))) (uo rfl ?_))));refine Xi (.var (v:=.int v) rfl) (.var (v:=.ref x) rfl) (.var (v:=.int s.Na.je) rfl) (ia e6 e5) (Ld _ (by lia)) (ja (ja (ja (z _ rfl _ _ {a with H:=x,hs:=M} ⟨L.l0,L.l1,L.l3,L.l4,L.l5,L.l6,L.l7,rfl,rfl,rfl,rfl,rfl,L.TC⟩ W'))))
theorem iC(H:Sd G){T:List Int}(cn:ps.length≤100)(ha:T.length=ps.length)(hP:P.length≤100)(hr:∀B∈P,B.la.length≤1000∧∀i∈B.la,i.args.length≤100){v:Int}{s:MS}(ba:vv P ps 2000 (init ps T)=some (v,s)) : rm G (k+1) .pj [Mb P,Ee ps,Xd T] U (lJ v s):=fun Q q=>by
 have Ld:∀n,n≤20000->n≤Ac:=fun n h=>bc h (by exact Pa rfl);refine H.call .pj rfl (Vf (o:=.dict (Of [(500,.int 9)])) (fun Q q=>yq (.cons .Tj (.cons .int .nil)) rfl q) fun M hM=>Ob ?_);refine Eg .nil fun A X=>?_;refine Eg .nil fun TO f=>?_;refine Ff.nil _ (Oe rfl ?_);refine qe (.Ba (.cons .int (.cons .int .nil))) rfl (Ob ?_);refine zr (.var rfl) (.var rfl) rfl rfl (Ek ps) ⟨by exact bc (by assumption) (Pa rfl),by refine aa (sd _) ?_;exact ha⟩ fun l c=>?_;refine Ff.cons .int (.cons .int (.cons .int (.cons .int .nil))) _ (uo rfl ?_);refine Vf (o:=.list []) (fun Q q=>Eg .nil q) fun w g=>?_;have u:∀{U:Mem}{a b:Addr}{x:Option MO},Ga U a x b=none->a≠b->U b=none:=fun h e=>by rw[qa _ _ e.symm]at h;exact h
 have p:M≠A:=Sub.ne X (da ..);have D:A≠TO:=Sub.ne f (da ..)
 have W0:oy U (Ga (Ga (Ga (Ga (Ga U M (some (.dict (Of [(500,.int 9)])))) A (some (.list []))) TO (some (.list []))) l (some (.dict (Of ((ps.map fun(n:Nat)=>(n:Int)).zip (T.map V.int)))))) w (some (.list []))) ⟨M,A,TO,w,l,[]⟩ 0 (init ps T):=
  {sub:=((((((Sub.refl U).Ga hM _).Ga (u X p) _).Ga (u (u f D) ((Sub.ne f (ia (da ..) p)):M≠TO)) _).Ga (u (u (u c ((Sub.ne c (da ..)):TO≠l)) ((Sub.ne c (ia (da ..) D)):A≠l)) ((Sub.ne c (ia (ia (da ..) p) ((Sub.ne f (ia (da ..) p)):M≠TO))):M≠l)) _).Ga (u (u (u (u g ((Sub.ne g (da ..)):l≠w)) ((Sub.ne g (ia (da ..) ((Sub.ne c (da ..)):TO≠l))):TO≠w)) ((Sub.ne g (ia (ia (da ..) D) ((Sub.ne c (ia (da ..) D)):A≠l))):A≠w)) ((Sub.ne g (ia (ia (ia (da ..) p) ((Sub.ne f (ia (da ..) p)):M≠TO)) ((Sub.ne c (ia (ia (da ..) p) ((Sub.ne f (ia (da ..) p)):M≠TO))):M≠l))):M≠w)) _),m:=(cc _ (ia (ia (ia (ia (da ..) p) ((Sub.ne f (ia (da ..) p)):M≠TO)) ((Sub.ne c (ia (ia (da ..) p) ((Sub.ne f (ia (da ..) p)):M≠TO))):M≠l)) ((Sub.ne g (ia (ia (ia (da ..) p) ((Sub.ne f (ia (da ..) p)):M≠TO)) ((Sub.ne c (ia (ia (da ..) p) ((Sub.ne f (ia (da ..) p)):M≠TO))):M≠l))):M≠w)) (Pa rfl) (fun z=>by
    refine(?_:(if(500:Int)=z then some (V.int 9)else none)=(if z=500 then some (9:Int)else none).map V.int);by_cases e:z=500
    ·refine aa e ?_;rfl
    ·refine aa (if_neg (Ne.symm e)) (aa (if_neg e) ?_);rfl)),se:=ia (ia (ia (da ..) D) ((Sub.ne c (ia (da ..) D)):A≠l)) ((Sub.ne g (ia (ia (da ..) D) ((Sub.ne c (ia (da ..) D)):A≠l))):A≠w),sl:=tf _,to:=ia (ia (da ..) ((Sub.ne c (da ..)):TO≠l)) ((Sub.ne g (ia (da ..) ((Sub.ne c (da ..)):TO≠l))):TO≠w),tl:=tf _,h:=(cc _ (ia (da ..) ((Sub.ne g (da ..)):l≠w)) (by
    have:=Dq ((ps.map fun(n:Nat)=>(n:Int)).zip (T.map V.int)) [];rw[List.length_nil,Nat.zero_add]at this;refine bc this ?_;refine aa List.length_zip (aa (sd _) ?_);exact bc (Nat.min_le_left ..) (by exact bc (by assumption) (Pa rfl))) (Bp ps T [] (fun ζ=>none) (fun z=>rfl))),st:=(pb [] (da ..) trivial),zD:=tf _,nd:=by simp[((Sub.ne c (ia (ia (da ..) p) ((Sub.ne f (ia (da ..) p)):M≠TO))):M≠l)],l1:=D,l2:=((Sub.ne g (ia (ia (da ..) D) ((Sub.ne c (ia (da ..) D)):A≠l))):A≠w),l3:=((Sub.ne g (ia (da ..) ((Sub.ne c (da ..)):TO≠l))):TO≠w),fr:=(xn hM (u X p) (u (u f D) ((Sub.ne f (ia (da ..) p)):M≠TO)) (u (u (u (u g ((Sub.ne g (da ..)):l≠w)) ((Sub.ne g (ia (da ..) ((Sub.ne c (da ..)):TO≠l))):TO≠w)) ((Sub.ne g (ia (ia (da ..) D) ((Sub.ne c (ia (da ..) D)):A≠l))):A≠w)) ((Sub.ne g (ia (ia (ia (da ..) p) ((Sub.ne f (ia (da ..) p)):M≠TO)) ((Sub.ne c (ia (ia (da ..) p) ((Sub.ne f (ia (da ..) p)):M≠TO))):M≠l))):M≠w)) (u (u (u c ((Sub.ne c (da ..)):TO≠l)) ((Sub.ne c (ia (da ..) D)):A≠l)) ((Sub.ne c (ia (ia (da ..) p) ((Sub.ne f (ia (da ..) p)):M≠TO))):M≠l)) (fun ζ h=>nomatch h))}
 refine Jm (n:=2000) (by exact Pa rfl) .int (fun m I U'=>∃a st,WL I P ps a st∧oy U U' a (2000 - m) st∧m≤2000∧vv P ps m st=some (v,s)) (Af ⟨M,A,TO,w,l,[]⟩ (init ps T) ⟨rfl,rfl,rfl,rfl,rfl,rfl,rfl,rfl,rfl,rfl,rfl,rfl,rfl⟩ (by exact W0) (tf _) ba) ?_ ?_
 ·(intro m j I U' K hj ea hK;(refine Ig (fun a st L W hm y=>?_) ea;clear ea))
  obtain⟨Y,t⟩:∃Y,cg P ps st=some Y:=by
   induction e:cg P ps st with
   |some Y=>exact⟨Y,rfl⟩
   |none=>replace y:(match cg P ps st with|none=>none|some (.go s')=>vv P ps m s'|some (.done v s')=>some (v,s'))=some (v,s):=y;rw[e]at y;exact nomatch y
  have F:(match Y with| .go s'=>vv P ps m s'| .done v s'=>some (v,s'))=some (v,s):=by replace y:(match cg P ps st with|none=>none|some (.go s')=>vv P ps m s'|some (.done v s')=>some (v,s'))=some (v,s):=y;rw[t]at y;induction Y<;>exact y
  unfold cg at t;split at t
  ·exact nomatch t
  ·rename_i B hB
   (change let R:Prop:=_;R;intro R);refine Qa (fun ka la=>?_)<|hr B (jr hB)
   refine vb (qe (.Ma (.var ((⟨L.l0,L.l1,L.l3,L.l4,L.l5,L.l6,L.l7,L.l8,L.l9,L.WC,L.fE,L.QC,L.TC⟩):WL (Ca I 14 (.int (j:Nat))) P ps a st).l0) (.var ((⟨L.l0,L.l1,L.l3,L.l4,L.l5,L.l6,L.l7,L.l8,L.l9,L.WC,L.fE,L.QC,L.TC⟩):WL (Ca I 14 (.int (j:Nat))) P ps a st).l9) rfl (kc (by refine aa List.getElem?_map (aa hB ?_);rfl)) (by refine aa (sd _) ?_;exact Ld _ (by exact bc (by assumption) (Pa rfl)))) rfl ?_);have L2:WL (Ca (Ca (Ca I 14 (.int (j:Nat))) 15 (Zd B.la)) 16 B.en.v) P ps a st:=⟨L.l0,L.l1,L.l3,L.l4,L.l5,L.l6,L.l7,L.l8,L.l9,L.WC,L.fE,L.QC,L.TC⟩;have N:Ca (Ca (Ca I 14 (.int (j:Nat))) 15 (Zd B.la)) 16 B.en.v 15=some (Zd B.la):=rfl;have fa:Ca (Ca (Ca I 14 (.int (j:Nat))) 15 (Zd B.la)) 16 B.en.v 16=some B.en.v:=rfl;generalize Ca (Ca (Ca I 14 (.int (j:Nat))) 15 (Zd B.la)) 16 B.en.v=I2 at L2 N fa ⊢;split at t
   ·rename_i i hi;split at t
    ·exact nomatch t
    ·rename_i ks pa;rw[Option.map_eq_some_iff]at t
     (change let R:Prop:=_;R;intro R);(refine ya (fun s' ra O=>?_) t;clear t;subst O)
     refine gb ((.as (.ta (.var L2.WC) (.Pd (.var N) rfl (by refine aa (sd _) ?_;exact Ld _ (by exact bc (by assumption) (Pa rfl)):(B.la.map Sa.v).length≤Ac)) .lt) (by refine aa (sd _) ?_;exact decide_eq_decide.mpr (by lia))):Ng G (k+1) I2 U' (.ta .Lt (.var 10) (.Pd (.var 15))) (decide (st.Na.place<B.la.length))) (decide_eq_true (Ro hi).1) (QB H cn (by exact Nat.sub_le _ _) W pa (la i (jr hi)) ra L2 N hi ka fun I' U2 a' L3 W3=>ja (hK _ _ (Af a' s' L3 (by refine Cb ((Nat.sub_add_cancel (Nat.sub_pos_of_lt (hj▸pn (m+1) _))):2000 - (m+1)+1=2000 - m) ?_;exact W3) (by exact Nat.le_of_lt (by assumption)) F)))
   ·rename_i hi;refine Ka ((.as (.ta (.var L2.WC) (.Pd (.var N) rfl (by refine aa (sd _) ?_;exact Ld _ (by exact bc (by assumption) (Pa rfl)):(B.la.map Sa.v).length≤Ac)) .lt) (by refine aa (sd _) ?_;exact decide_eq_decide.mpr (by lia))):Ng G (k+1) I2 U' (.ta .Lt (.var 10) (.Pd (.var 15))) (decide (st.Na.place<B.la.length))) (decide_eq_false (by rw[List.getElem?_eq_none_iff]at hi;exact Nat.not_lt.mpr (by assumption))) (GB (by exact Nat.sub_le _ _) W t L2 fa (fun s' e I' U2 a' L3 W3=>ja (hK _ _ (Af a' s' L3 (by refine Cb ((Nat.sub_add_cancel (Nat.sub_pos_of_lt (hj▸pn (m+1) _))):2000 - (m+1)+1=2000 - m) ?_;exact W3) (by exact Nat.le_of_lt (by assumption)) (by subst e;exact F)))) fun v' e U2 sa=>?_);subst e;have:some (v',st)=some (v,s):=F
    (replace this:=Bb this;cases this)
    exact q U2 sa
 ·(intro I U' O;(refine Ig (fun a st ζ ζ ζ h=>?_) O;clear O))
  exact nomatch h
noncomputable def IG:Code->Bool
 | .ym=>true
 |_=>false
noncomputable def Xb.yb(D:Xb):List Code:=D.ec++D.mc++D.c3.yb++D.c4.yb
noncomputable def Xb.DC(D:Xb):Bool:=D.yb.any IG
noncomputable def Xb.Kd(D:Xb)(n:Int):Bool:=decide (n=5)||decide (n=6)||(decide (n=7)&&D.DC)
noncomputable def kL:List Int:=[5,6,7]
theorem Wh{i:Sa}{l:List Code}(h:i∈va l):∃c∈l,i∈c.la:=List.mem_flatMap.mp h
theorem vt{i:Sa}{l:List Code}{c:Code}(a:c∈l)(h:i∈c.la):i∈va l:=List.mem_flatMap.mpr ⟨c,a,h⟩
inductive Kh (D:Xb):Sa->Prop
 |head {i:Sa}:i∈Lb->Kh D i
 |code {c:Code} {i:Sa}:c∈D.yb->c.ok->i∈c.la->Kh D i
 |ld:Kh D (.ld 11 5 false)
 |sub:Kh D (.ar .sub 8 3 (.k 1))
 |and:Kh D (.ar .and 7 D.mx (.k 1))
 |wi:Kh D (.cp 10 (.r D.bx))
 |Qg {c:dd}:(c=D.c3∨c=D.c4)->Kh D (.Qg c.nc (D.ps.map c.Sb))
 |tl (x:Tl):Kh D x.Dl
 |dD:Kh D (.cp 10 (.r 10))
theorem Hg(j:D.ok)(b:c=D.c3∨c=D.c4){i:Sa}(h:i∈(c.Xf D.ps D.hv).la):Kh D i:=by
 have e:c.ok D.hv:=by rcases b with rfl|rfl;exact j.c3;exact j.c4
 have f:∀x∈c.yb,x∈D.yb:=fun x a=>by rcases b with rfl|rfl<;>simp[Xb.yb,a]
 rcases List.mem_append.mp h with h|h
 ·rcases List.mem_append.mp h with h|h
  ·refine ya (fun x a l=>?_)<|Wh h
   exact .code (f x a) (e.yb x a) l
  ·refine aa (Jd h) ?_;exact .Qg b
 ·(refine ya (fun x m g=>?_)<|List.mem_map.mp h;refine Cb g ?_)
  exact .tl x
theorem Zi(c:D.ok)(e:B∈D.Yb){i:Sa}(a:i∈B.la):Kh D i:=by
 rcases(by simpa[Xb.Yb]using e:B=D.b0∨B=D.b1∨B=D.b2∨B=D.c3.Xf D.ps D.hv∨B=D.c4.Xf D.ps D.hv∨B=⟨[],.Ib 6⟩∨B=D.b6)with rfl|rfl|rfl|rfl|rfl|rfl|rfl
 ·have a:i∈Lb++va D.ec++[.ld 11 5 false]:=a;rcases List.mem_append.mp a with h|h
  ·rcases List.mem_append.mp h with h|h
   ·exact .head h
   ·refine ya (fun x b a=>?_)<|Wh h
    exact .code (by simp[Xb.yb,b]) (c.ec x b) a
  ·refine aa (Jd h) ?_;exact .ld
 ·have a:i∈va D.mc++[.ar .sub 8 3 (.k 1),.ar .and 7 D.mx (.k 1)]:=a;rcases List.mem_append.mp a with h|h
  ·refine ya (fun x b a=>?_)<|Wh h
   exact .code (by simp[Xb.yb,b]) (c.mc x b) a
  ·rcases pg h with rfl|h
   ·exact .sub
   ·refine aa (Jd h) ?_;exact .and
 ·refine aa (Jd a) ?_;exact .wi
 ·exact Hg c (.inl rfl) a
 ·exact Hg c (.inr rfl) a
 ·cases a
 ·have a:i∈(if D.xb then [Sa.cp 10 (.r 10)]else []):=a;split at a
  ·refine aa (Jd a) ?_;exact .dD
  ·exact nomatch a
theorem ei(h:n<5∨7<n):D.Kd n=false:=by unfold Xb.Kd;refine aa (decide_eq_false (show ¬(n:Int)=5 by lia)) (aa (decide_eq_false (show ¬(n:Int)=6 by lia)) (aa (decide_eq_false (show ¬(n:Int)=7 by lia)) ?_));rfl
theorem Dz{b:zb}(h:(∃n,b=.r n∧n<3)∨∃n,b=.k n∧n<100):tc D.Kd b=false:=by
 rcases h with⟨n,rfl,a⟩|⟨n,rfl,_⟩
 ·exact ei (.inl (by exact bc (by assumption) (Pa rfl)))
 ·rfl
theorem jA(n:D.ok){i:Sa}(h:Kh D i):eD D.Kd i:=by
 intro j m;have e:i.qk D.Kd=false->D.Kd i.nc=true:=fun h=>by rw[h]at m;exact(Fc m).elim
 induction h with
 |head g=>
  simp only[Lb,List.mem_cons,List.not_mem_nil,or_false]at g;rcases g with rfl|rfl|rfl|rfl|rfl|rfl
  ·exact e rfl
  ·rfl
  ·rfl
  ·exact absurd j (by exact Ub rfl)
  ·exact e rfl
  ·exact e rfl
 | @code c i o l g=>
  induction c with
  |ar q a b=>
   (refine Nb (fun s p hb=>?_) l;clear l)
   rw[Jd g]at e m ⊢;refine e ?_;refine(?_:(tc D.Kd (.r a)||(tc D.Kd b||false))=false);refine aa (Dz hb) (aa (show tc D.Kd (.r a)=false from ei (.inl (by have:a<3:=p;exact bc (by assumption) (Pa rfl)))) ?_);rfl
  |Yh a=>rw[Jd g]at e ⊢;exact e rfl
  |iG a f=>rw[Jd g]at j;exact absurd j (show ¬(0:Int)≤ -1 by exact Ub rfl)
  |eF a f=>rw[Jd g]at e ⊢;exact e rfl
  |BF a=>rw[Jd g]at j;exact absurd j (show ¬(0:Int)≤ -1 by exact Ub rfl)
  |VC a=>rw[Jd g]at e ⊢;exact e rfl
  |NC a=>
   rcases pg g with rfl|g
   ·rfl
   ·rw[Jd g]at j;exact absurd j (show ¬(0:Int)≤ -1 by exact Ub rfl)
  |vk=>rw[Jd g]at e ⊢;exact e rfl
  |ml=>rw[Jd g]at j;exact absurd j (show ¬(0:Int)≤ -1 by exact Ub rfl)
  |ym=>
   rcases pg g with rfl|g
   ·skip;have:D.DC=true:=List.any_eq_true.mpr ⟨_,o,rfl⟩;unfold Xb.Kd;refine aa this ?_;rfl
   ·rw[Jd g]at j;exact absurd j (show ¬(0:Int)≤ -1 by exact Ub rfl)
  |mul a=>rw[Jd g]at e m ⊢;refine e ?_;refine(?_:(tc D.Kd (.r a)||(false||false))=false);refine aa (show tc D.Kd (.r a)=false from ei (.inl (by have:a<3:=l;exact bc (by assumption) (Pa rfl)))) ?_;rfl
 |ld=>exact e rfl
 |sub=>exact e rfl
 |and=>refine e ?_;refine(?_:(tc D.Kd (.r D.mx)||(false||false))=false);refine aa (show tc D.Kd (.r D.mx)=false from ei (.inl (by have:=n.mx;exact Nat.lt_succ_of_lt (by assumption)))) ?_;rfl
 |wi=>refine e ?_;refine(?_:(tc D.Kd (.r D.bx)||false)=false);refine aa (show tc D.Kd (.r D.bx)=false from ei (.inl (by have:=n.bx;exact bc (by assumption) (Pa rfl)))) ?_;rfl
 |Qg _=>exact e rfl
 |tl x=>induction x<;>exact e rfl
 |dD=>exact e rfl
theorem tC(D:Xb):D.b0∈D.Yb:=List.Mem.head _
theorem Si{c:Code}(h:c∈D.yb){i:Sa}(a:i∈c.la):∃B∈D.Yb,i∈B.la:=by
 have key:∀{l:List Code},c∈l->i∈va l:=fun b=>vt b a;simp only[Xb.yb,List.mem_append]at h;rcases h with((h|h)|h)|h
 ·exact⟨D.b0,by exact .head _,List.mem_append_left _ (List.mem_append_right _ (key h))⟩
 ·exact⟨D.b1,by exact .tail _ (.head _),List.mem_append_left _ (key h)⟩
 ·exact⟨D.c3.Xf D.ps D.hv,by simp[Xb.Yb],List.mem_append_left _ (List.mem_append_left _ (key h))⟩
 ·exact⟨D.c4.Xf D.ps D.hv,by simp[Xb.Yb],List.mem_append_left _ (List.mem_append_left _ (key h))⟩
theorem ix(f:D.ok):Ey D.Kd kL D.Yb where
 JJ n h:=by unfold Xb.Kd at h;simp only[Bool.or_eq_true,Bool.and_eq_true,decide_eq_true_eq]at h;rcases h with(rfl|rfl)|⟨rfl,_⟩<;>decide
 iu B a i b:=jA f (Zi f a b)
 IC K hK n hn:=by
  have e:K 5=true:=hK D.b0 (tC D) .slot (by refine(?_:Sa.slot∈Lb++va D.ec++_);simp[Lb]) (by exact Ub rfl) rfl;unfold Xb.Kd at hn;simp only[Bool.or_eq_true,Bool.and_eq_true,decide_eq_true_eq]at hn;rcases hn with(rfl|rfl)|⟨rfl,h⟩
  ·exact e
  ·exact((hK D.b0 (tC D) (.cp 6 (.r 5)) (by refine(?_:Sa.cp 6 (.r 5)∈Lb++va D.ec++_);simp[Lb]) (by exact Ub rfl) (by refine(?_:(K 5||false)=true);refine aa e ?_;rfl)):K 6=true)
  ·refine ya (fun c g j=>?_)<|List.any_eq_true.mp h
   induction c with
   |ym=>
    refine ya (fun B a b=>?_)<|Si g (i:=.ar .eq 7 5 (.r 6)) (List.Mem.head _)
    exact hK B a _ b (by exact Ub rfl) (by refine(?_:(K 5||(K 6||false))=true);refine aa e ?_;rfl)
   |_=>exact(Fc j).elim
structure wj(D:Xb):Prop where
 yb:∀c∈D.yb,c≠.vk∧c≠.ml∧c≠.ym
 g3:∀n,n<3->D.c3.Sb n≠.r 5
 g4:∀n,n<3->D.c4.Sb n≠.r 5
theorem qp(h:Wf D.Kd D.Yb=false)(a:B∈D.Yb){i:Sa}(b:i∈B.la):i.Gg D.Kd=false:=by
 have:B.af D.Kd=false:=by
  induction e:B.af D.Kd with
  |false=>rfl
  |true=>rw[show Wf D.Kd D.Yb=true from List.any_eq_true.mpr ⟨B,a,e⟩]at h;injection h
 unfold xd.af at this;rw[Bool.or_eq_false_iff]at this;induction e:i.Gg D.Kd with
 |false=>rfl
 |true=>rw[List.any_eq_true.mpr ⟨i,b,e⟩]at this;cases this.1
theorem QA(a:D.ok):∀n,n<4->n∈D.ps:=fun n b=>by rcases a.ps with h|h|h|h<;>refine aa h ?_<;>(exact vy b (by decide) (by decide) (by decide) (by decide))
theorem qA(l:D.ok)(h:Wf D.Kd D.Yb=false):wj D:=by
 have g:∀c,(c=D.c3∨c=D.c4)->∀n,n<3->c.Sb n≠.r 5:=fun c a n m e=>by have:=qp h (by rcases a with rfl|rfl<;>simp[Xb.Yb]:c.Xf D.ps D.hv∈D.Yb) (i:=.Qg c.nc (D.ps.map c.Sb)) (List.mem_append_left _ (List.mem_append_right _ (List.Mem.head _)));have j:(D.ps.map c.Sb).any (tc D.Kd)=true:=List.any_eq_true.mpr ⟨.r 5,List.mem_map.mpr ⟨n,QA l n (by exact Nat.lt_succ_of_lt (by assumption)),e⟩,rfl⟩;have:(D.ps.map c.Sb).any (tc D.Kd)=false:=this;rw[j]at this;injection this
 refine⟨fun c a=>⟨fun e=>?_,fun e=>?_,fun e=>?_⟩,g _ (.inl rfl),g _ (.inr rfl)⟩
 ·subst e;refine ya (fun B b f=>?_)<|Si a (i:=.Yh 7 5) (List.Mem.head _)
  have:=qp h b f;injection this
 ·subst e;refine ya (fun B b f=>?_)<|Si a (i:=.st 4 6 false) (List.Mem.head _)
  have:=qp h b f;injection this
 ·subst e;refine ya (fun B b f=>?_)<|Si a (i:=.Yh (-1) 7) (List.Mem.tail _ (List.Mem.head _))
  have:=qp h b f;have j:D.Kd 7=true:=by unfold Xb.Kd;refine aa (show D.DC=true from List.any_eq_true.mpr ⟨_,a,rfl⟩) ?_;rfl
  have:D.Kd 7=false:=this;rw[j]at this;injection this
theorem Ve(a:D.ok)(h:B∈D.Yb):B.la.length≤20:=by
 have b:∀c:dd,c.ok D.hv->(c.Xf D.ps D.hv).la.length≤20:=fun c e=>by refine(?_:(va c.yb++[Sa.Qg c.nc (D.ps.map c.Sb)]++c.tail.map Tl.Dl).length≤20);have f:=Qc c.yb;have g:=e.Pd;have i:=e.xJ;simp only[List.length_append,List.length_singleton,sd];lia
 rcases(by simpa[Xb.Yb]using h:B=D.b0∨B=D.b1∨B=D.b2∨B=D.c3.Xf D.ps D.hv∨B=D.c4.Xf D.ps D.hv∨B=⟨[],.Ib 6⟩∨B=D.b6)with rfl|rfl|rfl|rfl|rfl|rfl|rfl
 ·refine(?_:(Lb++va D.ec++[Sa.ld 11 5 false]).length≤20);have f:=Qc D.ec;have g:=a.fH;simp only[List.length_append,List.length_singleton];refine(?_:6+_+1≤20);lia
 ·refine(?_:(va D.mc++[Sa.ar .sub 8 3 (.k 1),Sa.ar .and 7 D.mx (.k 1)]).length≤20);have f:=Qc D.mc;have g:=a.vJ;simp only[List.length_append,List.length_cons,List.length_nil];lia
 ·exact Pa rfl
 ·exact b _ a.c3
 ·exact b _ a.c4
 ·exact Pa rfl
 ·refine(?_:(if D.xb then [Sa.cp 10 (.r 10)]else []).length≤20);split<;>exact Pa rfl
theorem Fh(a:D.ok):D.ps.length=4:=by rcases a.ps with h|h|h|h<;>refine aa h ?_<;>rfl
theorem Pf(b:D.ok){i:Sa}(h:Kh D i):i.args.length≤4:=by
 induction h with
 |Qg _=>refine(?_:(D.ps.map _).length≤4);refine aa (sd _) (aa (Fh b) ?_);exact tf _
 |head a=>simp only[Lb,List.mem_cons,List.not_mem_nil,or_false]at a;rcases a with rfl|rfl|rfl|rfl|rfl|rfl<;>exact Pa rfl
 | @code c i f e a=>
  induction c<;>first
   |(rw[Jd a];exact Pa rfl)
   |(rcases pg a with rfl|a<;>first|exact Pa rfl|(refine aa (Jd a) ?_;exact Pa rfl))
 |tl x=>induction x<;>exact Pa rfl
 |_=>exact Pa rfl
theorem Zy{o:zb}(h:dg o)(e:zb.r n=o):n<12:=by
 rcases h with⟨m,rfl,h⟩|⟨m,rfl,h⟩
 ·cases e;lia
 ·exact nomatch e
theorem Jq(a:c.ok D.hv){p:Nat}(b:p<4)(e:zb.r n=c.Sb p):n<12:=by
 by_cases h:p=3
 ·subst h;rw[a.g3]at e;cases e;decide
 ·exact Zy (a.g p (by lia)) e
theorem Vj(a:D.ok):∀p∈D.ps,p<4:=by rcases a.ps with h|h|h|h<;>refine aa h ?_<;>decide
theorem Gq(j:D.ok){i:Sa}(h:Kh D i)(a:zb.r n∈i.args):n<12:=by
 induction h with
 | @Qg c q=>
  have f:c.ok D.hv:=by rcases q with rfl|rfl;exact j.c3;exact j.c4
  refine ya (fun p s e=>?_)<|List.mem_map.mp a
  exact Jq f (Vj j p s) e.symm
 |head g=>simp only[Lb,List.mem_cons,List.not_mem_nil,or_false]at g;rcases g with rfl|rfl|rfl|rfl|rfl|rfl<;>simp[Sa.args]at a<;>lia
 | @code c i q f g=>
  induction c with
  |ar t l b=>
   (refine Nb (fun u o hb=>?_) f;clear f)
   rw[Jd g]at a;simp[Sa.args]at a;rcases a with rfl|rfl
   ·have:n<3:=o;exact bc (by assumption) (Pa rfl)
   ·rcases hb with⟨m,e,h⟩|⟨m,e,_⟩<;>(first|(exact(Fc e).elim;done)|cases e);exact bc (by assumption) (Pa rfl)
  |NC l=>
   have o:l<3:=f;rcases pg g with rfl|g
   ·simp[Sa.args]at a;lia
   ·rw[Jd g]at a;simp[Sa.args]at a;lia
  |ym=>
   rcases pg g with rfl|g
   ·simp[Sa.args]at a;lia
   ·rw[Jd g]at a;replace a:=Jd a;lia
  |vk=>rw[Jd g]at a;replace a:=Jd a;lia
  |ml=>rw[Jd g]at a;simp[Sa.args]at a;lia
  |_=>have o:_<3:=f;rw[Jd g]at a;simp[Sa.args]at a;lia
 |tl x=>cases x<;>simp[Tl.Dl,Sa.args]at a<;>lia
 |and=>have:=j.mx;simp[Sa.args]at a;lia
 |wi=>have:=j.bx;replace a:=Jd a;lia
 |_=>simp[Sa.args]at a;lia
theorem cq{c:Code}{i:Sa}(h:i∈c.la):Ef i=false:=by
 induction c<;>first
  |(rw[Jd h];rfl)
  |(rcases pg h with rfl|h<;>first|rfl|(refine aa (Jd h) ?_;rfl))
theorem Gf{l:List Code}{i:Sa}(h:i∈va l):Ef i=false:=by refine ya (fun c b a=>?_)<|Wh h;exact cq a
theorem Xs(h:∀i∈B.la,Ef i=false):Jb ps hv P B=none:=by
 unfold Jb;by_cases c:0≤Qb ps B.la
 ·refine pd (fun a e b f=>?_)<|nh c
  have:=h _ (jr b);injection this
 ·exact aa (if_neg c) rfl
theorem ZA{l1 l2:List Sa}{x y:Sa}(c:∀i∈l1,Ef i=false)(e:∀i∈l2,Ef i=false)(b:Ef y=true)(h:(l1++[x]++l2)[n]?=some y):n=l1.length∧y=x:=by
 rw[List.append_assoc]at h;rcases Nat.lt_trichotomy n l1.length with a|a|a
 ·rw[List.getElem?_append_left a]at h;rw[c y (jr h)]at b;exact(Fc b).elim
 ·subst a;rw[List.getElem?_append_right (tf _),Nat.sub_self]at h;refine aa (Bb h) ?_;exact⟨rfl,rfl⟩
 ·rw[List.getElem?_append_right (by exact Nat.le_of_lt (by assumption))]at h;rw[show n - l1.length=(n - l1.length - 1)+1 from(Nat.sub_add_cancel (Nat.sub_pos_of_lt a)).symm]at h;rw[e y (jr h)]at b;exact(Fc b).elim
theorem kh{x:Nat}(h:Jb D.ps D.hv P (c.Xf D.ps D.hv)=some x) : x=(va c.yb).length∧(∀t∈c.tail,Lg t.Dl=true)∧fg D.hv P (c.Xf D.ps D.hv) (va c.yb).length=true:=by
 unfold Jb at h;split at h
 ·rename_i m;split at h
  ·rename_i j;refine Cb (Bb h) ?_
   (change let R:Prop:=_;R;intro R);refine Cd (fun a n e o b=>?_)<|nh m
   refine Qa (fun l q=>?_)<|ZA (fun i f=>Gf f) (fun i f=>by(refine ya (fun t o g=>?_)<|List.mem_map.mp f;refine Cb g ?_);induction t<;>rfl) rfl ((e):(va c.yb++[Sa.Qg c.nc (D.ps.map c.Sb)]++c.tail.map Tl.Dl)[(Qb D.ps (c.Xf D.ps D.hv).la).toNat]?=some (.Qg a n))
   rw[l]at j b;refine(yc l (fun t p=>b _ ?_) j);have:(c.Xf D.ps D.hv).la.drop ((va c.yb).length+1)=c.tail.map Tl.Dl:=by refine(?_:(va c.yb++[Sa.Qg c.nc (D.ps.map c.Sb)]++c.tail.map Tl.Dl).drop _=_);exact aa (List.drop_left' (by simp)) rfl
   refine aa this ?_;exact List.mem_map.mpr (pb t p rfl)
  ·injection h
 ·injection h
noncomputable def Xb.cv(D:Xb)(c:dd):Bool:=(Jb D.ps D.hv D.Yb (c.Xf D.ps D.hv)).isSome&&!Wf D.Kd D.Yb
noncomputable def nb(D:Xb)(a:Bool)(c:dd)(Z:Nat):xd×Nat:=
 if a=true then(⟨va c.yb++(qc D.ps (D.ps.map c.Sb) Z).1,.Ib 0⟩,(qc D.ps (D.ps.map c.Sb) Z).2)else(c.Xf D.ps D.hv,Z)
noncomputable def Dh(D:Xb)(v3 v4:Bool):List xd:=[D.b0,D.b1,D.b2,(nb D v3 D.c3 12).1,(nb D v4 D.c4 (nb D v3 D.c3 12).2).1,⟨[],.Ib 6⟩,D.b6]
noncomputable def Tq(D:Xb)(v3 v4:Bool):Nat:=(nb D v4 D.c4 (nb D v3 D.c3 12).2).2
theorem lp{x:Nat}(h:x=(va c.yb).length):Te D.ps (c.Xf D.ps D.hv) x Z=nb D true c Z:=by subst h;have e:(c.Xf D.ps D.hv).la=va c.yb++([Sa.Qg c.nc (D.ps.map c.Sb)]++c.tail.map Tl.Dl):=List.append_assoc ..;unfold Te nb;refine aa e (aa List.take_left (aa (List.getElem?_append_right (tf _)) (aa (Nat.sub_self _) ?_)));rfl
theorem Ny(h:B=D.b0∨B=D.b1∨B=D.b2∨B=⟨[],.Ib 6⟩∨B=D.b6):∀i∈B.la,Ef i=false:=by
 intro i a;rcases h with rfl|rfl|rfl|rfl|rfl
 ·have a:i∈Lb++va D.ec++[.ld 11 5 false]:=a;refine Or.elim (List.mem_append.mp a) (fun h=>?_) (fun h=>?_)
  ·refine Or.elim (List.mem_append.mp h) (fun h=>?_) (fun h=>?_)
   ·simp only[Lb,List.mem_cons,List.not_mem_nil,or_false]at h;rcases h with rfl|rfl|rfl|rfl|rfl|rfl<;>rfl
   ·exact Gf h
  ·refine aa (Jd h) ?_;rfl
 ·have a:i∈va D.mc++[.ar .sub 8 3 (.k 1),.ar .and 7 D.mx (.k 1)]:=a;refine Or.elim (List.mem_append.mp a) (fun h=>?_) (fun h=>?_)
  ·exact Gf h
  ·rcases pg h with rfl|h
   ·rfl
   ·refine aa (Jd h) ?_;rfl
 ·refine aa (Jd a) ?_;rfl
 ·exact nomatch a
 ·have a:i∈(if D.xb then [Sa.cp 10 (.r 10)]else []):=a;split at a
  ·refine aa (Jd a) ?_;rfl
  ·exact nomatch a
theorem aA(D:Xb):Xj D.ps D.hv D.Kd D.Yb 12=(D.cv D.c3||D.cv D.c4,Dh D (D.cv D.c3) (D.cv D.c4),Tq D (D.cv D.c3) (D.cv D.c4)):=by
 have n:∀B:xd,(B=D.b0∨B=D.b1∨B=D.b2∨B=⟨[],.Ib 6⟩∨B=D.b6)->Jb D.ps D.hv D.Yb B=none:=fun B h=>Xs (Ny h);have e:Rd D.ps D.hv D.Yb (Mf 0 D.Yb)=(match Jb D.ps D.hv D.Yb (D.c3.Xf D.ps D.hv)with|some a=>[(3,a)]|none=>[])++(match Jb D.ps D.hv D.Yb (D.c4.Xf D.ps D.hv)with|some a=>[(4,a)]|none=>[]):=by
  have key:∀(P:List xd),(∀B:xd,(B=D.b0∨B=D.b1∨B=D.b2∨B=⟨[],.Ib 6⟩∨B=D.b6)->Jb D.ps D.hv P B=none)->Rd D.ps D.hv P [(0,D.b0),(1,D.b1),(2,D.b2),(3,D.c3.Xf D.ps D.hv),(4,D.c4.Xf D.ps D.hv),(5,⟨[],.Ib 6⟩),(6,D.b6)]=(match Jb D.ps D.hv P (D.c3.Xf D.ps D.hv)with|some a=>[(3,a)]|none=>[])++(match Jb D.ps D.hv P (D.c4.Xf D.ps D.hv)with|some a=>[(4,a)]|none=>[]):=fun P n=>by simp only[Rd];rewrite[n _ (.inl rfl),n _ (.inr (.inl rfl)),n _ (.inr (.inr (.inr (.inr rfl))))];induction Jb D.ps D.hv P (D.c3.Xf D.ps D.hv)<;>induction Jb D.ps D.hv P (D.c4.Xf D.ps D.hv)<;>rfl
  exact key _ n
 unfold Xj;refine aa e ?_;unfold Xb.cv;induction f:Wf D.Kd D.Yb with
 |true=>refine aa (if_pos (.inr rfl)) ?_;simp[Dh,Tq,nb,Xb.Yb]
 |false=>
  induction c:Jb D.ps D.hv D.Yb (D.c3.Xf D.ps D.hv)with
  |none=>
   induction b:Jb D.ps D.hv D.Yb (D.c4.Xf D.ps D.hv)with
   |none=>refine aa (if_pos (.inl rfl)) ?_;rfl
   |some y=>have:Yi D.ps [(4,y)] D.Yb 12=(D.Yb.set 4 (Te D.ps (D.c4.Xf D.ps D.hv) y 12).1,(Te D.ps (D.c4.Xf D.ps D.hv) y 12).2):=rfl;refine aa this (aa (lp (D:=D) (Z:=12) (kh b).1) ?_);rfl
  |some x=>
   induction b:Jb D.ps D.hv D.Yb (D.c4.Xf D.ps D.hv)with
   |none=>have:Yi D.ps [(3,x)] D.Yb 12=(D.Yb.set 3 (Te D.ps (D.c3.Xf D.ps D.hv) x 12).1,(Te D.ps (D.c3.Xf D.ps D.hv) x 12).2):=rfl;refine aa this (aa (lp (D:=D) (Z:=12) (kh c).1) ?_);rfl
   |some y=>have:Yi D.ps [(3,x),(4,y)] D.Yb 12=((D.Yb.set 3 (Te D.ps (D.c3.Xf D.ps D.hv) x 12).1).set 4 (Te D.ps (D.c4.Xf D.ps D.hv) y (Te D.ps (D.c3.Xf D.ps D.hv) x 12).2).1,(Te D.ps (D.c4.Xf D.ps D.hv) y (Te D.ps (D.c3.Xf D.ps D.hv) x 12).2).2):=rfl;refine aa this (aa (lp (D:=D) (Z:=12) (kh c).1) (aa (lp (D:=D) (Z:=(nb D true D.c3 12).2) (kh b).1) ?_));rfl
theorem Cj{l:List Nat}:l.Nodup↔∀i j,i<j->j<l.length->l[i]?≠l[j]?:=by
 unfold List.Nodup;rewrite[List.pairwise_iff_getElem];constructor
 ·intro h i j a b e;rw[List.getElem?_eq_getElem (by exact Nat.lt_trans (by assumption) (by assumption)),List.getElem?_eq_getElem b]at e;exact h i j (by exact Nat.lt_trans (by assumption) (by assumption)) b a (Bb e)
 ·intro h i j c b a e;exact h i j a b (by exact aa (List.getElem?_eq_getElem c) (aa (List.getElem?_eq_getElem b) (aa e rfl)))
structure PC(ps:List Nat)(args:List zb)(Z0:Nat)(Ma:Nat)(t:TA):Prop where
 fl:t.found.length=Ma
 ah:t.sf=t.Lc.map fun p=>Sa.cp p.2 (.r p.1)
 rg:t.Z=Z0+t.Lc.length
 XH:∀j p,t.Lc[j]?=some p->p.2=Z0+j∧p.1∈ps∧Ah t.Lc p.1=some p.2
 nd:(t.Lc.map (·.1)).Nodup
 fd:∀j o,j<Ma->args[j]?=some o->∃f,t.found[j]?=some f∧((f=o∧∀v,o=.r v->Zg ps args j v=false)∨∃v x,o=.r v∧f=.r x∧Ah t.Lc v=some x)
theorem zB{l:List (Nat×Nat)}{v x w:Nat}(h:Ah l w=none):Ah (l++[(w,x)]) v=if v=w then some x else Ah l v:=by
 induction l with
 |nil=>
  refine(?_:(if w=v then some x else none)=_);by_cases e:v=w
  ·exact aa (if_pos e) (aa (if_pos e.symm) rfl)
  ·refine aa (if_neg e) (aa (if_neg (Ne.symm e)) ?_);rfl
 |cons p l c=>
  obtain⟨a,b⟩:=p;have h:(if a=w then some b else Ah l w)=none:=h;split at h
  ·injection h
  ·rename_i f;refine(?_:(if a=v then some b else Ah (l++[(w,x)]) v)=if v=w then some x else(if a=v then some b else Ah l v));refine aa (c h) ?_;by_cases e:a=v
   ·refine Cb e ?_;exact aa (if_pos rfl) (aa (if_neg f) (aa (if_pos rfl) rfl))
   ·exact aa (if_neg e) (aa (if_neg e) rfl)
theorem jy{l:List (Nat×Nat)}{v:Nat}(h:Ah l v=none):v∉l.map (·.1):=by
 induction l with
 |nil=>exact fun h=>nomatch h
 |cons p l f=>
  obtain⟨a,b⟩:=p;have h:(if a=v then some b else Ah l v)=none:=h;split at h
  ·exact nomatch h
  ·rename_i g;intro c;rcases pg c with e|c
   ·exact g e.symm
   ·exact f h c
theorem sq{l:List (Nat×Nat)}{v x:Nat}(h:Ah l v=some x):(v,x)∈l:=by
 induction l with
 |nil=>injection h
 |cons p l f=>
  obtain⟨a,b⟩:=p;have c:(if a=v then some b else Ah l v)=some x:=h;clear h;by_cases e:a=v
  ·rw[if_pos e]at c;refine Cb (Bb c) (aa e ?_);exact .head _
  ·rw[if_neg e]at c;exact .tail _ (f c)
theorem PC.next{args:List zb}{Z0 Ma:Nat}{t:TA}{o:zb}(h:PC ps args Z0 Ma t)(K:args[Ma]?=some o):PC ps args Z0 (Ma+1) (Hj ps args t Ma o):=by
 have g:∀f:zb,((f=o∧∀v,o=.r v->Zg ps args Ma v=false)∨∃v x,o=.r v∧f=.r x∧Ah t.Lc v=some x)->PC ps args Z0 (Ma+1) {t with found:=t.found++[f]}:=fun f L=>by
  refine⟨by refine(?_:(t.found++[f]).length=_);simp[h.fl],h.ah,h.rg,h.XH,h.nd,fun j s M c=>?_⟩;by_cases e:j=Ma
  ·subst e;rw[K]at c;refine Cb (Bb c) ?_;exact(pb f (by refine(?_:(t.found++[f])[j]?=_);refine aa (List.getElem?_append_right (by exact h.fl▸tf _)) (aa h.fl (aa (Nat.sub_self _) ?_));rfl) L)
  ·(change let R:Prop:=_;R;intro R);refine ya (fun u y z=>?_)<|h.fd j s (by lia) c
   exact(pb u (by refine(?_:(t.found++[f])[j]?=_);refine aa (List.getElem?_append_left (by rw[h.fl];lia)) ?_;exact y) z)
 induction o with
 |k n=>exact g (.k n) (.inl ⟨rfl,fun v e=>by exact nomatch e⟩)
 |r v=>
  refine(?_:PC ps args Z0 (Ma+1) (if Zg ps args Ma v=true then _ else _));by_cases l:Zg ps args Ma v=true
  ·refine aa (if_pos l) ?_;induction m:Ah t.Lc v with
   |some x=>exact g (.r x) (.inr (qf v x rfl rfl m))
   |none=>
    have A:v∈ps:=by unfold Zg at l;rw[Bool.and_eq_true]at l;exact List.mem_of_mem_take (by simpa using l.1)
    have B:∀w,Ah (t.Lc++[(v,t.Z)]) w=if w=v then some t.Z else Ah t.Lc w:=fun w=>zB m
    refine⟨by refine(?_:(t.found++[_]).length=_);simp[h.fl],?_,?_,fun j p i=>?_,?_,fun j s M c=>?_⟩
    ·refine(?_:t.sf++[_]=(t.Lc++[(v,t.Z)]).map _);refine aa List.map_append (aa h.ah ?_);rfl
    ·refine(?_:t.Z+1=Z0+(t.Lc++[(v,t.Z)]).length);refine aa h.rg ?_;simp;rfl
    ·have i:(t.Lc++[(v,t.Z)])[j]?=some p:=i;refine aa (B _) ?_;by_cases e:j<t.Lc.length
     ·rw[List.getElem?_append_left e]at i
      (change let R:Prop:=_;R;intro R);refine Nb (fun N O D=>?_)<|h.XH j p i
      refine(yc N O ?_);refine aa (if_neg (fun q=>by rw[q,m]at D;exact nomatch D)) ?_;exact D
     ·rw[List.getElem?_append_right (by exact Nat.not_lt.mp (by assumption))]at i;have F:j - t.Lc.length=0:=by
       induction P:j - t.Lc.length with
       |zero=>rfl
       |succ n=>rw[P]at i;exact nomatch i
      rw[F]at i;refine Cb (Bb i) ?_;exact(yc (by refine(?_:t.Z=_);refine aa h.rg ?_;lia) A (if_pos rfl))
    ·skip
     (refine aa List.map_append ?_;rewrite[List.nodup_append])
     exact(yc h.nd (List.nodup_cons.mpr ⟨List.not_mem_nil,List.nodup_nil⟩) (fun a G b hb e=>jy m (by rw[Jd hb]at e;have e:a=v:=e;refine Cb e ?_;exact G)))
    ·by_cases e:j=Ma
     ·subst e;rw[K]at c;refine Cb (Bb c) ?_;exact(pb (.r t.Z) (by refine(?_:(t.found++[_])[j]?=_);refine aa (List.getElem?_append_right (by exact h.fl▸tf _)) (aa h.fl (aa (Nat.sub_self _) ?_));rfl) (.inr (qf v t.Z rfl rfl (by exact aa (B _) (aa (if_pos rfl) rfl)))))
     ·(change let R:Prop:=_;R;intro R);refine ya (fun u y z=>?_)<|h.fd j s (by lia) c
      refine(pb u (by refine(?_:(t.found++[_])[j]?=_);refine aa (List.getElem?_append_left (by rw[h.fl];lia)) ?_;exact y) (z.imp id fun⟨w,x,Q,T,H⟩=>(qf w x Q T ?_)));refine aa (B _) (aa (if_neg (fun q=>by rw[q,m]at H;exact nomatch H)) ?_);exact H
  ·refine aa (if_neg l) ?_;exact g (.r v) (.inl ⟨rfl,fun w e=>by cases e;simpa using l⟩)
theorem PC.vv{args:List zb}{Z0:Nat}:∀(a:List zb)(Ma:Nat)(t:TA),PC ps args Z0 Ma t->(∀j,a[j]?=args[Ma+j]?)->PC ps args Z0 (Ma+a.length) (qo ps args Ma a t):=by
 intro b;induction b with
 |nil=>intro Ma t h c;exact h
 |cons o a e=>
  intro Ma t h c;have:=e (Ma+1) _ (h.next (by have:=c 0;rw[Nat.add_zero]at this;refine Cb this ?_;rfl:args[Ma]?=some o)) fun j=>by have:=c (j+1);refine aa (show Ma+1+j=Ma+(j+1) by exact Nat.add_right_comm _ _ _) (Cb this ?_);simp
  refine aa (show Ma+(o::a).length=Ma+1+a.length by simp;exact(Nat.succ_add _ _).symm) ?_;exact this
theorem Qj(ps:List Nat)(args:List zb)(Z0:Nat):PC ps args Z0 args.length (Qe ps args Z0):=by
 have:=PC.vv (ps:=ps) (args:=args) (Z0:=Z0) args 0 ⟨[],[],[],Z0⟩ ⟨rfl,rfl,rfl,(fun j p h=>by injection h),List.nodup_nil,(fun j o h=>absurd h (Nat.not_lt_zero _))⟩ fun j=>by exact aa (Nat.zero_add _) rfl
 rw[Nat.zero_add]at this;exact this
noncomputable def Ie:FM->List Sa->Option FM
 |f,[]=>some f
 |f,.cp d o::r=>(match dc f o with|some x=>Ie (Za f d x) r|none=>none)
 |f,.dr d n::r=>Ie (Za f d n) r
 |_,_=>none
theorem Un{i:Sa}{r:List Sa}{f g:FM}(h:Ie f (i::r)=some g):(∃a o x,i=.cp a o∧dc f o=some x∧Ie (Za f a x) r=some g)∨∃a n,i=.dr a n∧Ie (Za f a n) r=some g:=by
 rcases i with _|_|⟨a,o⟩|⟨a,n⟩|_|_|_|_|_;all_goals first|exact nomatch(show none=some g from h)|skip
 ·replace h:(match dc f o with|some x=>Ie (Za f a x) r|none=>none)=some g:=h;induction e:dc f o with
  |none=>rw[e]at h;exact nomatch h
  |some x=>rw[e]at h;exact .inl (zi a o x rfl e h)
 ·exact .inr (ej a n rfl h)
theorem Rr:∀(a b:List Sa)(f g:FM),Ie f a=some g->Ie f (a++b)=Ie g b:=by
 intro a;induction a with
 |nil=>intro b f g h;refine aa (Bb h) ?_;rfl
 |cons i a j=>
  intro b f g h;rcases Un h with h|h
  ·refine ve (fun c o x e l h=>?_) h;refine aa e ?_;refine(?_:(match dc f o with|some x=>Ie (Za f c x) (a++b)|none=>none)=_);refine aa l ?_;exact j b _ g h
  ·refine pd (fun c n e h=>?_) h;refine aa e ?_;exact j b _ g h
theorem Kv{f:FM}{r0:Nat}:∀(l:List (Nat×Nat))(g:FM),(∀p∈l,p.1<r0∧r0≤p.2∧∃v,f p.1=some v)->(∀n:Nat,n<r0->g n=f n)->(l.map (·.2)).Nodup-> ∃b,Ie g (l.map fun p=>Sa.cp p.2 (.r p.1))=some b∧(∀n:Nat,n<r0->b n=f n)∧(∀p∈l,b p.2=f p.1)∧∀n:Int,(∀p∈l,(p.2:Int)≠n)->b n=g n:=by
 intro c;induction c with
 |nil=>intro g h j nd;exact(Kj g rfl j (fun s h=>nomatch h) (fun s s=>rfl))
 |cons p l u=>
  intro g h j nd
  (change let R:Prop:=_;R;intro R);(refine Nb (fun w D i=>?_)<|h p (.head _);refine Aa (fun v hv=>?_) i;clear i)
  rw[List.map_cons,List.nodup_cons]at nd
  (change let R:Prop:=_;R;intro R);refine eh (fun b y z A t=>?_)<|u (Za g p.2 v) (fun q a=>h q (.tail _ a)) (fun n m=>by unfold Za;refine aa (if_neg (by omega)) ?_;exact j n m) nd.2
  refine(Kj b ?_ z (fun q a=>?_) (fun n m=>?_))
  ·refine(?_:(match dc g (.r p.1)with|some x=>Ie (Za g p.2 x) _|none=>none)=_);refine aa (show dc g (.r p.1)=some v by show g p.1=_;rw[j _ w];exact hv) ?_;exact y
  ·rcases pg a with rfl|a
   ·refine aa (t _ (fun B o e=>nd.1 (List.mem_map.mpr (pb B o (by exact_mod_cast e))))) ?_;unfold Za;exact aa (if_pos rfl) (aa hv rfl)
   ·exact A q a
  ·refine aa (t n fun q a=>m q (.tail _ a)) ?_;unfold Za;exact aa (if_neg (Ne.symm (m p (.head _)))) rfl
theorem Pu{args:List zb}{r0:Nat}{f:FM}(cn:ps.Nodup)(xa:args.length=ps.length)(hp:∀p∈ps,p<r0)(hv:∀o∈args,∃v,dc f o=some v)(hr:∀n,zb.r n∈args->n<r0)(hf:∀p∈ps,∃v,f p=some v) : ∃m,Ie f (qc ps args r0).1=some m∧(∀(j p:Nat)(o:zb),ps[j]?=some p->args[j]?=some o->m p=dc f o)∧∀n:Nat,n<r0->n∉ps->m n=f n:=by
 have a:=Qj ps args r0;refine Qa (fun za G=>?_)<|Km ps args r0
 have H:∀p∈(Qe ps args r0).Lc,p.1∈ps∧r0≤p.2:=fun p b=>by
  refine Aa (fun j hj=>?_)<|List.getElem?_of_mem b
  refine Nb (fun g1 g2 G=>?_)<|a.XH j p hj
  exact⟨g2,by lia⟩
 have ha:((Qe ps args r0).Lc.map (·.2)).Nodup:=by rewrite[Cj];intro i j B hj e;rw[sd]at hj;rw[List.getElem?_map,List.getElem?_map]at e;obtain⟨p,W⟩:∃p,(Qe ps args r0).Lc[i]?=some p:=⟨_,List.getElem?_eq_getElem (by exact Nat.lt_trans (by assumption) (by assumption))⟩;obtain⟨q,X⟩:∃q,(Qe ps args r0).Lc[j]?=some q:=⟨_,List.getElem?_eq_getElem hj⟩;rw[W,X]at e;have:=(a.XH i p W).1;have:=(a.XH j q X).1;have:p.2=q.2:=Bb e;lia
 refine eh (fun Y e1 e2 e3 e4=>?_)<|Kv (f:=f) (r0:=r0) (Qe ps args r0).Lc f (fun p b=>(yc (hp _ (H p b).1) ((H p b).2) (hf _ (H p b).1))) (fun G G=>rfl) ha
 rw[← a.ah]at e1
 have key:∀(s:List Nat)(D:List zb)(j:Nat)(g:FM),ps.drop j=s->(Qe ps args r0).found.drop j=D->(∀(i p:Nat)(o:zb),i<j->ps[i]?=some p->args[i]?=some o->g p=dc f o)->(∀n:Int,(∀p∈ps.take j,((p:Nat):Int)≠n)->g n=Y n)->
  ∃m,Ie g (pf s D)=some m∧(∀(i p:Nat)(o:zb),ps[i]?=some p->args[i]?=some o->m p=dc f o)∧∀n:Int,(∀p∈ps,(p:Int)≠n)->m n=Y n:=by
  intro s;induction s with
  |nil=>intro D j g hd _ h1 R;refine(cc g rfl (fun i p o A T=>h1 i p o (Nat.lt_of_lt_of_le (Ro A).1 ((List.drop_eq_nil_iff.mp hd):ps.length≤j)) A T) (fun n L=>R n fun p b=>L p (List.mem_of_mem_take b)))
  |cons p s ih=>
   intro D j g hd N h1 R;have u:ps[j]?=some p:=by have:=congrArg (fun l=>l[0]?) hd;simpa[List.getElem?_drop]using this
   have ba:=(Ro u).1;obtain⟨o,T⟩:∃o,args[j]?=some o:=⟨_,List.getElem?_eq_getElem (by lia)⟩;refine ya (fun fo ea O=>?_)<|a.fd j o (by lia) T
   induction D with
   |nil=>have:=List.drop_eq_nil_iff.mp N;have:=(Ro ea).1;exact absurd (by assumption) (Nat.not_lt.mpr (by assumption))
   |cons w D=>
    have:w=fo:=by have:=congrArg (fun l=>l[0]?) N;simp only[List.getElem?_drop,Nat.add_zero]at this;rw[ea]at this;simpa using this.symm
    subst this;have ka:∀z∈ps.take j,z≠p:=fun z b e=>by
     subst e;refine Aa (fun i A=>?_)<|List.getElem?_of_mem b
     have K:=(Ro A).1;rw[List.length_take]at K;have B:=Nat.lt_of_lt_of_le K (Nat.min_le_left _ _);rw[List.getElem?_take_of_lt B]at A;exact(Cj.mp cn) i j B ba (by exact aa A (aa u rfl))
    have la:g p=f p:=by refine aa (R p fun z b e=>ka z b (by exact_mod_cast e)) ?_;exact e2 p (hp p ((jr u):p∈ps))
    have pa:∀x:Int,dc f o=some x->(Ie g (dk p w)=some (Za g p x)∨(Ie g (dk p w)=some g∧g p=some x))->∃m,Ie g (pf (p::s) (w::D))=some m∧(∀(i p:Nat)(o:zb),ps[i]?=some p->args[i]?=some o->m p=dc f o)∧∀n:Int,(∀p∈ps,(p:Int)≠n)->m n=Y n:=fun x F he=>by
     have step:∀g',Ie g (dk p w)=some g'->(∀n:Int,n≠p->g' n=g n)->g' p=some x->∃m,Ie g (pf (p::s) (w::D))=some m∧(∀(i p:Nat)(o:zb),ps[i]?=some p->args[i]?=some o->m p=dc f o)∧∀n:Int,(∀p∈ps,(p:Int)≠n)->m n=Y n:=fun g' q1 q2 q3=>by
      refine aa (Rr _ _ _ _ q1) ?_;refine ih D (j+1) g' (by refine aa List.drop_add_one_eq_tail_drop (aa hd ?_);rfl:ps.drop (j+1)=s) (by refine aa List.drop_add_one_eq_tail_drop (aa N ?_);rfl:(Qe ps args r0).found.drop (j+1)=D) (fun i z o' A b P=>?_) fun n L=>?_
      ·by_cases e:i=j
       ·subst e;rw[u]at b;refine Cb (Bb b) ?_;rw[T]at P;refine Cb (Bb P) ?_;exact aa q3 (aa F rfl)
       ·rewrite[q2 z (fun M=>e ?_)]
        ·exact h1 i z o' (by lia) b P
        ·have M:z=p:=by exact_mod_cast M
         subst M;exact Decidable.byContradiction fun Ea=>(Cj.mp cn) i j (by lia) ba (by exact aa b (aa u rfl))
      ·have Q:n≠p:=fun e=>L p (by refine aa List.take_add_one (aa u ?_);simp) e.symm;refine aa (q2 n Q) ?_;exact R n fun z b=>L z (by exact List.take_add_one▸List.mem_append_left _ b)
     rcases he with he|⟨he,ra⟩
     ·exact step _ he (fun n L=>by unfold Za;exact aa (if_neg L) rfl) (by unfold Za;exact aa (if_pos rfl) rfl)
     ·exact step _ he (fun G G=>rfl) ra
    refine Aa (fun x F=>?_)<|hv o (jr T)
    refine pa x F ?_;rcases O with⟨rfl,t⟩|⟨v,y,rfl,rfl,fa⟩
    ·induction w with
     |k n=>refine Cb (Bb F) ?_;exact .inl rfl
     |r v=>
      by_cases e:v=p
      ·subst e;refine .inr ⟨by refine(?_:Ie g (if v=v then []else _)=_);refine aa (if_pos rfl) ?_;rfl,by exact la▸F⟩
      ·refine .inl ?_;refine(?_:Ie g (if v=p then []else [.cp p (.r v)])=_);refine aa (if_neg e) ?_;have sa:g v=some x:=by
        have t:=t v rfl;unfold Zg at t;rw[Bool.and_eq_false_iff]at t;by_cases c:v∈ps.take j
        ·have t:=t.resolve_left (by simp[c]);simp only[Bool.not_eq_false',decide_eq_true_eq]at t;have B:ps.idxOf v<j:=by
          refine Aa (fun i A=>?_)<|List.getElem?_of_mem c
          have K:=(Ro A).1;rw[List.length_take]at K;rw[List.getElem?_take_of_lt (by lia)]at A;by_cases M:i=ps.idxOf v
          ·lia
          ·exfalso;rcases Nat.lt_or_gt_of_ne M with q|q
           ·exact(Cj.mp cn) i (ps.idxOf v) q (List.idxOf_lt_length_iff.mpr ((List.mem_of_mem_take c):v∈ps)) (by exact aa A (aa (by rw[List.getElem?_eq_getElem (List.idxOf_lt_length_iff.mpr ((List.mem_of_mem_take c):v∈ps)),List.getElem_idxOf (List.idxOf_lt_length_iff.mpr ((List.mem_of_mem_take c):v∈ps))]:ps[ps.idxOf v]?=some v) rfl))
           ·exact(Cj.mp cn) (ps.idxOf v) i q (Ro A).1 (by exact aa A (aa (by rw[List.getElem?_eq_getElem (List.idxOf_lt_length_iff.mpr ((List.mem_of_mem_take c):v∈ps)),List.getElem_idxOf (List.idxOf_lt_length_iff.mpr ((List.mem_of_mem_take c):v∈ps))]:ps[ps.idxOf v]?=some v) rfl))
         refine aa (h1 _ v _ B (by rw[List.getElem?_eq_getElem (List.idxOf_lt_length_iff.mpr ((List.mem_of_mem_take c):v∈ps)),List.getElem_idxOf (List.idxOf_lt_length_iff.mpr ((List.mem_of_mem_take c):v∈ps))]:ps[ps.idxOf v]?=some v) t) ?_;exact F
        ·refine aa (R v fun z b M=>c (by rw[show v=z by exact_mod_cast M.symm];exact b)) ?_;refine aa (e2 v (hr v (jr T))) ?_;exact F
       refine(?_:(match dc g (.r v)with|some x=>Ie (Za g p x) []|none=>none)=_);refine aa (show dc g (.r v)=some x from sa) ?_;rfl
    ·have F:f v=some x:=F;have hy:=(H _ (sq fa)).2;have ua:y≠p:=fun e=>by have:=hp p ((jr u):p∈ps);lia
     refine .inl ?_;refine(?_:Ie g (if y=p then []else [.cp p (.r y)])=_);refine aa (if_neg ua) ?_;have wa:g y=some x:=by refine aa (R y fun z b M=>by have:=hp z (List.mem_of_mem_take b);lia) ?_;refine aa (e3 _ (sq fa)) ?_;exact F
     refine(?_:(match dc g (.r y)with|some x=>Ie (Za g p x) []|none=>none)=_);refine aa (show dc g (.r y)=some x from wa) ?_;rfl
 refine Pb (fun m k1 k2 k3=>?_)<|key ps (Qe ps args r0).found 0 Y rfl rfl (fun i G G h=>absurd h (Nat.not_lt_zero _)) (fun G G=>rfl)
 refine(cc m ?_ k2 (fun n L Q=>?_))
 ·refine(?_:Ie f ((Qe ps args r0).sf++pf ps (Qe ps args r0).found)=_);refine aa (Rr _ _ _ _ e1) ?_;exact k1
 ·refine aa (k3 n fun p b e=>Q (by rw[show n=p by exact_mod_cast e.symm];exact b)) ?_;exact e2 n L
noncomputable def ng(ps:List Nat):MS->List Sa->Option MS
 |s,[]=>some s
 |s,i::r=>(match Ge s.Na.Ua i.args with
  |none=>none
  |some ks=>(match Pe ps s i ks with
   |none=>none
   |some s'=>ng ps s' r))
theorem fp{s:MS}{i:Sa}{r:List Sa}:ng ps s (i::r)=(match Ge s.Na.Ua i.args with
 |none=>none
 |some ks=>(match Pe ps s i ks with
  |none=>none
  |some s'=>ng ps s' r)):=rfl
theorem ub{s s':MS}{i:Sa}{r:List Sa}(a:Ge s.Na.Ua i.args=some ks)(b:Pe ps s i ks=some s'):ng ps s (i::r)=ng ps s' r:=by refine aa fp (aa a ?_);dsimp only;exact aa b rfl
theorem lr:∀(a b:List Sa)(s s':MS),ng ps s a=some s'->ng ps s (a++b)=ng ps s' b:=by
 intro c;induction c with
 |nil=>intro b s s' h;rw[← Bb h];rfl
 |cons i a g=>
  intro b s s' h;refine aa List.cons_append ?_;rw[fp]at h ⊢;induction e:Ge s.Na.Ua i.args with
  |none=>rw[e]at h;injection h
  |some ks=>
   rw[e]at h;dsimp only at h ⊢;induction f:Pe ps s i ks with
   |none=>rw[f]at h;exact nomatch h
   |some j=>rw[f]at h;dsimp only at h ⊢;exact g b j s' h
inductive Kf (P:List xd) (ps:List Nat):Nat->MS->MS->Prop
 |refl (s:MS):Kf P ps 0 s s
 |step {n:Nat} {s s' s'':MS}:cg P ps s=some (.go s')->Kf P ps n s' s''->Kf P ps (n+1) s s''
theorem Kf.trans{s s' b:MS}(h:Kf P ps n s s')(h':Kf P ps m s' b):Kf P ps (n+m) s b:=by
 induction h with
 |refl=>refine aa (Nat.zero_add _) ?_;exact h'
 | @step n _ _ _ a _ c=>refine aa (show n+1+m=n+m+1 by exact Nat.add_right_comm _ _ _) ?_;exact .step a (c h')
theorem Kf.one{s s':MS}(h:cg P ps s=some (.go s')):Kf P ps 1 s s':=.step h (.refl _)
theorem Kf.vv{s s' b:MS}{v:Int}(h:Kf P ps n s s')(c:cg P ps s'=some (.done v b)):∀m,n<m->Mine.vv P ps m s=some (v,b):=by
 induction h with
 |refl s=>intro m e;induction m with
  |zero=>exact absurd (by assumption) (Nat.lt_irrefl _)
  |succ m=>unfold Mine.vv;exact aa c rfl
 |step a _ f=>intro m e;induction m with
  |zero=>exact absurd (by assumption) (Nat.not_lt_zero _)
  |succ m=>unfold Mine.vv;refine aa a ?_;exact f c m (by exact Nat.le_of_lt_succ (by assumption))
structure Qo(s s':MS):Prop where
 jc:s'.Na.jc=s.Na.jc
 Fb:s'.Na.Fb=s.Na.Fb
 je:s'.Na.je=s.Na.je
 stack:s'.stack=s.stack
 Rb:s'.Rb=s.Rb
 most:s'.most=s.most
theorem Qo.refl(s:MS):Qo s s:=⟨rfl,rfl,rfl,rfl,rfl,rfl⟩
theorem Qo.trans{s s' a:MS}(h:Qo s s')(h':Qo s' a):Qo s a:=
 ⟨h'.jc.trans h.jc,h'.Fb.trans h.Fb,h'.je.trans h.je,h'.stack.trans h.stack,h'.Rb.trans h.Rb,h'.most.trans h.most⟩
theorem Lu{s s':MS}{i:Sa}(l:Ef i=false)(h:Pe ps s i ks=some s'):Qo s s'∧s'.Na.place=s.Na.place+1:=by
 have g:∀{c v:Int}{x:MS},some (s.Uc c v)=some x->Qo s x∧x.Na.place=s.Na.place+1:=fun h=>by refine Cb (Bb h) ?_;exact⟨⟨rfl,rfl,rfl,rfl,rfl,rfl⟩,rfl⟩
 induction i with
 |Qg _ _=>injection l
 |name=>exact g (Am h).2
 |slot=>exact g (Am h).2
 |cp c o=>refine ya (fun f f h=>?_)<|Uh h;exact g h
 |dr c o=>refine ya (fun f f h=>?_)<|Uh h;exact g h
 |Yh c o=>refine ya (fun f f h=>?_)<|Uh h;refine Cb (Bb h) ?_;exact⟨⟨rfl,rfl,rfl,rfl,rfl,rfl⟩,rfl⟩
 |st _ _ _=>refine pd (fun f f f h=>?_)<|bp h;refine Cb (Bb h) ?_;exact⟨⟨rfl,rfl,rfl,rfl,rfl,rfl⟩,rfl⟩
 |ld c _ _=>
  refine ya (fun f f h=>?_)<|Uh h
  rw[Option.map_eq_some_iff]at h
  (refine ya (fun v f j=>?_) h;clear h;refine Cb j ?_)
  exact⟨⟨rfl,rfl,rfl,rfl,rfl,rfl⟩,rfl⟩
 |ar m c x y=>
  refine pd (fun a b f h=>?_)<|bp h
  by_cases e:m=.mul∧¬(-(2^62)<b∧b<2^62)
  ·rw[if_pos e]at h;injection h
  ·rw[if_neg e]at h;exact g h
theorem Yr{a:Type}{l r:List a}{x:a}(h:l.drop n=x::r):l[n]?=some x∧l.drop (n+1)=r:=by refine⟨?_,by refine aa List.drop_add_one_eq_tail_drop (aa h ?_);rfl⟩;have:=congrArg (fun l=>l[0]?) h;simpa[List.getElem?_drop]using this
theorem ee:∀(b:List Sa)(s s':MS)(post:List Sa),(∀i∈b,Ef i=false)->P[s.Na.jc]?=some B->B.la.drop s.Na.place=b++post->ng ps s b=some s'->Kf P ps b.length s s'∧Qo s s'∧B.la.drop s'.Na.place=post:=by
 intro c;induction c with
 |nil=>intro s s' post g l h a;refine Cb (Bb a) ?_;exact(yc (.refl _) (Qo.refl _) h)
 |cons i b n=>
  intro s s' post g l h a;refine Qa (fun o p=>?_)<|Yr (show B.la.drop s.Na.place=i::(b++post) from h);rw[fp]at a;induction e:Ge s.Na.Ua i.args with
  |none=>rw[e]at a;injection a
  |some ks=>
   rw[e]at a;dsimp only at a;induction f:Pe ps s i ks with
   |none=>rw[f]at a;injection a
   |some q=>
    rw[f]at a;dsimp only at a;refine Qa (fun m t=>?_)<|Lu (g i (.head _)) f
    refine Nb (fun u v w=>?_)<|n q s' post (fun j x=>g j (.tail _ x)) (by exact m.jc▸l) (by exact t▸p) a
    refine(yc (.step ?_ u) (m.trans v) w);unfold cg;refine aa l ?_;dsimp only;refine aa o ?_;dsimp only;refine aa e ?_;dsimp only;refine aa f ?_;rfl
theorem qi{s:MS}(a:P[s.Na.jc]?=some B)(h:B.la.drop s.Na.place=[]):cg P ps s=Ft s B.en:=by
 have:B.la[s.Na.place]?=none:=by rewrite[List.getElem?_eq_none_iff];exact List.drop_eq_nil_iff.mp h
 unfold cg;refine aa a ?_;dsimp only;exact aa this rfl
structure AS where
 g:Nat->Int
 obj:Int
 slot:Int
 Ja:List (List Int)
 oa:List Nr
noncomputable def AS.set(a:AS)(n:Nat)(v:Int):AS:={a with g:=fun m=>if m=n then v else a.g m}
noncomputable def Rq(h:Int)(a:AS):zb->Int
 | .r n=>if n=5 then h else a.g n
 | .k n=>n
noncomputable def Qx(h:Int)(a:AS):Code->AS
 | .ar e c b=>a.set c (Le e (a.g c) (Rq h a b))
 | .Yh c=>{a with Ja:=a.Ja++[[a.g c]]}
 | .iG c f=>{a with obj:=a.g c,oa:=if f=true then a.oa++[⟨.de,[500,a.g c],a.g c⟩]else a.oa}
 | .eF c f=>{a.set c a.obj with oa:=if f=true then a.oa++[⟨.load,[500],a.obj⟩]else a.oa}
 | .BF c=>{a with slot:=a.g c}
 | .VC c=>a.set c a.slot
 | .NC c=>{a with slot:=a.g c}
 | .vk=>{a with Ja:=a.Ja++[[h]]}
 | .ml=>{a with obj:=h}
 | .ym=>{a with Ja:=a.Ja++[[1]]}
 | .mul c=>a.set c (Le .mul (a.g c) 3)
noncomputable def Ic(h:Int)(a:AS)(l:List Code):AS:=l.foldl (Qx h) a
structure Vw(K:List Nat)(a:AS)(s:MS):Prop where
 Z:∀n∈K,s.Na.Ua n=some (a.g n)
 r4:s.Na.Ua 4=some 500
 r5:s.Na.Ua 5=some s.Na.Fb
 r6:s.Na.Ua 6=some s.Na.Fb
 obj:s.mem 500=some a.obj
 slot:s.mem s.Na.Fb=some a.slot
 Ja:s.Ja=a.Ja
 oa:s.oa=a.oa
 hb:500<s.Na.Fb∧s.Na.Fb<10000
theorem ug{f:FM}{i v n:Int}(h:n≠i):Za f i v n=f n:=if_neg h
theorem Qi{f:FM}{i v:Int}:Za f i v i=some v:=if_pos rfl
abbrev VJ (K:List Nat):Prop:=∀n∈K,n<4∨8≤n
section
variable{K:List Nat}{a:AS}{s:MS}
theorem Vw.set(V:Vw K a s)(b:Nat)(v:Int)(f:b<4∨7≤b){K':List Nat}(c:∀n∈K',n=b∨n∈K):Vw K' (a.set b v) (s.Uc b v)where
 Z n hn:=by
  refine(?_:Za s.Na.Ua b v n=some (if n=b then v else a.g n));by_cases e:n=b
  ·refine Cb e ?_;exact aa Qi (aa (if_pos rfl) rfl)
  ·refine aa (ug (by exact mt Int.ofNat.inj (by assumption))) (aa (if_neg e) ?_);exact V.Z n ((c n hn).resolve_left e)
 r4:=by refine(?_:Za s.Na.Ua b v 4=_);refine aa (ug (by lia)) ?_;exact V.r4
 r5:=by refine(?_:Za s.Na.Ua b v 5=_);refine aa (ug (by lia)) ?_;exact V.r5
 r6:=by refine(?_:Za s.Na.Ua b v 6=_);refine aa (ug (by lia)) ?_;exact V.r6
 obj:=V.obj
 slot:=V.slot
 Ja:=V.Ja
 oa:=V.oa
 hb:=V.hb
theorem Vw.My(V:Vw K a s)(c:VJ K)(b:Int)(v:Int)(f:b=7∨b = -1∨(b=6∧v=s.Na.Fb)):Vw K a (s.Uc b v)where
 Z n hn:=by refine(?_:Za s.Na.Ua b v n=_);have:=c n hn;refine aa (ug (by lia)) ?_;exact V.Z n hn
 r4:=by refine(?_:Za s.Na.Ua b v 4=_);refine aa (ug (by lia)) ?_;exact V.r4
 r5:=by refine(?_:Za s.Na.Ua b v 5=_);refine aa (ug (by lia)) ?_;exact V.r5
 r6:=by
  refine(?_:Za s.Na.Ua b v 6=some s.Na.Fb);by_cases e:b=6
  ·refine Cb e ?_;refine aa Qi ?_;rcases f with h|h|h
   ·lia
   ·lia
   ·exact aa h.2 rfl
  ·refine aa (ug (by lia)) ?_;exact V.r6
 obj:=V.obj
 slot:=V.slot
 Ja:=V.Ja
 oa:=V.oa
 hb:=V.hb
theorem Vw.Yh(V:Vw K a s)(x:List Int):Vw K {a with Ja:=a.Ja++[x]} {s with Ja:=s.Ja++[x]}:=
 {V with Ja:=by refine(?_:s.Ja++[x]=_);exact aa V.Ja rfl}
theorem Vw.XK(V:Vw K a s)(f:Bool)(x:Nr):Vw K {a with oa:=if f=true then a.oa++[x]else a.oa} {s with oa:=if f=true then s.oa++[x]else s.oa}:=
 {V with oa:=by refine(?_:(if f=true then s.oa++[x]else s.oa)=_);exact aa V.oa rfl}
theorem Vw.VF(V:Vw K a s)(v:Int):Vw K {a with obj:=v} {s with mem:=Za s.mem 500 v,Na:={s.Na with place:=s.Na.place+1}}:=
 {V with obj:=(Qi:Za s.mem 500 v 500=some v),slot:=by refine(?_:Za s.mem 500 v s.Na.Fb=_);refine aa (ug (by have:=V.hb;lia)) ?_;exact V.slot}
theorem Vw.Uz(V:Vw K a s)(v:Int):Vw K {a with slot:=v} {s with mem:=Za s.mem s.Na.Fb v,Na:={s.Na with place:=s.Na.place+1}}:=
 {V with slot:=(Qi:Za s.mem s.Na.Fb v s.Na.Fb=some v),obj:=by refine(?_:Za s.mem s.Na.Fb v 500=_);refine aa (ug (by have:=V.hb;lia)) ?_;exact V.obj}
theorem th{f:FM}{o:zb}{x:Int}(h:dc f o=some x):Ge f [o]=some [x]:=by unfold Ge;refine aa h ?_;rfl
theorem Yj{f:FM}{o a:zb}{x y:Int}(h:dc f o=some x)(h':dc f a=some y):Ge f [o,a]=some [x,y]:=by unfold Ge;exact aa h (aa (th h') rfl)
theorem Vw.o4(V:Vw K a s):dc s.Na.Ua (.r 4)=some 500:=V.r4
theorem Vw.o5(V:Vw K a s):dc s.Na.Ua (.r 5)=some s.Na.Fb:=V.r5
theorem Vw.o6(V:Vw K a s):dc s.Na.Ua (.r 6)=some s.Na.Fb:=V.r6
theorem Vn{b:Ar}{a x:Nat}{y:zb}{u v:Int}(h:b=.mul-> -(2^62)<v∧v<2^62):Pe ps s (.ar b a x y) [u,v]=some (s.Uc a (Le b u v)):=by show(if b=.mul∧_ then none else some _)=_;exact aa (if_neg (fun e=>e.2 (h e.1))) rfl
theorem Vw.xv(V:Vw K a s){o:zb}{h:Int}(c:∀n,o=.r n->(n∈K∧n≠5)∨(n=5∧s.Na.Fb=h)):dc s.Na.Ua o=some (Rq h a o):=by
 induction o with
 |k n=>rfl
 |r n=>
  refine(?_:s.Na.Ua n=some (if n=5 then h else a.g n));rcases c n rfl with⟨e,b⟩|⟨rfl,b⟩
  ·refine aa (if_neg b) ?_;exact V.Z n e
  ·refine Cb b ?_;exact V.r5
theorem By(p:VJ K)(o:∀n,n<3->n∈K){c:Code}(l:c.ok){h:Int}(x:s.Na.Fb=h∨(c≠.vk∧c≠.ml))(V:Vw K a s):∃s',ng ps s c.la=some s'∧Vw K (Qx h a c) s':=by
 have q:∀{n},n<3->dc s.Na.Ua (.r n)=some (a.g n):=fun z=>V.Z _ (o _ z);have j:∀{g:Nat},g<3->∀n∈K,n=g∨n∈K:=fun y y h=>.inr h;induction c with
 |ar D i b=>
  (refine Nb (fun t u hb=>?_) l;clear l)
  have v:dc s.Na.Ua b=some (Rq h a b):=V.xv fun n e=>by
   rcases hb with⟨m,rfl,A⟩|⟨m,rfl,_⟩
   ·cases e;exact .inl ⟨o _ A,by omega⟩
   ·exact nomatch e
  exact(pb _ ((ub (Yj (q u) v) (Vn fun e=>by rcases t with r|r|r<;>rw[r]at e<;>exact nomatch e)).trans rfl) (V.set i _ (.inl (Nat.lt_succ_of_lt u)) (j u)))
 |Yh i=>exact(pb _ ((ub (th (q l)) rfl).trans rfl) ((V.My p 7 _ (.inl rfl)).Yh _))
 |iG i f=>exact(pb _ ((ub (Yj V.o4 (q l)) rfl).trans rfl) ((V.VF (a.g i)).XK f ⟨.de,[500,a.g i],a.g i⟩))
 |eF i f=>refine(pb _ ((ub (th V.o4) (s':={ (s.Uc i a.obj)with oa:=if f=true then s.oa++[⟨.load,[500],a.obj⟩]else s.oa}) ?_).trans rfl) ((V.set i a.obj (.inl (Nat.lt_succ_of_lt l)) (j l)).XK f ⟨.load,[500],a.obj⟩));refine(?_:(s.mem 500).map _=_);refine aa V.obj ?_;rfl
 |BF i=>exact(pb _ ((ub (Yj V.o5 (q l)) rfl).trans rfl) (V.Uz (a.g i)))
 |VC i=>refine(pb _ ((ub (th V.o6) (s':=s.Uc i a.slot) ?_).trans rfl) (V.set i a.slot (.inl (Nat.lt_succ_of_lt l)) (j l)));refine(?_:(s.mem s.Na.Fb).map _=_);refine aa V.slot ?_;rfl
 |NC i=>have w:Vw K a (s.Uc 6 s.Na.Fb):=V.My p 6 _ (.inr (.inr ⟨rfl,rfl⟩));refine(pb _ ((ub (Yj V.o5 (show dc s.Na.Ua (.k 0)=some _ from rfl)) (s':=s.Uc 6 s.Na.Fb) ?_).trans ((ub (Yj w.o6 (show dc (s.Uc 6 s.Na.Fb).Na.Ua (.r i)=some (a.g i) from w.Z i (o _ l))) rfl).trans rfl)) (w.Uz (a.g i)));refine aa (Vn (fun e=>by injection e)) (aa (by show(s.Na.Fb+0)%_=_;have:=V.hb;lia:Le .add s.Na.Fb (((0:Nat)):Int)=s.Na.Fb) ?_);rfl
 |vk=>have e:s.Na.Fb=h:=x.resolve_right fun e=>e.1 rfl;refine Cb e ?_;exact(pb _ ((ub (th V.o5) rfl).trans rfl) ((V.My p 7 _ (.inl rfl)).Yh _))
 |ml=>refine Cb ((x.resolve_right fun e=>e.2 rfl):s.Na.Fb=h) ?_;exact(pb _ ((ub (Yj V.o4 V.o6) rfl).trans rfl) (V.VF _))
 |ym=>have B:dc (s.Uc 7 1).Na.Ua (.r 7)=some 1:=(Qi:Za s.Na.Ua 7 1 7=some 1);refine(pb _ ((ub (Yj V.o5 V.o6) (s':=s.Uc 7 1) ?_).trans ((ub (th B) rfl).trans rfl)) ((((V.My p 7 _ (.inl rfl)):Vw K a (s.Uc 7 1)).My p (-1) _ (.inr (.inl rfl))).Yh _));refine(?_:some (s.Uc 7 ((if s.Na.Fb=s.Na.Fb then 1 else 0)%4294967296))=_);refine aa (if_pos rfl) ?_;rfl
 |mul i=>exact(pb _ ((ub (Yj (q l) (show dc s.Na.Ua (.k 3)=some 3 from rfl)) (Vn fun y=>by exact Ub rfl)).trans rfl) (V.set i _ (.inl (Nat.lt_succ_of_lt l)) (j l)))
theorem Sl(y:VJ K)(f:∀n,n<3->n∈K){h:Int}:∀(l:List Code)(a:AS)(s:MS),(∀c∈l,c.ok)->(s.Na.Fb=h∨∀c∈l,c≠.vk∧c≠.ml)->Vw K a s->∃s',ng ps s (va l)=some s'∧Vw K (Ic h a l) s':=by
 intro l;induction l with
 |nil=>intro a s _ _ V;exact(pb s rfl V)
 |cons c l o=>
  intro a s t u V;refine ya (fun s1 v z=>?_)<|By (ps:=ps) y f (t c (.head _)) (u.imp id fun h=>h c (.head _)) V;have hs:s1.Na.Fb=s.Na.Fb:=by
   have:∀(g:List Sa)(s s':MS),(∀i∈g,Ef i=false)->ng ps s g=some s'->s'.Na.Fb=s.Na.Fb:=fun g=>by
    induction g with
    |nil=>intro s s' _ h;(replace h:=(Bb h).symm;subst h);rfl
    |cons i g o=>
     intro s s' w b;rw[fp]at b;cases e:Ge s.Na.Ua i.args with
     |none=>rw[e]at b;injection b
     |some ks=>
      rw[e]at b;dsimp only at b;cases m:Pe ps s i ks with
      |none=>rw[m]at b;injection b
      |some p=>rw[m]at b;dsimp only at b;refine aa (o p s' (fun j A=>w j (.tail _ A)) b) ?_;exact(Lu (w i (.head _)) m).1.Fb
   exact this _ _ _ (fun i B=>cq B) v
  refine ya (fun p m D=>?_)<|o _ s1 (fun x q=>t x (.tail _ q)) (by refine aa hs ?_;exact u.imp id fun h x q=>h x (.tail _ q)) z
  refine(pb p ?_ D);refine(?_:ng ps s (c.la++va l)=_);refine aa (lr _ _ _ _ v) ?_;exact m
end
noncomputable def uv(g:Nat->Int)(n:Nat)(v:Int):Nat->Int:=fun m=>if m=n then v else g m
noncomputable def EB(g:Nat->Int):Tl->Nat->Int
 | .OB=>uv g 10 (g 9)| .pA=>uv g 9 (g 10)| .jC=>uv g 10 7| .KJ=>uv g 0 (g 9)| .AA=>uv g 10 (g 0)| .VI=>uv g 9 (g 9)| .add=>uv g 10 (Le .add (g 10) 1)
noncomputable def rn(g:Nat->Int)(l:List Tl):Nat->Int:=l.foldl EB g
noncomputable def dd.SJ(c:dd):Nat:=if c.Ai<2 then 9+c.Ai else 10
noncomputable def post(hv:Bool)(c:dd)(g:Nat->Int)(v:Int):Int:=if hv=true then rn (if c.nc=9 then uv g 9 v else g) c.tail c.SJ else 0
noncomputable def Vq(a:AS):AS:=(AS.set {a with slot:=a.g 0} 9 1).set 10 (a.g 1)
noncomputable def yi(D:Xb)(h:Int)(a:AS):AS:=(Ic h (Vq a) D.ec).set 11 (Ic h (Vq a) D.ec).slot
noncomputable def Bh(D:Xb)(h:Int)(a:AS):AS:=(Ic h a D.mc).set 8 (Le .sub ((Ic h a D.mc).g 3) 1)
noncomputable def Xb.Qv(D:Xb)(a:AS):dd:=if Le .and (a.g D.mx) 1=0 then D.c4 else D.c3
noncomputable def Im(h:Int)(c:dd)(a:AS):AS:=⟨fun p=>Rq h a (c.Sb p),a.obj,0,a.Ja,a.oa⟩
noncomputable def ev(D:Xb):Nat->Int->Nat->AS->Int×AS
 |0,h,_,a=>((if D.hv=true then(yi D h a).g D.bx else 0),yi D h a)
 |n+1,h,c,a=>
  (post D.hv (D.Qv (Bh D h (yi D h a))) (Ic h (Bh D h (yi D h a)) (D.Qv (Bh D h (yi D h a))).yb).g
   (ev D n (1000+8*((c:Int)+1)) (c+1) (Im h (D.Qv (Bh D h (yi D h a))) (Ic h (Bh D h (yi D h a)) (D.Qv (Bh D h (yi D h a))).yb))).1,(ev D n (1000+8*((c:Int)+1)) (c+1) (Im h (D.Qv (Bh D h (yi D h a))) (Ic h (Bh D h (yi D h a)) (D.Qv (Bh D h (yi D h a))).yb))).2)
theorem bF{h:Int}{a:AS}{c:Code}(g:c.ok)(i:3≤n):(Qx h a c).g n=a.g n:=by
 have st:∀(m:Nat)(v:Int),m<3->(a.set m v).g n=a.g n:=fun m v j=>if_neg (by lia);induction c with
 |ar l e b=>exact st _ _ g.2.1
 |eF e f=>exact st _ _ g
 |VC e=>exact st _ _ g
 |mul e=>exact st _ _ g
 |_=>rfl
theorem Ap{h:Int}(f:3≤n):∀(l:List Code)(a:AS),(∀c∈l,c.ok)->(Ic h a l).g n=a.g n:=by
 intro b;induction b with
 |nil=>intro a e;exact rfl
 |cons c l g=>intro a e;refine(?_:(Ic h (Qx h a c) l).g n=_);exact aa (g _ fun x i=>e x (.tail _ i)) (aa (bF (e c (.head _)) f) rfl)
theorem HB(b:D.ok)(h:Int)(a:AS):(yi D h a).g 3=a.g 3:=by refine(?_:(if(3:Nat)=11 then(Ic h (Vq a) D.ec).slot else(Ic h (Vq a) D.ec).g 3)=_);refine aa (Ap (tf _) _ _ b.ec) ?_;rfl
theorem xH(b:D.ok)(h:Int)(a:AS):(Bh D h a).g 8=Le .sub (a.g 3) 1:=by refine(?_:(if(8:Nat)=8 then Le .sub ((Ic h a D.mc).g 3) 1 else(Ic h a D.mc).g 8)=_);exact aa (if_pos rfl) (aa (Ap (tf _) _ _ b.mc) rfl)
structure MF(s s':MS):Prop where
 Fb:s'.Na.Fb=s.Na.Fb
 je:s'.Na.je=s.Na.je
 stack:s'.stack=s.stack
 Rb:s'.Rb=s.Rb
 most:s'.most=s.most
theorem Qo.JF{s s':MS}(h:Qo s s'):MF s s':=⟨h.Fb,h.je,h.stack,h.Rb,h.most⟩
theorem MF.trans{s s' a:MS}(h:MF s s')(h':MF s' a):MF s a:=⟨h'.Fb.trans h.Fb,h'.je.trans h.je,h'.stack.trans h.stack,h'.Rb.trans h.Rb,h'.most.trans h.most⟩
structure Ih(s s':MS):Prop where
 JF:MF s s'
 mem:s'.mem=s.mem
 Ja:s'.Ja=s.Ja
 oa:s'.oa=s.oa
theorem Ih.refl(s:MS):Ih s s:=⟨⟨rfl,rfl,rfl,rfl,rfl⟩,rfl,rfl,rfl⟩
theorem Ih.trans{s s' a:MS}(h:Ih s s')(h':Ih s' a):Ih s a:=⟨h.JF.trans h'.JF,h'.mem.trans h.mem,h'.Ja.trans h.Ja,h'.oa.trans h.oa⟩
theorem Ih.Uc(s:MS)(a v:Int):Ih s (s.Uc a v):=⟨⟨rfl,rfl,rfl,rfl,rfl⟩,rfl,rfl,rfl⟩
structure E0(a:AS)(s:MS):Prop where
 Z:∀n:Nat,n<4->s.Na.Ua n=some (a.g n)
 obj:s.mem 500=some a.obj
 Ja:s.Ja=a.Ja
 oa:s.oa=a.oa
 hb:500<s.Na.Fb∧s.Na.Fb<10000
 jc:s.Na.jc=0
 pl:s.Na.place=0
noncomputable def Ql(P:List xd)(s:MS)(v:Int):Prop:=∃B o,P[s.Na.jc]?=some B∧B.la.drop s.Na.place=[]∧B.en=.ic o∧(match o with|some r=>s.Na.Ua r|none=>some 0)=some v
theorem Ql.done{s:MS}{v:Int}(h:Ql P s v)(hs:s.stack=[]):cg P ps s=some (.done v s):=by
 (refine Ig (fun B o a b c e=>?_) h;clear h)
 refine aa (qi a b) (aa c ?_);refine(?_:(match(match o with|some r=>s.Na.Ua r|none=>some 0)with|none=>none|some v=>(match s.stack.getLast? with|none=>some (lz.done v s)|some f=>some (lz.go {s with Na:={f with Ua:=Za f.Ua s.Na.je v},stack:=s.stack.dropLast})))=_);refine aa e (aa hs ?_);rfl
theorem Ql.Ez{s:MS}{v:Int}{st:List Fr}{f:Fr}(h:Ql P s v)(hs:s.stack=st++[f]):cg P ps s=some (.go {s with Na:={f with Ua:=Za f.Ua s.Na.je v},stack:=st}):=by
 (refine Ig (fun B o a b c e=>?_) h;clear h)
 refine aa (qi a b) (aa c ?_);refine(?_:(match(match o with|some r=>s.Na.Ua r|none=>some 0)with|none=>none|some v=>(match s.stack.getLast? with|none=>some (lz.done v s)|some f=>some (lz.go {s with Na:={f with Ua:=Za f.Ua s.Na.je v},stack:=s.stack.dropLast})))=_);exact aa e (aa hs (aa List.getLast?_concat (aa List.dropLast_concat rfl)))
section
variable{a:AS}{s:MS}{h:Int}
theorem bz(E:E0 a s):∃s',ng ps s Lb=some s'∧Vw [0,1,2,3,9,10] (Vq a) s':=by
 have g:∀n,n<4->Za (Za (Za s.Na.Ua 4 500) 5 s.Na.Fb) 6 s.Na.Fb ((n:Nat):Int)=some (a.g n):=fun n b=>by refine aa (ug (by omega)) (aa (ug (by omega)) (aa (ug (by omega)) ?_));exact E.Z n b
 have e:dc (Za (Za s.Na.Ua 4 500) 5 s.Na.Fb) (.r 5)=some s.Na.Fb:=(Qi:Za _ 5 s.Na.Fb 5=_);have c:dc (Za (Za (Za s.Na.Ua 4 500) 5 s.Na.Fb) 6 s.Na.Fb) (.r 5)=some s.Na.Fb:=by refine(?_:Za (Za (Za s.Na.Ua 4 500) 5 s.Na.Fb) 6 s.Na.Fb 5=_);refine aa (ug (by exact Ub rfl)) ?_;exact Qi
 have V:Vw [0,1,2,3] {a with slot:=a.g 0} {s with mem:=Za s.mem s.Na.Fb (a.g 0),Na:={s.Na with Ua:=Za (Za (Za s.Na.Ua 4 500) 5 s.Na.Fb) 6 s.Na.Fb,place:=s.Na.place+1+1+1+1}}:=
  {Z:=fun n b=>g n ((by decide:∀n∈[0,1,2,3],n<4) n b),r4:=(by refine aa (ug (by decide)) (aa (ug (by decide)) ?_);exact Qi:Za (Za (Za s.Na.Ua 4 500) 5 s.Na.Fb) 6 s.Na.Fb 4=some 500),r5:=c,r6:=(Qi:Za (Za (Za s.Na.Ua 4 500) 5 s.Na.Fb) 6 s.Na.Fb 6=_),obj:=by refine(?_:Za s.mem s.Na.Fb (a.g 0) 500=_);refine aa (ug (by have:=E.hb;omega)) ?_;exact E.obj,slot:=(Qi:Za s.mem s.Na.Fb (a.g 0) s.Na.Fb=_),Ja:=E.Ja,oa:=E.oa,hb:=E.hb}
 refine(pb _ ?_ ((V.set 9 1 (.inr (by decide)) (K':=[0,1,2,3,9]) (by decide)).set 10 (a.g 1) (.inr (by decide)) (K':=[0,1,2,3,9,10]) (by decide)));refine(ub rfl rfl).trans ((ub rfl rfl).trans ((ub (th e) rfl).trans ((ub (Yj c (show dc _ (.r 0)=some (a.g 0) from g 0 (by exact Pa rfl))) rfl).trans ((ub rfl rfl).trans ((ub (th ?_) rfl).trans rfl)))));exact(V.set 9 1 (.inr (by decide)) (K':=[0,1,2,3,9]) (by decide)).Z 1 (by exact .tail _ (.head _))
theorem Tr(j:D.ok)(u:P[0]?=some D.b0)(v:s.Na.Fb=h∨∀c∈D.ec,c≠.vk∧c≠.ml)(E:E0 a s):∃t s',t≤12∧Kf P D.ps t s s'∧MF s s'∧s'.Na.jc=(if a.g 3=0 then 2 else 1)∧s'.Na.place=0∧Vw [0,1,2,3,9,10,11] (yi D h a) s':=by
 refine ya (fun s1 w x=>?_)<|bz (ps:=D.ps) E
 have f:P[s.Na.jc]?=some D.b0:=by refine aa E.jc ?_;exact u
 refine Nb (fun y g z=>?_)<|ee (P:=P) (ps:=D.ps) (B:=D.b0) Lb s s1 (va D.ec++[.ld 11 5 false]) (by exact Ub rfl) f (by refine aa E.pl ?_;unfold Xb.b0;rfl) w
 refine ya (fun b A l=>?_)<|Sl (ps:=D.ps) (h:=h) (K:=[0,1,2,3,9,10]) (by decide) (by decide) D.ec (Vq a) s1 j.ec (by exact g.Fb▸v) x
 refine Nb (fun F m2 G=>?_)<|ee (P:=P) (ps:=D.ps) (B:=D.b0) (va D.ec) s1 b [.ld 11 5 false] (fun i H=>Gf H) (by exact g.jc▸f) z A
 have n:=l.set 11 (Ic h (Vq a) D.ec).slot (.inr (by decide)) (K':=[0,1,2,3,9,10,11]) (by decide);have L:ng D.ps b [.ld 11 5 false]=some (b.Uc 11 (Ic h (Vq a) D.ec).slot):=by refine(ub (th l.o5) (s':=b.Uc 11 (Ic h (Vq a) D.ec).slot) ?_).trans rfl;refine(?_:(b.mem b.Na.Fb).map _=_);refine aa l.slot ?_;rfl
 refine Nb (fun o p q=>?_)<|ee (P:=P) (ps:=D.ps) (B:=D.b0) [.ld 11 5 false] b _ [] (by exact Ub rfl) (by refine aa m2.jc (aa g.jc ?_);exact f) (by refine aa G ?_;rfl) L
 generalize b.Uc 11 (Ic h (Vq a) D.ec).slot=e at n o p q;have m:=g.trans (m2.trans p);have es:=qi (ps:=D.ps) (P:=P) (s:=e) (B:=D.b0) (by refine aa m.jc ?_;exact f) q;have v3:e.Na.Ua ((3:Nat):Int)=some (a.g 3):=by refine Cb (HB j h a) ?_;exact n.Z 3 (by exact Ub rfl)
 have es:cg P D.ps e=some (.go {e with Na:={e.Na with jc:=if a.g 3=0 then 2 else 1,place:=0}}):=by refine aa es ?_;refine(?_:(e.Na.Ua ((3:Nat):Int)).map _=_);refine aa v3 ?_;rfl
 have M:=Qc D.ec;have N:=j.fH;refine(Il _ _ ?_ (y.trans (F.trans (o.trans (.one es)))) (m.JF.trans ⟨rfl,rfl,rfl,rfl,rfl⟩) rfl rfl ({n with}));refine(?_:6+((va D.ec).length+(1+1))≤12);omega
theorem BE(j:D.ok)(z:P[1]?=some D.b1)(A:s.Na.Fb=h∨∀c∈D.mc,c≠.vk∧c≠.ml)(F:s.Na.jc=1)(G:s.Na.place=0)(V:Vw [0,1,2,3,9,10,11] a s):∃t s',t≤5∧Kf P D.ps t s s'∧MF s s'∧s'.Na.jc=(if Le .and ((Bh D h a).g D.mx) 1=0 then 4 else 3)∧s'.Na.place=0∧Vw [0,1,2,3,8,9,10,11] (Bh D h a) s':=by
 have l:P[s.Na.jc]?=some D.b1:=by refine aa F ?_;exact z
 refine ya (fun b H p=>?_)<|Sl (ps:=D.ps) (h:=h) (K:=[0,1,2,3,9,10,11]) (by decide) (by decide) D.mc a s j.mc A V
 refine Nb (fun L m2 M=>?_)<|ee (P:=P) (ps:=D.ps) (B:=D.b1) (va D.mc) s b [.ar .sub 8 3 (.k 1),.ar .and 7 D.mx (.k 1)] (fun i f=>Gf f) l (by refine aa G ?_;rfl) H
 have q:=p.set 8 (Le .sub ((Ic h a D.mc).g 3) 1) (.inr (by decide)) (K':=[0,1,2,3,8,9,10,11]) (by decide);have u:=q.My (by decide) 7 (Le .and ((Bh D h a).g D.mx) 1) (.inl rfl);have o:dc (b.Uc 8 (Le .sub ((Ic h a D.mc).g 3) 1)).Na.Ua (.r D.mx)=some ((Bh D h a).g D.mx):=q.Z D.mx (vy (P:=fun n=>n∈[0,1,2,3,8,9,10,11]) j.mx (by decide) (by decide) (by decide) (by decide));have N:dc b.Na.Ua (.r 3)=some ((Ic h a D.mc).g 3):=p.Z 3 (by exact Ub rfl)
 have O:ng D.ps b [.ar .sub 8 3 (.k 1),.ar .and 7 D.mx (.k 1)]=some ((b.Uc 8 (Le .sub ((Ic h a D.mc).g 3) 1)).Uc 7 (Le .and ((Bh D h a).g D.mx) 1)):=
  (ub (Yj N (show dc _ (.k 1)=some 1 from rfl)) (Vn fun e=>by exact nomatch e)).trans ((ub (Yj o (show dc _ (.k 1)=some 1 from rfl)) (Vn fun e=>by exact nomatch e)).trans rfl)
 refine Nb (fun v w x=>?_)<|ee (P:=P) (ps:=D.ps) (B:=D.b1) [.ar .sub 8 3 (.k 1),.ar .and 7 D.mx (.k 1)] b _ [] (fun i f=>by rcases pg f with rfl|f;rfl;refine aa (Jd f) ?_;rfl) (by exact m2.jc▸l) (by refine aa M ?_;rfl) O
 have y:((b.Uc 8 (Le .sub ((Ic h a D.mc).g 3) 1)).Uc 7 (Le .and ((Bh D h a).g D.mx) 1)).Na.Ua ((7:Nat):Int)=some (Le .and ((Bh D h a).g D.mx) 1):=(Qi:Za (b.Uc 8 (Le .sub ((Ic h a D.mc).g 3) 1)).Na.Ua 7 _ 7=_);generalize(b.Uc 8 (Le .sub ((Ic h a D.mc).g 3) 1)).Uc 7 (Le .and ((Bh D h a).g D.mx) 1)=g at u v w x y;have m:=m2.trans w;have es:cg P D.ps g=some (.go {g with Na:={g.Na with jc:=if Le .and ((Bh D h a).g D.mx) 1=0 then 4 else 3,place:=0}}):=by refine aa (qi (ps:=D.ps) (P:=P) (s:=g) (B:=D.b1) (by rw[m.jc];exact l) x) ?_;refine(?_:(g.Na.Ua ((7:Nat):Int)).map _=_);refine aa y ?_;rfl
 have Q:=Qc D.mc;have R:=j.vJ;refine(Il _ _ ?_ (L.trans (v.trans (.one es))) (m.JF.trans ⟨rfl,rfl,rfl,rfl,rfl⟩) rfl rfl ({u with}));refine(?_:(va D.mc).length+(2+1)≤5);lia
noncomputable def T3(g:Nat->Int)(s:MS):Prop:=∀n:Nat,(n=0∨n=9∨n=10)->s.Na.Ua n=some (g n)
theorem T3.Uc{g:Nat->Int}(T:T3 g s)(a:Nat)(v:Int):T3 (uv g a v) (s.Uc a v):=fun n b=>by
 refine(?_:Za s.Na.Ua a v n=some (if n=a then v else g n));by_cases e:n=a
 ·refine Cb e ?_;exact aa Qi (aa (if_pos rfl) rfl)
 ·refine aa (ug (by exact mt Int.ofNat.inj (by assumption))) (aa (if_neg e) ?_);exact T n b
theorem vE{g:Nat->Int}(T:T3 g s)(x:Tl):∃s',ng ps s [x.Dl]=some s'∧T3 (EB g x) s'∧Ih s s':=by
 have b:dc s.Na.Ua (.r 9)=some (g 9):=T 9 (.inr (.inl rfl));have a:dc s.Na.Ua (.r 10)=some (g 10):=T 10 (.inr (.inr rfl));have c:dc s.Na.Ua (.r 0)=some (g 0):=T 0 (.inl rfl);induction x with
 |OB=>exact(cc _ ((ub (th b) rfl).trans rfl) (T.Uc 10 _) (.Uc ..))
 |pA=>exact(cc _ ((ub (th a) rfl).trans rfl) (T.Uc 9 _) (.Uc ..))
 |jC=>exact(cc _ ((ub rfl rfl).trans rfl) (T.Uc 10 _) (.Uc ..))
 |KJ=>exact(cc _ ((ub (th b) rfl).trans rfl) (T.Uc 0 _) (.Uc ..))
 |AA=>exact(cc _ ((ub (th c) rfl).trans rfl) (T.Uc 10 _) (.Uc ..))
 |VI=>exact(cc _ ((ub (th b) rfl).trans rfl) (T.Uc 9 _) (.Uc ..))
 |add=>exact(cc _ ((ub (Yj a (show dc _ (.k 1)=some 1 from rfl)) (Vn fun e=>by injection e)).trans rfl) (T.Uc 10 _) (.Uc ..))
theorem gA:∀(l:List Tl)(g:Nat->Int)(s:MS),T3 g s->∃s',ng ps s (l.map Tl.Dl)=some s'∧T3 (rn g l) s'∧Ih s s':=by
 intro a;induction a with
 |nil=>intro g s T;exact(cc s rfl T (.refl s))
 |cons x l b=>intro g s T;refine Pb (fun s1 c e f=>?_)<|vE (ps:=ps) T x;obtain⟨h,i,j,m⟩:=b _ s1 e;refine(cc h ?_ j (f.trans m));refine(?_:ng ps s ([x.Dl]++l.map Tl.Dl)=_);refine aa (lr _ _ _ _ c) ?_;exact i
theorem LI(b:P[6]?=some D.b6){g:Nat->Int}(c:s.Na.jc=6)(h:s.Na.place=0)(T:T3 g s):∃t s',t≤1∧Kf P D.ps t s s'∧Ih s s'∧Ql P s' (if D.hv=true then g 10 else 0):=by
 have i:∀s':MS,T3 g s'->(match D.gv with|some r=>s'.Na.Ua r|none=>some 0)=some (if D.hv=true then g 10 else 0):=fun s' T=>by
  unfold Xb.gv;induction D.hv with
  |true=>exact T 10 (.inr (.inr rfl))
  |false=>rfl
 induction j:D.xb with
 |false=>refine(Af 0 s (Nat.zero_le _) (.refl s) (.refl s) (Af D.b6 D.gv (by refine aa c ?_;exact b:P[s.Na.jc]?=some D.b6) ?_ rfl (i s T)));refine aa h ?_;refine(?_:(if D.xb then _ else _)=_);refine aa j ?_;rfl
 |true=>
  have f:dc s.Na.Ua (.r 10)=some (g 10):=T 10 (.inr (.inr rfl));refine Nb (fun r m a=>?_)<|ee (P:=P) (ps:=D.ps) (B:=D.b6) [.cp 10 (.r 10)] s (s.Uc 10 (g 10)) [] (by exact Ub rfl) (by refine aa c ?_;exact b:P[s.Na.jc]?=some D.b6) (by refine aa h (aa (by show(if D.xb then _ else _)=_;rw[j];rfl:D.b6.la=[.cp 10 (.r 10)]) ?_);rfl) ((ub (th f) rfl).trans rfl)
  refine(Af 1 _ (tf _) r (.Uc ..) (Af D.b6 D.gv (by exact(by refine aa c ?_;exact b:P[s.Na.jc]?=some D.b6)) a rfl (i _ fun n l=>?_)));refine aa ((T.Uc 10 (g 10) n l):(s.Uc 10 (g 10)).Na.Ua n=some (uv g 10 (g 10) n)) ?_;unfold uv;by_cases e:n=10
  ·exact aa (if_pos e) (aa e rfl)
  ·exact aa (if_neg e) rfl
theorem vA(h:P[5]?=some ⟨[],.Ib 6⟩)(b:P[6]?=some D.b6)(j:P[s.Na.jc]?=some B)(G:B.la.drop s.Na.place=c.tail.map Tl.Dl)(a:B.en=c.en D.hv)(O:c.Ai<4){g:Nat->Int}(T:T3 g s) : ∃t s',t≤c.tail.length+3∧Kf P D.ps t s s'∧Ih s s'∧Ql P s' (if D.hv=true then rn g c.tail c.SJ else 0):=by
 refine Pb (fun s1 H l m=>?_)<|gA (ps:=D.ps) c.tail g s T
 refine Nb (fun e y z=>?_)<|ee (P:=P) (ps:=D.ps) (B:=B) (c.tail.map Tl.Dl) s s1 [] (fun i K=>by(refine ya (fun x Q o=>?_)<|List.mem_map.mp K;refine Cb o ?_);induction x<;>rfl) j (by exact aa G (aa (List.append_nil _) rfl)) H
 rw[sd]at e;unfold dd.en at a;unfold dd.SJ;by_cases f:c.Ai<2
 ·rw[if_pos f]at a;refine aa (if_pos f) ?_;refine(Af _ s1 (by exact pn _ _) e m (Af B _ (by refine aa y.jc ?_;exact j:P[s1.Na.jc]?=some B) z a ?_));induction D.hv with
  |true=>exact l (9+c.Ai) (by lia)
  |false=>rfl
 ·rw[if_neg f]at a;refine aa (if_neg f) ?_;have A:∀n,B.en=.Ib n->cg P D.ps s1=some (.go {s1 with Na:={s1.Na with jc:=n,place:=0}}):=fun n L=>by refine aa (qi (by rw[y.jc];exact j:P[s1.Na.jc]?=some B) z) (aa L ?_);rfl
  have F:∀n,Ih s1 {s1 with Na:={s1.Na with jc:=n,place:=0}}:=fun n=>⟨⟨rfl,rfl,rfl,rfl,rfl⟩,rfl,rfl,rfl⟩;by_cases p:c.Ai=2
  ·rw[p]at a;have M:cg P D.ps {s1 with Na:={s1.Na with jc:=5,place:=0}}=some (.go {s1 with Na:={s1.Na with jc:=6,place:=0}}):=by
    refine aa (qi (B:=⟨[],.Ib 6⟩) h rfl) ?_;rfl
   refine Ig (fun t q N u v w=>?_)<|LI (D:=D) (P:=P) (s:={s1 with Na:={s1.Na with jc:=6,place:=0}}) b rfl rfl (g:=rn g c.tail) l
   exact(Af _ q (by lia) (e.trans ((Kf.one (A 5 a)).trans ((Kf.one M).trans u))) (m.trans ((F 6).trans v)) w)
  ·have p:c.Ai=3:=by lia
   rw[p]at a;refine Ig (fun t q N u v w=>?_)<|LI (D:=D) (P:=P) (s:={s1 with Na:={s1.Na with jc:=6,place:=0}}) b rfl rfl (g:=rn g c.tail) l
   exact(Af _ q (by lia) (e.trans ((Kf.one (A 6 a)).trans u)) (m.trans ((F 6).trans v)) w)
end
structure Hv(P:List xd)(ps:List Nat)(b:Bool)(s:MS)(k:Nat)(r:Int×AS)(t:Nat)(s':MS):Prop where
 le:t≤k
 Nu:Kf P ps t s s'
 ic:Ql P s' r.1
 je:s'.Na.je=s.Na.je
 stack:s'.stack=s.stack
 obj:s'.mem 500=some r.2.obj
 Ja:s'.Ja=r.2.Ja
 oa:s'.oa=r.2.oa
 most:b=true->s'.most=s.most
theorem Tv{f:FM}{w:Nat->zb}{x:Nat->Int}:∀(ps:List Nat),(∀p∈ps,dc f (w p)=some (x p))->Ge f (ps.map w)=some (ps.map x):=by
 intro a;induction a with
 |nil=>intro h;exact rfl
 |cons p ps b=>intro h;refine(?_:(match dc f (w p),Ge f (ps.map w)with|some v,some vs=>some (v::vs)|_,_=>none)=_);refine aa (h p (.head _)) (aa (b fun q c=>h q (.tail _ c)) ?_);rfl
theorem Hl(a:D.ok)(w:Nat->Int):∀n:Nat,n<4->jz D.ps (D.ps.map w) n=some (w n):=fun n b=>by rcases a.ps with h|h|h|h<;>refine aa h ?_<;>(exact vy b rfl rfl rfl rfl)
theorem Rz(a:D.ok):D.ps.Nodup:=by rcases a.ps with h|h|h|h<;>refine aa h ?_<;>decide
theorem kD:∀(c:List Sa)(s:MS)(b:FM),Ie s.Na.Ua c=some b->∃s',ng ps s c=some s'∧s'.Na.Ua=b∧Ih s s':=by
 intro c;induction c with
 |nil=>intro s b h;exact(cc s rfl (Bb h) (.refl s))
 |cons i r m=>
  intro s b h;rcases Un h with h|h
  ·refine ve (fun a o x f e h=>?_) h;refine Pb (fun s' g j l=>?_)<|m (s.Uc a x) b h
   refine aa f ?_;exact(cc s' ((ub (th e) rfl).trans g) j ((Ih.Uc ..).trans l))
  ·refine pd (fun a n f h=>?_) h;refine Pb (fun s' g j l=>?_)<|m (s.Uc a n) b h
   refine aa f ?_;exact(cc s' ((ub rfl rfl).trans g) j ((Ih.Uc ..).trans l))
theorem mv:∀(g:List Sa)(f c:FM),Ie f g=some c->∀i∈g,Ef i=false:=by
 intro g;induction g with
 |nil=>intro f c h i b;exact nomatch b
 |cons j r m=>
  intro f c h i b;rcases Un h with h|h
  ·refine ve (fun a o x l p h=>?_) h;rcases pg b with e|b
   ·refine aa e (aa l ?_);rfl
   ·exact m _ c h i b
  ·refine pd (fun a n l h=>?_) h;rcases pg b with e|b
   ·refine aa e (aa l ?_);rfl
   ·exact m _ c h i b
theorem Tw:∀(ps:List Nat)(c:List zb),(pf ps c).length≤ps.length:=by
 intro b;induction b with
 |nil=>intro a;exact Nat.zero_le _
 |cons p ps e=>
  intro a;rcases a with _|⟨o,c⟩
  ·exact Nat.zero_le _
  ·refine(?_:(dk p o++pf ps c).length≤ps.length+1);have f:(dk p o).length≤1:=by
    cases o with
    |k n=>exact tf _
    |r v=>refine(?_:(if v=p then []else [Sa.cp p (.r v)]).length≤1);split<;>exact Pa rfl
   have:=e c;refine aa List.length_append ?_;lia
theorem Gl{args:List zb}{r0:Nat}(h:args.length=ps.length):(qc ps args r0).1.length≤2*ps.length:=by refine(?_:((Qe ps args r0).sf++pf ps (Qe ps args r0).found).length≤_);have a:=(Km ps args r0).2;have b:=Tw ps (Qe ps args r0).found;refine aa List.length_append ?_;lia
noncomputable def mA(D:Xb)(c:dd):Prop:=∀g v,(D.hv=false->v=0)->post D.hv c g v=v
theorem aE(h:D.hv=false):∀n i c a,(ev D n i c a).1=0:=by
 intro b;induction b with
 |zero=>intro i c a;refine(?_:(if D.hv=true then _ else(0:Int))=0);refine aa h ?_;rfl
 |succ n e=>intro i c a;refine(?_:(if D.hv=true then _ else(0:Int))=0);refine aa h ?_;rfl
section
variable{a:AS}{s:MS}{h:Int}{b v3 v4:Bool}
theorem Dx(ok:D.ok)(ha:P[5]?=some ⟨[],.Ib 6⟩)(ka:P[6]?=some D.b6)(K:c.ok D.hv){v:Bool}{r:Nat}(hr:12≤r)(hB:P[s.Na.jc]?=some (nb D v c r).1)(h0:s.Na.place=0)(hb:b=true->v=true)(hv:v=true->wj D∧mA D c){l:Nat}(hh:wj D∨(s.Na.Fb=h∧s.Rb=l∧v3=false∧v4=false))(ea:wj D->(∀x∈c.yb,x≠.vk∧x≠.ml)∧∀m,m<3->c.Sb m≠.r 5)(V:Vw [0,1,2,3,8,9,10,11] a s)(h8:a.g 8=n)(hn:s.Rb+n+1≤50)(IH:∀(a:AS)(s:MS)(h:Int)(l:Nat),a.g 3=n->E0 a s->(wj D∨(s.Na.Fb=h∧s.Rb=l∧v3=false∧v4=false))->s.Rb+n≤50->∃t s',Hv P D.ps b s (60*(n+1)) (ev D n h l a) t s') : ∃t s',Hv P D.ps b s (20+60*(n+1)) (post D.hv c (Ic h a c.yb).g (ev D n (1000+8*((l:Int)+1)) (l+1) (Im h c (Ic h a c.yb))).1,(ev D n (1000+8*((l:Int)+1)) (l+1) (Im h c (Ic h a c.yb))).2) t s':=by
 refine ya (fun s1 e1 L=>?_)<|Sl (ps:=D.ps) (h:=h) (((by decide:∀n∈[0,1,2,3,8,9,10,11],n<4∨8≤n)):VJ [0,1,2,3,8,9,10,11]) (by decide:∀n,n<3->n∈[0,1,2,3,8,9,10,11]) c.yb a s K.yb (hh.elim (fun l=>.inr (ea l).1) fun x=>.inl x.1) V
 have M:∃post,(nb D v c r).1.la=va c.yb++post:=by
  unfold nb;split
  ·exact⟨_,rfl⟩
  ·exact⟨_,List.append_assoc ..⟩
 (refine Aa (fun N O=>?_) M;clear M)
 refine Nb (fun r1 G d1=>?_)<|ee (P:=P) (ps:=D.ps) (B:=(nb D v c r).1) (va c.yb) s s1 N (fun i hi=>Gf hi) hB (by exact h0▸O) e1
 have W:P[s1.Na.jc]?=some (nb D v c r).1:=by refine aa G.jc ?_;exact hB
 have wa:=Qc c.yb;have ua:=K.Pd;have Y:(Ic h a c.yb).g 8=n:=by refine aa (Ap (by decide) _ _ K.yb) ?_;exact h8
 generalize Ic h a c.yb=w at L Y ⊢;have z:∀p,p<4->dc s1.Na.Ua (c.Sb p)=some (Rq h w (c.Sb p)):=fun p Q=>L.xv fun m e=>by
  by_cases h3:p=3
  ·subst h3;rw[K.g3]at e;cases e;exact .inl ⟨by exact Ub rfl,by exact Mo rfl⟩
  ·rcases K.g p (by lia)with⟨k,ek,hk⟩|⟨k,ek,_⟩
   ·rw[ek]at e;cases e;by_cases h5:m=5
    ·subst h5;refine .inr ⟨rfl,hh.elim (fun l=>absurd ek ((ea l).2 p (by lia))) fun x=>by exact G.Fb▸x.1⟩
    ·exact .inl ⟨by simp;lia,h5⟩
   ·rw[ek]at e;exact nomatch e
 have y:=Vj ok;cases v with
 |false=>
  have A:N=.Qg c.nc (D.ps.map c.Sb)::c.tail.map Tl.Dl:=by have:va c.yb++[Sa.Qg c.nc (D.ps.map c.Sb)]++c.tail.map Tl.Dl=va c.yb++N:=O;rw[List.append_assoc]at this;exact(List.append_cancel_left this).symm
  rw[A]at d1;refine Qa (fun g1 g2=>?_)<|Yr d1
  obtain⟨u,g⟩:∃u:MS,u={s1 with Rb:=s1.Rb+1,most:=max s1.most (s1.stack.length+1+1),Na:=⟨jz D.ps (D.ps.map fun p=>Rq h w (c.Sb p)),0,0,1000+8*((s1.Rb:Int)+1),c.nc⟩,stack:=s1.stack++[{s1.Na with place:=s1.Na.place+1}]}:=⟨_,rfl⟩;have st:cg P D.ps s1=some (.go u):=by unfold cg;refine aa W ?_;dsimp only;refine aa g1 ?_;dsimp only;refine aa ((Tv D.ps fun p Q=>z p (y p Q)):Ge s1.Na.Ua (D.ps.map c.Sb)=some (D.ps.map fun p=>Rq h w (c.Sb p))) ?_;refine(?_:(if(D.ps.map fun p=>Rq h w (c.Sb p)).length=D.ps.length then _ else none:Option MS).map lz.go=_);refine aa (if_pos (sd ..)) (aa g ?_);rfl
  have E2:E0 (Im h c w) u:=by
   have xa:=G.Rb;refine⟨fun m hm=>?_,by exact g▸L.obj,by exact g▸L.Ja,by exact g▸L.oa,?_,by exact aa g rfl,by exact aa g rfl⟩
   ·refine aa g ?_;exact Hl ok _ m hm
   ·refine aa g ?_;refine(?_:500<1000+8*((s1.Rb:Int)+1)∧1000+8*((s1.Rb:Int)+1)<10000);lia
  refine Lk (fun t H F=>?_)<|IH (Im h c w) u (1000+8*((l:Int)+1)) (l+1) (by refine(?_:Rq h w (c.Sb 3)=n);refine aa K.g3 ?_;exact Y:(Im h c w).g 3=n) E2 (hh.imp id fun x=>by
   refine aa g ?_;refine(yc ?_ ?_ x.2.2)
   ·refine(?_:1000+8*((s1.Rb:Int)+1)=_);exact aa G.Rb (aa x.2.1 rfl)
   ·refine(?_:s1.Rb+1=_);exact aa G.Rb (aa x.2.1 rfl)) (by refine aa g ?_;refine aa G.Rb ?_;lia)
  generalize ev D n (1000+8*((l:Int)+1)) (l+1) (Im h c w)=R at F ⊢;have fa:H.stack=s1.stack++[{s1.Na with place:=s1.Na.place+1}]:=by exact aa F.stack (aa g rfl)
  obtain⟨s4,q⟩:∃s4:MS,s4={H with Na:={ {s1.Na with place:=s1.Na.place+1}with Ua:=Za s1.Na.Ua H.Na.je R.1},stack:=s1.stack}:=⟨_,rfl⟩;have T:T3 (if c.nc=9 then uv w.g 9 R.1 else w.g) s4:=fun m hm=>by
   refine aa q ?_;refine(?_:Za s1.Na.Ua H.Na.je R.1 m=_);refine aa (by exact aa F.je (aa g rfl):H.Na.je=c.nc) ?_;have hk:s1.Na.Ua m=some (w.g m):=L.Z m (by simp;lia);by_cases h9:c.nc=9
   ·refine aa (if_pos h9) (aa h9 ?_);unfold uv;by_cases e:m=9
    ·refine aa e ?_;exact Qi
    ·refine aa (if_neg e) (aa (ug (by exact mt Int.ofNat.inj (by assumption))) ?_);exact hk
   ·have hd:=K.nc.resolve_left h9;refine aa (if_neg h9) (aa (ug (by lia)) ?_);exact hk
  (change let R:Prop:=_;R;intro R);refine Ig (fun t5 s5 l5 r5 k5 g5=>?_)<|vA (D:=D) (P:=P) (s:=s4) ha ka (c:=c) (B:=(nb D false c r).1) (by exact q▸W) (by exact q▸g2) rfl K.Ai T
  have za:=K.xJ;refine⟨_,s5,?_,r1.trans ((Kf.one st).trans (F.Nu.trans ((Kf.one (by exact q▸(F.ic.Ez (ps:=D.ps) fa))).trans r5))),g5,?_,?_,?_,?_,?_,fun e=>by cases hb e⟩
  ·have:=F.le;lia
  ·refine aa k5.JF.je (aa q ?_);exact G.je
  ·refine aa k5.JF.stack (aa q ?_);exact G.stack
  ·refine aa k5.mem (aa q ?_);exact F.obj
  ·refine aa k5.Ja (aa q ?_);exact F.Ja
  ·refine aa k5.oa (aa q ?_);exact F.oa
 |true=>
  (change let R:Prop:=_;R;intro R);refine Qa (fun ba conv=>?_)<|hv rfl
  have A:N=(qc D.ps (D.ps.map c.Sb) r).1:=by have:va c.yb++(qc D.ps (D.ps.map c.Sb) r).1=va c.yb++N:=O;exact(List.append_cancel_left this).symm
  (change let R:Prop:=_;R;intro R);refine Pb (fun f' x1 x2 ζ=>?_)<|Pu (ps:=D.ps) (args:=D.ps.map c.Sb) (r0:=r) (f:=s1.Na.Ua) (Rz ok) (sd ..) (fun p Q=>by have:=y p Q;lia)
   (fun o ho=>by(refine ya (fun p Q la=>?_)<|List.mem_map.mp ho;refine Cb la ?_);exact⟨_,z p (y p Q)⟩)
   (fun m hm=>by refine ya (fun p Q e=>?_)<|List.mem_map.mp hm;have:=Jq K (y p Q) e.symm;exact Nat.lt_of_lt_of_le (by assumption) (by assumption))
   (fun p Q=>⟨_,L.Z p (by have:=y p Q;simp;lia)⟩)
  (change let R:Prop:=_;R;intro R);refine Pb (fun u e2 pa X=>?_)<|kD (ps:=D.ps) _ s1 f' x1
  (change let R:Prop:=_;R;intro R);refine Nb (fun r2 m2 d2=>?_)<|ee (P:=P) (ps:=D.ps) (B:=(nb D true c r).1) _ s1 u [] (mv _ _ _ x1) W (by exact aa d1 (aa A (aa (List.append_nil _) rfl))) e2
  obtain⟨H,j⟩:∃H:MS,H={u with Na:={u.Na with jc:=0,place:=0}}:=⟨_,rfl⟩;have E3:E0 (Im h c w) H:=by
   refine⟨fun m hm=>?_,?_,?_,?_,?_,by exact aa j rfl,by exact aa j rfl⟩
   ·refine aa j ?_;refine aa pa ?_;refine Aa (fun k hk=>?_)<|List.getElem?_of_mem (QA ok m hm)
    refine aa (x2 k m (c.Sb m) hk (by rw[List.getElem?_map,hk];rfl)) ?_;exact z m hm
   ·refine aa j ?_;refine aa X.mem ?_;exact L.obj
   ·refine aa j ?_;refine aa X.Ja ?_;exact L.Ja
   ·refine aa j ?_;refine(?_:u.oa=_);refine aa X.oa ?_;exact L.oa
   ·refine aa j ?_;refine(?_:500<u.Na.Fb∧u.Na.Fb<10000);refine aa X.JF.Fb ?_;exact L.hb
  (change let R:Prop:=_;R;intro R);refine Lk (fun t s4 F=>?_)<|IH (Im h c w) H (1000+8*((l:Int)+1)) (l+1) (by refine(?_:Rq h w (c.Sb 3)=n);refine aa K.g3 ?_;exact Y:(Im h c w).g 3=n) E3 (.inl ba) (by refine aa (by refine aa j ?_;refine(?_:u.Rb=_);exact aa m2.Rb (aa G.Rb rfl):H.Rb=s.Rb) ?_;exact Nat.le_of_lt (by assumption))
  have ra:D.hv=false->(ev D n (1000+8*((l:Int)+1)) (l+1) (Im h c w)).1=0:=fun e=>aE e _ _ _ _;have sa:=Gl (ps:=D.ps) (args:=D.ps.map c.Sb) (r0:=r) (sd ..);rw[Fh ok]at sa;refine⟨_,s4,?_,r1.trans (r2.trans ((Kf.one (by refine aa (qi (by rw[m2.jc];exact W:P[u.Na.jc]?=some (nb D true c r).1) d2) (aa j ?_);rfl:cg P D.ps u=some (.go H))).trans F.Nu)),?_,?_,?_,F.obj,F.Ja,F.oa,fun e=>?_⟩
  ·have:=F.le;lia
  ·refine aa (conv _ _ ra) ?_;exact F.ic
  ·refine aa F.je (aa j ?_);refine(?_:u.Na.je=_);exact aa m2.je (aa G.je rfl)
  ·refine aa F.stack (aa j ?_);refine(?_:u.stack=_);exact aa m2.stack (aa G.stack rfl)
  ·refine aa (F.most e) (aa j ?_);refine(?_:u.most=_);exact aa m2.most (aa G.most rfl)
theorem Np{v:Bool}{r:Nat}:r≤(nb D v c r).2:=by
 unfold nb;split
 ·have:=(Qj D.ps (D.ps.map c.Sb) r).rg;refine(?_:r≤(Qe D.ps (D.ps.map c.Sb) r).Z);lia
 ·exact tf _
theorem frame(l:D.ok)(H:v3=true->wj D∧mA D D.c3)(K:v4=true->wj D∧mA D D.c4):∀(n:Nat)(a:AS)(s:MS)(h:Int)(b:Nat),a.g 3=n->n≤9->E0 a s->(wj D∨(s.Na.Fb=h∧s.Rb=b∧v3=false∧v4=false))->s.Rb+n≤50->∃t s',Hv (Dh D v3 v4) D.ps (v3&&v4) s (60*(n+1)) (ev D n h b a) t s':=by
 have j:∀c,c∈D.ec∨c∈D.mc∨c∈D.c3.yb∨c∈D.c4.yb->wj D->c≠.vk∧c≠.ml:=fun c m b=>by have:=b.yb c (by simp[Xb.yb];rcases m with h|h|h|h<;>simp[h]);exact⟨this.1,this.2.1⟩
 intro n;induction n with
 |zero=>
  intro a s h b A _ E p _
  (change let R:Prop:=_;R;intro R);refine Po (fun t s1 l1 L q u M w=>?_)<|Tr (P:=Dh D v3 v4) (h:=h) l rfl (p.elim (fun b=>.inr fun c m=>j c (.inl m) b) fun x=>.inl x.1) E
  rw[A]at u;have Y:=l.bx;have kb:dc s1.Na.Ua (.r D.bx)=some ((yi D h a).g D.bx):=w.Z D.bx (by simp;lia)
  (change let R:Prop:=_;R;intro R);refine Nb (fun N m2 d2=>?_)<|ee (P:=Dh D v3 v4) (ps:=D.ps) (B:=D.b2) [.cp 10 (.r D.bx)] s1 (s1.Uc 10 ((yi D h a).g D.bx)) [] (fun i hi=>by refine aa (Jd hi) ?_;rfl) (by refine aa u ?_;rfl) (by refine aa M ?_;rfl) ((ub (th kb) rfl).trans rfl)
  refine⟨_,_,?_,L.trans N,(Af D.b2 D.gv (by refine aa u ?_;rfl) d2 rfl ?_),q.je,q.stack,w.obj,w.Ja,w.oa,fun ζ=>q.most⟩
  ·refine(?_:t+1≤_);exact Nat.lt_of_le_of_lt (by assumption) (Pa rfl)
  ·refine(?_:_=some (if D.hv=true then(yi D h a).g D.bx else 0));unfold Xb.gv;induction D.hv with
   |true=>exact Qi (f:=s1.Na.Ua) (i:=10)
   |false=>rfl
 |succ n ih=>
  intro a s h b A ba E p hn
  (change let R:Prop:=_;R;intro R);refine Po (fun t s1 l1 L q u M w=>?_)<|Tr (P:=Dh D v3 v4) (h:=h) l rfl (p.elim (fun b=>.inr fun c m=>j c (.inl m) b) fun x=>.inl x.1) E
  rw[A]at u
  (change let R:Prop:=_;R;intro R);refine Po (fun t2 o l2 N k2 G Q T=>?_)<|BE (P:=Dh D v3 v4) (h:=h) l rfl (p.elim (fun b=>.inr fun c m=>j c (.inr (.inl m)) b) fun x=>.inl (q.Fb.trans x.1)) u M w
  have g:=q.trans k2;have W:(Bh D h (yi D h a)).g 8=(n:Int):=by refine aa (xH l _ _) (aa (HB l _ _) (aa A ?_));refine(?_:(((n+1:Nat):Int) - 1)%4294967296=n);lia
  have X:∀(a:AS)(s:MS)(h:Int)(b:Nat),a.g 3=n->E0 a s->(wj D∨(s.Na.Fb=h∧s.Rb=b∧v3=false∧v4=false))->s.Rb+n≤50->∃t s',Hv (Dh D v3 v4) D.ps (v3&&v4) s (60*(n+1)) (ev D n h b a) t s':=fun a s h b e=>ih a s h b e (by exact Nat.le_of_lt (by assumption))
  have z:∀{c:dd},D.Qv (Bh D h (yi D h a))=c->(∃t s',Hv (Dh D v3 v4) D.ps (v3&&v4) o (20+60*(n+1)) (post D.hv c (Ic h (Bh D h (yi D h a)) c.yb).g (ev D n (1000+8*((b:Int)+1)) (b+1) (Im h c (Ic h (Bh D h (yi D h a)) c.yb))).1,(ev D n (1000+8*((b:Int)+1)) (b+1) (Im h c (Ic h (Bh D h (yi D h a)) c.yb))).2) t s')->
   ∃t s',Hv (Dh D v3 v4) D.ps (v3&&v4) s (60*(n+1+1)) (ev D (n+1) h b a) t s':=fun{c} y ⟨t',s',F⟩=>by
   subst y;refine⟨_,s',?_,L.trans (N.trans F.Nu),F.ic,F.je.trans g.je,F.stack.trans g.stack,F.obj,F.Ja,F.oa,fun e=>(F.most e).trans g.most⟩;have:=F.le;lia
  by_cases y:Le .and ((Bh D h (yi D h a)).g D.mx) 1=0
  ·rw[if_pos y]at G;refine z (c:=D.c4) (if_pos y) ?_;exact Dx (v:=v4) (r:=(nb D v3 D.c3 12).2) l rfl rfl l.c4 Np (by refine aa G ?_;rfl) Q (fun e=>(Bool.and_eq_true_iff.mp e).2) K ((p.imp id fun x=>(yc (g.Fb.trans x.1) (g.Rb.trans x.2.1) x.2.2)):wj D∨(o.Na.Fb=h∧o.Rb=b∧v3=false∧v4=false)) (fun b=>⟨fun x O=>j x (.inr (.inr (.inr O))) b,b.g4⟩) T W (by refine aa g.Rb ?_;assumption:o.Rb+n+1≤50) X
  ·rw[if_neg y]at G;refine z (c:=D.c3) (if_neg y) ?_;exact Dx (v:=v3) (r:=12) l rfl rfl l.c3 (tf _) (by refine aa G ?_;rfl) Q (fun e=>(Bool.and_eq_true_iff.mp e).1) H ((p.imp id fun x=>(yc (g.Fb.trans x.1) (g.Rb.trans x.2.1) x.2.2)):wj D∨(o.Na.Fb=h∧o.Rb=b∧v3=false∧v4=false)) (fun b=>⟨fun x O=>j x (.inr (.inr (.inl O))) b,b.g3⟩) T W (by refine aa g.Rb ?_;assumption:o.Rb+n+1≤50) X
end
theorem Qy{v:Int}:∀(l:List Tl)(K:Int->Bool)(g:Nat->Int),(∀t∈l,Lg t.Dl=true)->(∀n:Nat,K n=true->g n=v)->∀n:Nat,(l.map Tl.Dl).foldl Dd K n=true->rn g l n=v:=by
 intro f;induction f with
 |nil=>intro K g i h n j;exact h n j
 |cons x l p=>
  intro K g i h n j;refine p (Dd K x.Dl) (EB g x) (fun t q=>i t (.tail _ q)) (fun m c=>?_) n ((j):(l.map Tl.Dl).foldl Dd (Dd K x.Dl) n=true);have key:∀(a:Nat)(o:zb)(y:Int),(∀z,o=.r z->y=g z)->Dd K (.cp a o) m=true->uv g a y m=v:=fun a o y s b=>by
   have b:(if(m:Int)=a then tc K o else K m)=true:=b;unfold uv;by_cases e:m=a
   ·subst e;rw[if_pos rfl]at b ⊢;induction o with
    |k z=>exact(Fc b).elim
    |r z=>refine aa (s z rfl) ?_;exact h z b
   ·rw[if_neg (by exact mt Int.ofNat.inj (by assumption))]at b;refine aa (if_neg e) ?_;exact h m b
  have u:=i x (.head _);induction x with
  |OB=>exact key 10 (.r 9) _ (fun z e=>by cases e;rfl) c
  |pA=>exact key 9 (.r 10) _ (fun z e=>by cases e;rfl) c
  |jC=>exact key 10 (.k 7) _ (fun z e=>by exact nomatch e) c
  |KJ=>exact key 0 (.r 9) _ (fun z e=>by cases e;rfl) c
  |AA=>exact key 10 (.r 0) _ (fun z e=>by cases e;rfl) c
  |VI=>exact key 9 (.r 9) _ (fun z e=>by cases e;rfl) c
  |add=>exact(Fc u).elim
theorem Ol(e:c.Ai<4):fe D.Yb D.Yb.length (c.en D.hv)=(if c.Ai<2 then .ic (if D.hv then some (9+c.Ai)else none)else if D.xb=true then .Ib 6 else .ic D.gv):=by
 unfold dd.en;by_cases h:c.Ai<2
 ·refine aa (if_pos h) (aa (if_pos h) ?_);rfl
 ·skip;have a:∀n,fe D.Yb (n+1+1) (.Ib 6)=(if D.xb=true then .Ib 6 else .ic D.gv):=fun n=>by
   refine(?_:(if D.b6.la.isEmpty=true then fe D.Yb (n+1) D.b6.en else .Ib 6)=_);have:D.b6.la.isEmpty=!D.xb:=by refine(?_:(if D.xb then [Sa.cp 10 (.r 10)]else []).isEmpty=_);induction D.xb<;>rfl
   refine aa this ?_;induction D.xb<;>rfl
  by_cases b:c.Ai=2
  ·refine aa b ?_;exact a 4
  ·refine aa (show c.Ai=3 by lia) ?_;exact a 5
theorem Ry(hv:D.hv=true)(e:c.Ai<4){K:Int->Bool}(h:Wn D.hv K (fe D.Yb D.Yb.length (c.en D.hv))=true):K c.SJ=true:=by
 rw[Ol e,hv]at h;unfold dd.SJ;by_cases a:c.Ai<2
 ·rw[if_pos a]at h ⊢;exact h
 ·rw[if_neg a]at h ⊢;induction b:D.xb with
  |true=>rw[b]at h;exact(Fc h).elim
  |false=>rw[b]at h;unfold Xb.gv at h;rw[hv]at h;exact h
theorem eE(f:c.ok D.hv){x:Nat}(h:Jb D.ps D.hv D.Yb (c.Xf D.ps D.hv)=some x):mA D c:=by
 refine Nb (fun p b a=>?_)<|kh h
 intro g v j;unfold post;induction hv:D.hv with
 |false=>exact(j hv).symm
 |true=>
  have i:c.nc=9:=f.nc.resolve_right fun e=>by rw[hv]at e;cases e.1
  refine aa (if_pos i) ?_;have a:=Ry hv f.Ai a;have l:(c.Xf D.ps D.hv).la.drop ((va c.yb).length+1)=c.tail.map Tl.Dl:=by refine(?_:(va c.yb++[Sa.Qg c.nc (D.ps.map c.Sb)]++c.tail.map Tl.Dl).drop _=_);exact aa (List.drop_left' (by simp)) rfl
  have m:((c.Xf D.ps D.hv).la[(va c.yb).length]?.map Sa.nc).getD 0=9:=by
   have:(c.Xf D.ps D.hv).la[(va c.yb).length]?=some (Sa.Qg c.nc (D.ps.map c.Sb)):=by show(va c.yb++[Sa.Qg c.nc (D.ps.map c.Sb)]++c.tail.map Tl.Dl)[_]?=_;refine aa (List.append_assoc _ _ _) (aa (List.getElem?_append_right (tf _)) (aa (Nat.sub_self _) ?_));rfl
   refine aa this ?_;exact i
  rw[l,m]at a;refine Qy c.tail _ _ b (fun n o=>?_) _ a;have:(n:Int)=9:=Ub o;unfold uv;exact aa (if_pos (by exact Int.ofNat.inj (by assumption))) rfl
theorem zm(a:D.ok)(h:D.cv c=true):wj D:=by unfold Xb.cv at h;rw[Bool.and_eq_true]at h;exact qA a (by exact(Bool.not_eq_true' _).mp h.2)
theorem Ax(a:c.ok D.hv)(h:D.cv c=true):mA D c:=by
 unfold Xb.cv at h;rw[Bool.and_eq_true]at h;refine Aa (fun x b=>?_)<|Option.isSome_iff_exists.mp h.1
 exact eE a b
theorem MI(a:D.ok)(w:Nat->Int)(h:w 3=n)(i:n≤9):∃v s s',vv D.Yb D.ps 2000 (init D.ps (D.ps.map w))=some (v,s)∧vv (Dh D (D.cv D.c3) (D.cv D.c4)) D.ps 2000 (init D.ps (D.ps.map w))=some (v,s')∧ s'.Ja=s.Ja∧s'.oa=s.oa∧(D.cv D.c3=true->D.cv D.c4=true->s'.most=1):=by
 (change let R:Prop:=_;R;intro R);refine Lk (fun u s1 c=>?_)<|frame (v3:=false) (v4:=false) a (fun e=>by exact(Fc e).elim) (fun e=>by exact(Fc e).elim) n _ _ 1000 1 h i ((⟨fun m g=>Hl a w m g,rfl,rfl,rfl,⟨(by decide:(500:Int)<1000),(by decide:(1000:Int)<10000)⟩,rfl,rfl⟩):E0 ⟨w,9,0,[],[]⟩ (init D.ps (D.ps.map w))) (.inr (lg rfl rfl rfl rfl)) (by refine(?_:1+n≤50);omega:(init D.ps (D.ps.map w)).Rb+n≤50)
 have b:∃t s',Hv (Dh D (D.cv D.c3) (D.cv D.c4)) D.ps (D.cv D.c3&&D.cv D.c4) (init D.ps (D.ps.map w)) (60*(n+1)) (ev D n 1000 1 ⟨w,9,0,[],[]⟩) t s':=by
  refine frame a (fun e=>⟨zm a e,Ax a.c3 e⟩) (fun e=>⟨zm a e,Ax a.c4 e⟩) n _ _ 1000 1 h i ((⟨fun m g=>Hl a w m g,rfl,rfl,rfl,⟨(by decide:(500:Int)<1000),(by decide:(1000:Int)<10000)⟩,rfl,rfl⟩):E0 ⟨w,9,0,[],[]⟩ (init D.ps (D.ps.map w))) ?_ (by refine(?_:1+n≤50);omega:(init D.ps (D.ps.map w)).Rb+n≤50);cases j:D.cv D.c3 with
  |true=>exact .inl (zm a j)
  |false=>
   cases l:D.cv D.c4 with
   |true=>exact .inl (zm a l)
   |false=>exact .inr (lg rfl rfl rfl rfl)
 (revert b;intro f;refine Lk (fun x o b=>?_) f;clear f)
 have l1:=c.le;have l2:=b.le;refine(Qw _ s1 o (c.Nu.vv (c.ic.done c.stack) 2000 (by lia)) (b.Nu.vv (b.ic.done b.stack) 2000 (by lia)) (by exact aa c.Ja (aa b.Ja rfl)) (by exact aa c.oa (aa b.oa rfl)) (fun p q=>?_));exact b.most (by refine aa p (aa q ?_);rfl)
structure Bi(oe:List zb)(s:SS)(la:List Sa)(o:SS):Prop where
 Uo:mj s la=some o
 rq:yC oe s la
theorem Bi.nil{a:List zb}{s:SS}(h:∀n,zb.r n∈a->n∈s.1):Bi a s [] s:=⟨rfl,h⟩
theorem Bi.cons{a:List zb}{s s' o:SS}{i:Sa}{r:List Sa}(e:∀n,zb.r n∈i.args->n∈s.1)(b:0≤i.nc)(hs:Bf s.1 s.2 i.nc.toNat=some s')(h:Bi a s' r o):Bi a s (i::r) o:=by
 refine⟨?_,e,fun g t c=>?_,fun f=>absurd b f⟩
 ·refine(?_:(if 0≤i.nc then(match Bf s.1 s.2 i.nc.toNat with|some s'=>mj s' r|none=>none)else mj s r)=_);refine aa (if_pos b) (aa hs ?_);exact h.Uo
 ·rw[hs]at c;refine Cb (Bb c) ?_;exact h.rq
theorem Bi.skip{a:List zb}{s o:SS}{i:Sa}{r:List Sa}(c:∀n,zb.r n∈i.args->n∈s.1)(b:¬0≤i.nc)(h:Bi a s r o):Bi a s (i::r) o:=by refine⟨?_,c,fun e=>absurd e b,fun f=>h.rq⟩;refine(?_:(if 0≤i.nc then _ else mj s r)=_);refine aa (if_neg b) ?_;exact h.Uo
theorem Bi.WH{j:List zb}:∀{a b:List Sa}{s s' o:SS},Bi [] s a s'->Bi j s' b o->Bi j s (a++b) o:=by
 intro g;induction g with
 |nil=>
  intro b s s' o h h'
  (replace h.Uo:=(Bb h.Uo).symm;subst h.Uo);exact h'
 |cons i a l=>
  intro b s s' o h h';obtain⟨c,m⟩:=h
  (refine Nb (fun n p q=>?_) m;clear m)
  have c:(if 0≤i.nc then(match Bf s.1 s.2 i.nc.toNat with|some s'=>mj s' a|none=>none)else mj s a)=some s':=c;by_cases f:0≤i.nc
  ·rw[if_pos f]at c;cases e:Bf s.1 s.2 i.nc.toNat with
   |none=>rw[e]at c;exact nomatch c
   |some t=>rw[e]at c;exact .cons n f e (l ⟨c,p f t e⟩ h')
  ·rw[if_neg f]at c;exact .skip n f (l ⟨c,q f⟩ h')
theorem tq{l:List Nat}{x:Nat}(h:x∈l):Bf l m x=some (l,m):=by unfold Bf;exact aa (if_pos (by simpa using h)) rfl
theorem Bi.keep{e:List zb}{s:SS}(m:∀n,zb.r n∈e->n∈s.1):∀(f:List Sa),(∀i∈f,(∀n,zb.r n∈i.args->n∈s.1)∧(0≤i.nc->i.nc.toNat∈s.1))->Bi e s f s:=by
 intro a;induction a with
 |nil=>intro h;exact .nil m
 |cons i r g=>
  intro h;refine Qa (fun l o=>?_)<|h i (.head _);by_cases b:0≤i.nc
  ·exact .cons l b (tq (o b)) (g fun j c=>h j (.tail _ c))
  ·exact .skip l b (g fun j c=>h j (.tail _ c))
theorem Dk{s:SS}:∀n,zb.r n∈([]:List zb)->n∈s.1:=fun a h=>nomatch h
theorem fv{x y:Nat}:∀{l:List Nat},y=x∨y∈l->y∈Be x l:=by
 intro a;induction a with
 |nil=>
  intro h;rcases h with rfl|h
  ·exact .head _
  ·exact nomatch h
 |cons z r b=>
  intro h;refine(?_:y∈(if x<z then x::z::r else if x=z then z::r else z::Be x r));split
  ·rcases h with rfl|h
   ·exact .head _
   ·exact .tail _ h
  ·split
   ·rename_i e;rcases h with rfl|h
    ·refine aa e ?_;exact .head _
    ·exact h
   ·rcases h with rfl|h
    ·exact .tail _ (b (.inl rfl))
    ·rcases pg h with rfl|h
     ·exact .head _
     ·exact .tail _ (b (.inr h))
theorem tu(x:Nat):∀l:List Nat,l.length≤(Be x l).length∧(Be x l).length≤l.length+1:=by
 intro a;induction a with
 |nil=>exact⟨Nat.zero_le _,tf _⟩
 |cons z r b=>
  have:=b;refine(?_:(z::r).length≤(if x<z then x::z::r else if x=z then z::r else z::Be x r).length∧(if x<z then x::z::r else if x=z then z::r else z::Be x r).length≤(z::r).length+1);split
  ·simp
  ·split<;>simp<;>assumption
theorem gB{s:SS}{x:Nat}(a:s.2=31)(b:s.1.length≤17)(c:x≤31):∃s':SS,Bf s.1 s.2 x=some s'∧s'.2=31∧s.1.length≤s'.1.length∧s'.1.length≤s.1.length+1∧(∀y∈s.1,y∈s'.1)∧x∈s'.1:=by
 by_cases h:x∈s.1
 ·exact(QI s (tq h) a (tf _) (Nat.le_succ _) (fun f h=>h) h)
 ·refine(QI (Be x s.1,31) ?_ rfl ((tu x s.1).1) ((tu x s.1).2) (fun y e=>fv (.inr e)) (fv (.inl rfl)));unfold Bf;exact aa (if_neg (by simpa using h)) (aa (if_neg (by lia)) (aa (if_pos (yc a b c)) rfl))
theorem Zx:∀(l:List (Nat×Nat))(s:SS),s.2=31->s.1.length+l.length≤18->(∀p∈l,p.2≤31∧p.1∈s.1)->∃s':SS,Bi [] s (l.map fun p=>Sa.cp p.2 (.r p.1)) s'∧s.1.length≤s'.1.length∧(∀y∈s.1,y∈s'.1)∧∀p∈l,p.2∈s'.1:=by
 intro b;induction b with
 |nil=>intro s f g h;exact(Kj s (.nil Dk) (tf _) (fun o h=>h) (fun o h=>nomatch h))
 |cons p l u=>
  intro s f g h;simp only[List.length_cons]at g;refine Qa (fun v w=>?_)<|h p (.head _);refine nK (fun t e z A K j B=>?_)<|gB (s:=s) (x:=p.2) f (by omega) v;refine eh (fun s' D F m G=>?_)<|u t z (bc (Nat.add_le_add_right (by assumption) _) (by rw[Nat.add_right_comm];assumption)) fun q a=>⟨(h q (.tail _ a)).1,j _ (h q (.tail _ a)).2⟩;refine(Kj s' (.cons (i:=.cp p.2 (.r p.1)) (fun n c=>?_) (vo _) (by refine(?_:Bf s.1 s.2 ((p.2:Nat):Int).toNat=_);exact e) D) (bc A F) (fun y H=>m y (j y H)) (fun q a=>?_))
  ·have c:zb.r n∈[zb.r p.1]:=c;have:=Jd c;cases this;exact w
  ·rcases pg a with rfl|a
   ·exact m _ B
   ·exact G q a
theorem Rp{i:Sa}:∀{ps:List Nat}{c:List zb},i∈pf ps c->∃p o,p∈ps∧o∈c∧i.args=[o]∧i.nc=p:=by
 intro b;induction b with
 |nil=>intro a h;cases h
 |cons p ps e=>
  intro a h;rcases a with _|⟨o,c⟩
  ·cases h
  ·have h:i∈dk p o++pf ps c:=h;rcases List.mem_append.mp h with h|h
   ·cases o with
    |k n=>refine aa (Jd h) ?_;exact(Af p (.k n) (.head _) (.head _) rfl rfl)
    |r v=>
     have h:i∈(if v=p then []else [Sa.cp p (.r v)]):=h;split at h
     ·exact nomatch h
     ·refine aa (Jd h) ?_;exact(Af p (.r v) (.head _) (.head _) rfl rfl)
   ·refine Cd (fun f g j l m=>?_)<|e h
    exact(qf f g (.tail _ j) (.tail _ l) m)
theorem Br{args:List zb}{r0:Nat}{o:zb}(h:o∈(Qe ps args r0).found):o∈args∨∃p∈(Qe ps args r0).Lc,o=.r p.2:=by
 have a:=Qj ps args r0;refine Aa (fun j c=>?_)<|List.getElem?_of_mem h
 have b:=(Ro c).1;rw[a.fl]at b;refine ya (fun f e g=>?_)<|a.fd j _ b (List.getElem?_eq_getElem b)
 rw[c]at e;refine aa (Bb e) ?_;rcases g with⟨rfl,_⟩|⟨v,x,_,rfl,i⟩
 ·exact .inl (List.getElem_mem _)
 ·exact .inr (pb (v,x) (sq i) rfl)
theorem mn(ps:List Nat)(args:List zb)(r0:Nat):(Qe ps args r0).Lc.length≤args.length:=by have:=(Km ps args r0).2;rw[(Qj ps args r0).ah,sd]at this;exact this
theorem Hn{args:List zb}{r0:Nat}{p:Nat×Nat}(h:p∈(Qe ps args r0).Lc):p.1∈ps∧p.2<(qc ps args r0).2∧p.2<r0+args.length:=by
 have a:=Qj ps args r0;refine Aa (fun j b=>?_)<|List.getElem?_of_mem h
 have c:=(Ro b).1;refine Nb (fun f e g=>?_)<|a.XH j p b
 have:=mn ps args r0;have i:=a.rg;refine(?_:_∧p.2<(Qe ps args r0).Z∧_);exact(yc e (by lia) (by lia))
noncomputable def Tf:SS:=([0,1,2,3,4,5,6,7,8,9,10,11],31)
theorem ef(h:n<12):n∈Tf.1:=(by decide:∀n,n<12->n∈Tf.1) n h
theorem yv(b:D.ok)(m:c.ok D.hv){r:Nat}(H:r≤20):∃o:SS,Bi [] Tf (qc D.ps (D.ps.map c.Sb) r).1 o∧12≤o.1.length∧∀y∈Tf.1,y∈o.1:=by
 have f:=mn D.ps (D.ps.map c.Sb) r;rw[sd,Fh b]at f;refine eh (fun s' s t g u=>?_)<|Zx (Qe D.ps (D.ps.map c.Sb) r).Lc Tf rfl (by refine(?_:12+_≤18);omega) fun p j=>by
  refine Nb (fun v w x=>?_)<|Hn j
  rw[sd,Fh b]at x;exact⟨by lia,ef (by have:=(Vj b) _ v;exact bc (by assumption) (Pa rfl))⟩
 refine(cc s' ?_ t g);refine(?_:Bi [] Tf ((Qe D.ps (D.ps.map c.Sb) r).sf++pf D.ps (Qe D.ps (D.ps.map c.Sb) r).found) s');refine aa ((Qj D.ps (D.ps.map c.Sb) r).ah) ?_;refine s.WH (.keep Dk _ fun i z=>?_);refine Ig (fun p o j A B F=>?_)<|Rp z
 refine⟨fun n a=>?_,fun w=>?_⟩
 ·rw[B]at a;have a:=Jd a;rcases Br A with h|⟨q,G,e⟩
  ·refine ya (fun K l e=>?_)<|List.mem_map.mp h
   exact g _ (ef (Jq m ((Vj b) _ l) (a.trans e.symm)))
  ·rw[e]at a;cases a;exact u q G
 ·refine aa F ?_;exact g _ (ef (by have:=(Vj b) _ j;exact bc (by assumption) (Pa rfl)))
noncomputable def fk:Code->Bool
 | .Yh _| .vk| .ym=>true
 |_=>false
structure S7(S:Bool->SS):Prop where
 mem:∀b n,n<7->n∈(S b).1
 m7:7∈(S true).1
 add:∀b,Bf (S b).1 (S b).2 7=some (S true)
theorem dC{S:Bool->SS}(u:S7 S){b:Bool}{c:Code}(p:c.ok):Bi [] (S b) c.la (S (b||fk c)):=by
 have j:∀{i:Sa}{r:List Sa}{o:SS},(∀n,zb.r n∈i.args->n<7)->(0≤i.nc->i.nc.toNat<7)->Bi [] (S b) r o->Bi [] (S b) (i::r) o:=fun{i} q q v w h=>by
  by_cases x:0≤i.nc
  ·exact .cons (fun n a=>u.mem _ _ (v n a)) x (tq (u.mem _ _ (w x))) h
  ·exact .skip (fun n a=>u.mem _ _ (v n a)) x h
 have t:∀{i:Sa}{r:List Sa}{o:SS},(∀n,zb.r n∈i.args->n<7)->i.nc=7->Bi [] (S true) r o->Bi [] (S b) (i::r) o:=fun{i} q q v w h=>by exact .cons (fun n a=>u.mem _ _ (v n a)) (by refine aa w ?_;decide) (by exact w▸u.add b) h
 have l:∀b,Bi [] (S b) [] (S b):=fun b=>.nil Dk;have s:S (b||false)=S b:=by exact aa (Bool.or_false _) rfl
 cases c with
 |ar y g z=>
  (change let R:Prop:=_;R;intro R);(refine Nb (fun q v hb=>?_) p;clear p)
  refine(?_:Bi [] (S b) _ (S (b||false)));refine aa s ?_;refine j (fun n a=>?_) (fun q=>?_) (l b)
  ·simp[Sa.args]at a;rcases a with rfl|rfl
   ·exact bc (by assumption) (Pa rfl)
   ·rcases hb with⟨m,e,h⟩|⟨m,e,_⟩<;>(first|(exact(Fc e).elim;done)|cases e);exact bc (by assumption) (Pa rfl)
  ·refine(?_:((g:Nat):Int).toNat<7);exact bc (by assumption) (Pa rfl)
 |Yh g=>have p:g<3:=p;refine(?_:Bi [] (S b) _ (S (b||true)));refine aa (by rw[Bool.or_true]:S (b||true)=S true) ?_;exact t (fun n a=>by simp[Sa.args]at a;omega) rfl (l true)
 |iG g f=>have p:g<3:=p;refine(?_:Bi [] (S b) _ (S (b||false)));refine aa s ?_;exact j (fun n a=>by simp[Sa.args]at a;omega) (fun h=>absurd h (show ¬(0:Int)≤ -1 by exact Ub rfl)) (l b)
 |eF g f=>refine(?_:Bi [] (S b) _ (S (b||false)));refine aa s ?_;exact j (fun n a=>by simp[Sa.args]at a;omega) (fun q=>by refine(?_:((g:Nat):Int).toNat<7);exact bc (by assumption) (Pa rfl)) (l b)
 |BF g=>have p:g<3:=p;refine(?_:Bi [] (S b) _ (S (b||false)));refine aa s ?_;exact j (fun n a=>by simp[Sa.args]at a;omega) (fun h=>absurd h (show ¬(0:Int)≤ -1 by exact Ub rfl)) (l b)
 |VC g=>refine(?_:Bi [] (S b) _ (S (b||false)));refine aa s ?_;exact j (fun n a=>by simp[Sa.args]at a;omega) (fun q=>by refine(?_:((g:Nat):Int).toNat<7);exact bc (by assumption) (Pa rfl)) (l b)
 |NC g=>have p:g<3:=p;refine(?_:Bi [] (S b) _ (S (b||false)));refine aa s ?_;exact j (fun n a=>by simp[Sa.args]at a;omega) (fun q=>by exact Pa rfl) (j (fun n a=>by simp[Sa.args]at a;omega) (fun h=>absurd h (show ¬(0:Int)≤ -1 by exact Ub rfl)) (l b))
 |vk=>refine(?_:Bi [] (S b) _ (S (b||true)));refine aa (by rw[Bool.or_true]:S (b||true)=S true) ?_;exact t (fun n a=>by simp[Sa.args]at a;omega) rfl (l true)
 |ml=>refine(?_:Bi [] (S b) _ (S (b||false)));refine aa s ?_;exact j (fun n a=>by simp[Sa.args]at a;omega) (fun h=>absurd h (show ¬(0:Int)≤ -1 by exact Ub rfl)) (l b)
 |ym=>refine(?_:Bi [] (S b) _ (S (b||true)));refine aa (by rw[Bool.or_true]:S (b||true)=S true) ?_;exact t (fun n a=>by simp[Sa.args]at a;omega) rfl (.skip (fun n a=>by simp[Sa.args]at a;refine aa a ?_;exact u.m7) (show ¬(0:Int)≤ -1 by exact Ub rfl) (l true))
 |mul g=>have p:g<3:=p;refine(?_:Bi [] (S b) _ (S (b||false)));refine aa s ?_;exact j (fun n a=>by simp[Sa.args]at a;omega) (fun q=>by refine(?_:((g:Nat):Int).toNat<7);exact bc (by assumption) (Pa rfl)) (l b)
theorem Er{S:Bool->SS}(f:S7 S):∀(l:List Code)(b:Bool),(∀c∈l,c.ok)->Bi [] (S b) (va l) (S (b||l.any fk)):=by
 intro a;induction a with
 |nil=>intro b e;refine(?_:Bi [] (S b) [] (S (b||false)));refine aa (Bool.or_false _) ?_;exact .nil Dk
 |cons c l g=>intro b e;refine(?_:Bi [] (S b) (c.la++va l) (S (b||(fk c||l.any fk))));refine Cb (Bool.or_assoc _ _ _) ?_;exact(dC f (e c (.head _))).WH (g _ fun x h=>e x (.tail _ h))
noncomputable def sH(b:Bool):SS:=(if b=true then [0,1,2,3,4,5,6,7,9,10]else [0,1,2,3,4,5,6,9,10],31)
noncomputable def sA(b:Bool):SS:=(if b=true then [0,1,2,3,4,5,6,7,9,10,11]else [0,1,2,3,4,5,6,9,10,11],31)
theorem bL:S7 sH:=⟨fun b=>by cases b<;>exact Ub rfl,by exact Ub rfl,fun b=>by cases b<;>rfl⟩
theorem YJ:S7 sA:=⟨fun b=>by cases b<;>exact Ub rfl,by exact Ub rfl,fun b=>by cases b<;>rfl⟩
theorem YB:Bi [] ([0,1,2,3],7) Lb (sH false):=by refine .cons (s':=([0,1,2,3,4],31)) ?_ (by exact Ub rfl) rfl (.cons (s':=([0,1,2,3,4,5],31)) ?_ (by exact Ub rfl) rfl (.cons (s':=([0,1,2,3,4,5,6],31)) ?_ (by exact Ub rfl) rfl (.skip ?_ (by exact Ub rfl) (.cons (s':=([0,1,2,3,4,5,6,9],31)) ?_ (by exact Ub rfl) rfl (.cons (s':=([0,1,2,3,4,5,6,9,10],31)) ?_ (by exact Ub rfl) rfl (.nil Dk))))))<;>(intro n a;simp[Sa.args]at a<;>simp<;>lia)
theorem Tx(j:D.ok){i:Sa}(h:Kh D i) : -1≤i.nc∧i.nc<12:=by
 induction h with
 |head e=>simp only[Lb,List.mem_cons,List.not_mem_nil,or_false]at e;rcases e with rfl|rfl|rfl|rfl|rfl|rfl<;>decide
 | @code c i l g e=>
  induction c with
  |ar m a b=>have:a<3:=g.2.1;refine aa (Jd e) ?_;refine(?_ : -1≤((a:Nat):Int)∧((a:Nat):Int)<12);lia
  |eF a f=>have:a<3:=g;refine aa (Jd e) ?_;refine(?_ : -1≤((a:Nat):Int)∧((a:Nat):Int)<12);lia
  |VC a=>have:a<3:=g;refine aa (Jd e) ?_;refine(?_ : -1≤((a:Nat):Int)∧((a:Nat):Int)<12);lia
  |mul a=>have:a<3:=g;refine aa (Jd e) ?_;refine(?_ : -1≤((a:Nat):Int)∧((a:Nat):Int)<12);lia
  |NC a=>
   rcases pg e with rfl|e
   ·decide
   ·refine aa (Jd e) ?_;exact⟨(by decide:(-1:Int)≤ -1),(by decide:(-1:Int)<12)⟩
  |ym=>
   rcases pg e with rfl|e
   ·decide
   ·refine aa (Jd e) ?_;decide
  |Yh a=>refine aa (Jd e) ?_;exact⟨(by decide:(-1:Int)≤7),(by decide:(7:Int)<12)⟩
  |iG a f=>refine aa (Jd e) ?_;exact⟨(by decide:(-1:Int)≤ -1),(by decide:(-1:Int)<12)⟩
  |BF a=>refine aa (Jd e) ?_;exact⟨(by decide:(-1:Int)≤ -1),(by decide:(-1:Int)<12)⟩
  |vk=>refine aa (Jd e) ?_;decide
  |ml=>refine aa (Jd e) ?_;decide
 | @Qg c l=>refine(?_ : -1≤c.nc∧c.nc<12);rcases(by rcases l with rfl|rfl;exact j.c3;exact j.c4:c.ok D.hv).nc with h|h<;>lia
 |tl x=>induction x<;>decide
 |and=>exact⟨(by decide:(-1:Int)≤7),(by decide:(7:Int)<12)⟩
 |wi=>exact⟨(by decide:(-1:Int)≤10),(by decide:(10:Int)<12)⟩
 |_=>decide
theorem vw{o:zb}(a:12≤Z)(h:dg o):o.cu Z:=by
 rcases h with⟨n,rfl,h⟩|⟨n,rfl,h⟩
 ·refine(?_:n<Z);lia
 ·refine(?_:n≤4294967295);exact Nat.le_of_lt (Nat.lt_of_lt_of_le (by assumption) (Pa rfl))
theorem Ir{p:Nat}(a:c.ok hv)(b:12≤Z)(f:p<4):(c.Sb p).cu Z:=by
 by_cases e:p=3
 ·refine aa e (aa a.g3 ?_);refine(?_:8<Z);exact bc (Pa rfl) (by assumption)
 ·exact vw b (a.g p (by lia))
theorem ct(j:D.ok){i:Sa}(h:Kh D i)(s:12≤Z):i.cu Z:=by
 (change let R:Prop:=_;R;intro R);refine Qa (fun t v=>?_)<|Tx j h
 refine⟨fun o a=>?_,t,by lia,by have:=Pf j h;exact bc (by assumption) (Pa rfl)⟩;cases o with
 |r n=>have:=Gq j h a;exact Nat.lt_of_lt_of_le (by assumption) (by assumption)
 |k n=>
  cases h with
  | @Qg c q=>
   have g:c.ok D.hv:=by rcases q with rfl|rfl;exact j.c3;exact j.c4
   refine ya (fun p u e=>?_)<|List.mem_map.mp a
   refine Cb e ?_;exact Ir g s (Vj j p u)
  |head f=>simp only[Lb,List.mem_cons,List.not_mem_nil,or_false]at f;refine(?_:n≤4294967295);rcases f with rfl|rfl|rfl|rfl|rfl|rfl<;>simp[Sa.args]at a<;>lia
  | @code c i q g f=>
   refine(?_:n≤4294967295);cases c with
   |ar w l b=>
    rw[Jd f]at a;simp[Sa.args]at a;rcases g.2.2 with⟨m,e,_⟩|⟨m,e,y⟩
    ·rw[e]at a;exact nomatch a
    ·rw[e]at a;cases a;exact Nat.le_of_lt (Nat.lt_of_lt_of_le (by assumption) (Pa rfl))
   |NC l=>
    rcases pg f with rfl|f
    ·simp[Sa.args]at a;lia
    ·rw[Jd f]at a;exact nomatch a
   |ym=>
    rcases pg f with rfl|f
    ·exact nomatch a
    ·rw[Jd f]at a;exact nomatch a
   |mul l=>rw[Jd f]at a;simp[Sa.args]at a;lia
   |_=>rw[Jd f]at a;simp[Sa.args]at a
  |tl x=>refine(?_:n≤4294967295);induction x<;>simp[Tl.Dl,Sa.args]at a<;>lia
  |_=>refine(?_:n≤4294967295);simp[Sa.args]at a<;>lia
theorem gI(a:D.ok){v:Bool}{r:Nat}:(nb D v c r).2≤r+4:=by
 unfold nb;split
 ·have:=(Qj D.ps (D.ps.map c.Sb) r).rg;have b:=mn D.ps (D.ps.map c.Sb) r;rw[sd,Fh a]at b;refine(?_:(Qe D.ps (D.ps.map c.Sb) r).Z≤_);lia
 ·exact pn ..
theorem Xh(a:zb.r n∈(En.ic (if hv=true then some m else none)).args):n=m:=by
 induction hv with
 |true=>have a:zb.r n∈[zb.r m]:=a;cases Jd a;rfl
 |false=>cases a
theorem Zo{v:Bool}{r:Nat}:∀n,zb.r n∈(nb D v c r).1.en.args->v=false∧n<12:=fun n a=>by
 unfold nb at a;cases v with
 |true=>rw[if_pos rfl]at a;exact nomatch a
 |false=>
  have a:zb.r n∈(c.en D.hv).args:=a;unfold dd.en at a;split at a
  ·have:=Xh a;exact⟨rfl,by lia⟩
  ·exact nomatch a
theorem Ew(b:D.ok){v:Bool}(f:c=D.c3∨c=D.c4){r:Nat}(w:12≤r)(x:(nb D v c r).2≤Z):∀i∈(nb D v c r).1.la,i.cu Z:=fun i a=>by
 have l:r≤(nb D v c r).2:=Np;unfold nb at a x l;induction v with
 |false=>exact ct b (Hg b f a) (by exact Nat.lt_of_lt_of_le (by assumption) (by assumption))
 |true=>
  rcases List.mem_append.mp a with a|a
  ·exact ct b (Hg b f (List.mem_append_left _ (List.mem_append_left _ a))) (by lia)
  ·have a:i∈(Qe D.ps (D.ps.map c.Sb) r).sf++pf D.ps (Qe D.ps (D.ps.map c.Sb) r).found:=a;rcases List.mem_append.mp a with a|a
   ·rw[(Qj D.ps (D.ps.map c.Sb) r).ah]at a
    (refine ya (fun p m n=>?_)<|List.mem_map.mp a;refine Cb n ?_)
    refine Nb (fun y A B=>?_)<|Hn m
    have:=(Vj b) _ y;refine⟨fun o g=>?_,?_,?_,Pa rfl⟩
    ·have g:o∈[zb.r p.1]:=g;refine aa (Jd g) ?_;refine(?_:p.1<Z);lia
    ·refine(?_ : -1≤((p.2:Nat):Int));exact vo _
    ·refine(?_:((p.2:Nat):Int)<Z);lia
   ·refine Ig (fun p o m g t u=>?_)<|Rp a
    have:=(Vj b) _ m;refine⟨fun F j=>?_,by exact u▸vo _,by refine aa u ?_;lia,by exact t▸Pa rfl⟩;rw[t]at j;refine aa (Jd j) ?_;rcases Br g with h|⟨q,z,e⟩
    ·refine ya (fun G s e=>?_)<|List.mem_map.mp h
     refine Cb e ?_;exact Ir (by rcases f with rfl|rfl;exact b.c3;exact b.c4:c.ok D.hv) (by lia) ((Vj b) _ s)
    ·refine aa e ?_;have:=(Hn z).2.1;exact Nat.lt_of_lt_of_le (by assumption) (by assumption)
theorem DB(a:D.ok){v:Bool}(b:c=D.c3∨c=D.c4){r:Nat}(s:r≤20):∃o:SS,Bi (nb D v c r).1.en.args Tf (nb D v c r).1.la o∧12≤o.1.length∧(∀y∈Tf.1,y∈o.1)∧(v=false->o=Tf):=by
 have g:∀i∈(c.Xf D.ps D.hv).la,(∀n,zb.r n∈i.args->n∈Tf.1)∧(0≤i.nc->i.nc.toNat∈Tf.1):=fun i j=>by have h:=Hg a b j;have:=Tx a h;exact⟨fun n p=>ef (Gq a h p),fun q=>ef (by lia)⟩
 induction v with
 |false=>refine(Kj Tf (.keep (fun n p=>ef (Zo n p).2) _ ?_) (tf _) (fun q h=>h) (fun q=>rfl));exact g
 |true=>
  refine Pb (fun o f l m=>?_)<|yv a (by rcases b with rfl|rfl;exact a.c3;exact a.c4:c.ok D.hv) s
  refine(Kj o ?_ l m (fun e=>by exact(Fc e.symm).elim));exact .WH (.keep Dk _ fun i j=>g i (List.mem_append_left _ (List.mem_append_left _ j))) f
theorem oH(b:D.ok):Bi [.r 3] ([0,1,2,3],7) D.b0.la (sA (D.ec.any fk)):=by have h:=Er bL D.ec false b.ec;refine(YB.WH h).WH (.cons (s':=sA (D.ec.any fk)) (fun n a=>bL.mem _ _ (by replace a:=Jd a;lia)) (by exact Ub rfl) (by induction D.ec.any fk<;>rfl) (.nil fun n a=>YJ.mem _ _ (by replace a:=Jd a;lia)))
theorem oG(e:D.ok)(b:Bool):Bi [.r 7] (sA b) D.b1.la Tf:=by
 have g:=e.mx;refine(Er YJ D.mc b e.mc).WH ?_;generalize(b||D.mc.any fk)=c;have f:∃s':SS,Bf (sA c).1 (sA c).2 8=some s'∧(∀n,n<7->n∈s'.1)∧Bf s'.1 s'.2 7=some Tf:=by
  induction c with
  |true=>exact(cc Tf rfl (fun n a=>ef (by exact Nat.lt_of_lt_of_le (by assumption) (Pa rfl))) rfl)
  |false=>exact(cc ([0,1,2,3,4,5,6,8,9,10,11],31) rfl (by decide) rfl)
 (refine Pb (fun s' h i j=>?_) f;clear f)
 refine .cons (s':=s') (fun n a=>YJ.mem _ _ (by simp[Sa.args]at a;omega)) (by exact Ub rfl) h (.cons (s':=Tf) (fun n a=>i _ (by simp[Sa.args]at a;omega)) (show(0:Int)≤7 by decide) j (.nil fun n a=>ef (by simp at a;omega)))
theorem qG(c:D.ok)(b:Bool):Bi (En.ic D.gv).args (sA b) D.b2.la (sA b):=by
 have e:=c.bx;refine .keep (fun n a=>?_) _ fun i f=>?_
 ·have:n=10:=Xh a;refine aa this ?_;induction b<;>decide
 ·refine aa (Jd f) ?_;refine⟨fun n a=>YJ.mem _ _ (by replace a:=Jd a;lia),fun g=>?_⟩;show((10:Nat):Int).toNat∈_;induction b<;>decide
theorem Xz:Bi (En.ic D.gv).args Tf D.b6.la Tf:=by
 refine .keep (fun n b=>?_) _ fun i a=>?_
 ·have:n=10:=Xh b;refine aa this ?_;exact ef (by exact Pa rfl)
 ·have a:i∈(if D.xb then [Sa.cp 10 (.r 10)]else []):=a;split at a
  ·refine aa (Jd a) ?_;exact⟨fun n b=>ef (by replace b:=Jd b;lia),fun c=>ef (by exact Pa rfl)⟩
  ·exact nomatch a
theorem Bq{a:Type}{R:Nat->a->Prop}{b:a}{l:List a}(r0:R 0 b)(c:∀i B,l[i]?=some B->R (i+1) B):∀i B,(b::l)[i]?=some B->R i B:=fun i B h=>by
 induction i with
 |zero=>refine Cb (Bb h) ?_;exact r0
 |succ i=>exact c i B h
theorem Xr{R:Nat->xd->Prop}{v3 v4:Bool}(r0:R 0 D.b0)(a:R 1 D.b1)(b:R 2 D.b2)(c:R 3 (nb D v3 D.c3 12).1)(r4:R 4 (nb D v4 D.c4 (nb D v3 D.c3 12).2).1)(r5:R 5 ⟨[],.Ib 6⟩)(r6:R 6 D.b6):∀i B,(Dh D v3 v4)[i]?=some B->R i B:=
 Bq r0 (Bq (R:=fun i=>R (i+1)) a (Bq (R:=fun i=>R (i+2)) b (Bq (R:=fun i=>R (i+3)) c (Bq (R:=fun i=>R (i+4)) r4 (Bq (R:=fun i=>R (i+5)) r5 (Bq (R:=fun i=>R (i+6)) r6 fun e e h=>by injection h))))))
theorem rh{R:Nat->Prop}{a:Nat}{l:List Nat}(r:R a)(b:∀j∈l,R j):∀j∈a::l,R j:=fun j h=>(pg h).elim (fun e=>e▸r) (b j)
theorem Xt{R:Nat->Prop}:∀j∈([]:List Nat),R j:=fun a h=>nomatch h
theorem FL{R:Nat->Prop}(r0:R 0)(a:R 1)(b:R 2)(c:R 3)(r4:R 4)(r5:R 5)(r6:R 6):∀i,i<7->R i:=fun i h=>
 rh r0 (rh a (rh b (rh c (rh r4 (rh r5 (rh r6 Xt)))))) i (List.mem_range.mpr h)
theorem yx{v:Bool}(a:c.Ai<4){r:Nat}(h:j∈(nb D v c r).1.en.Hk):(v=true∧j=0)∨(v=false∧(j=5∨j=6)):=by
 unfold nb at h;cases v with
 |true=>rw[if_pos rfl]at h;exact .inl ⟨rfl,Jd h⟩
 |false=>
  have h:j∈(c.en D.hv).Hk:=h;unfold dd.en at h;split at h
  ·exact nomatch h
  ·have:=Jd h;exact .inr ⟨rfl,by lia⟩
theorem fD{v:Bool}{r:Nat}{o:Option Nat}(h:(nb D v c r).1.en=.ic o):o.isSome=D.hv:=by
 unfold nb at h;induction v with
 |true=>rw[if_pos rfl]at h;injection h
 |false=>
  have h:c.en D.hv=.ic o:=h;unfold dd.en at h;split at h
  ·cases h;induction D.hv<;>rfl
  ·injection h
theorem tm(D:Xb):D.gv.isSome=D.hv:=by unfold Xb.gv;induction D.hv<;>rfl
noncomputable def cE(b:Bool):Nat->SS:=fun i=>if i=0 then([0,1,2,3],7)else if i=1∨i=2 then sA b else Tf
noncomputable def cO(b:Bool)(a c:SS):Nat->SS:=fun i=>if i=0 then sA b else if i=1 then Tf else if i=2 then sA b else if i=3 then a else if i=4 then c else Tf
noncomputable def FO(E O:Nat->SS)(i j:Nat):Prop:=j<7∧((E j).1.length≤(O i).1.length∧∀x∈(E j).1,x∈(O i).1)∧(j≠0->E j=O i)
theorem FO.of{E O:Nat->SS}(h:j<7)(e:E j=O i):FO E O i j:=⟨h,⟨e▸tf _,fun a m=>e▸m⟩,fun a=>e⟩
theorem AF(n:c.Ai<4){b v:Bool}{r:Nat}{g h o:SS}(a:cO b g h i=o)(l:12≤o.1.length)(m:∀y∈Tf.1,y∈o.1)(q:v=false->o=Tf):∀j∈(nb D v c r).1.en.Hk,FO (cE b) (cO b g h) i j:=fun j p=>by
 rcases yx n p with⟨_,e⟩|⟨hv,e⟩
 ·refine aa e ?_;refine⟨Pa rfl,⟨?_,fun x f=>?_⟩,fun e=>absurd rfl e⟩
  ·refine aa a ?_;exact bc (Pa rfl) l
  ·refine aa a ?_;exact m x (ef (by have f:x∈[0,1,2,3]:=f;simp at f;lia))
 ·have s:cE b j=Tf:=by refine Or.elim (e) (fun e=>?_) (fun e=>?_)<;>refine aa e ?_<;>rfl
  exact .of (by lia) (by exact aa s (aa a (aa (q hv) rfl)))
theorem KD(e:D.ok){v3 v4 b:Bool}{a c:SS}(l3:12≤a.1.length)(f:∀y∈Tf.1,y∈a.1)(g:v3=false->a=Tf)(h:12≤c.1.length)(l:∀y∈Tf.1,y∈c.1)(m:v4=false->c=Tf):∀i B,(Dh D v3 v4)[i]?=some B->∀j∈B.en.Hk,FO (cE b) (cO b a c) i j:=
 Xr (rh (.of (Pa rfl) rfl) (rh (.of (Pa rfl) rfl) Xt)) (rh (.of (Pa rfl) rfl) (rh (.of (Pa rfl) rfl) Xt)) Xt (AF e.c3.Ai rfl l3 f g) (AF e.c4.Ai rfl h l m) (rh (.of (Pa rfl) rfl) Xt) Xt
theorem uE{b:Bool}:∀i,i<7->ZJ (cE b i):=by
 have s:8≤(sA b).1.length∧(sA b).1.length≤15:=by induction b<;>exact⟨Pa rfl,Pa rfl⟩
 have f:ZJ Tf:=.inr ⟨rfl,Pa rfl,Pa rfl⟩;exact FL (.inl ⟨rfl,tf _⟩) (.inr ⟨rfl,s⟩) (.inr ⟨rfl,s⟩) f f f f
theorem SF{v:Bool}{r:Nat}(b:c.Ai<4)(g:12≤Z):(nb D v c r).1.en.cu D.hv Z 7:=by
 refine⟨fun o a=>?_,fun n f=>?_,fun o a=>fD a⟩
 ·cases o with
  |r n=>have:=(Zo n a).2;refine(?_:n<_);exact Nat.lt_of_lt_of_le (by assumption) (by assumption)
  |k n=>
   exfalso;cases v with
   |true=>exact nomatch a
   |false=>
    have a:zb.k n∈(c.en D.hv).args:=a;unfold dd.en at a;split at a
    ·cases hv:D.hv<;>rw[hv]at a<;>exact nomatch a
    ·exact nomatch a
 ·rcases yx b f with⟨_,e⟩|⟨_,e⟩<;>lia
theorem kG(c:12≤Z):(En.ic D.gv).cu D.hv Z 7:=by
 refine⟨fun o a=>?_,(fun n b=>by exact nomatch b),fun o e=>by cases e;exact tm D⟩;cases o with
 |r n=>have:n=10:=Xh a;refine(?_:n<_);lia
 |k n=>unfold Xb.gv at a;cases hv:D.hv<;>rw[hv]at a<;>simp[En.args]at a
theorem bA(a:D.ok)(v3 v4:Bool):∃E O,Ox E O D.ps D.hv (Tq D v3 v4) (Dh D v3 v4):=by
 have g:12≤Tq D v3 v4:=bc ((Np):12≤(nb D v3 D.c3 12).2) ((Np):(nb D v3 D.c3 12).2≤Tq D v3 v4);refine eh (fun u s l3 w x=>?_)<|DB (v:=v3) a (.inl rfl) (r:=12) (Pa rfl)
 refine eh (fun y t z A F=>?_)<|DB (v:=v4) a (.inr rfl) (r:=(nb D v3 D.c3 12).2) (bc (gI a) (Pa rfl))
 have c:=oH a;have f:=oG a (D.ec.any fk);have l:=qG a (D.ec.any fk);generalize D.ec.any fk=b at c f l;have pl:∀B∈D.Yb,∀r∈B.la,r.cu (Tq D v3 v4):=fun B G r q=>ct a (Zi a G q) g
 refine⟨cE b,cO b u y,⟨Xr c.Uo f.Uo l.Uo s.Uo t.Uo ((.nil Dk):Bi [] Tf [] Tf).Uo Xz.Uo,uE,fun i B j h H=>KD a l3 w x z A F i B h j H⟩,?_,⟨Fh a▸tf _,fun n m=>by have:=Vj a n m;exact Nat.le_of_lt (Nat.lt_of_lt_of_le (by assumption) (Pa rfl))⟩,fun n m=>⟨by have:=Vj a n m;lia,?_⟩,Pa rfl,Pa rfl,Xr (pl _ (.head _)) (pl _ (.tail _ (.head _))) (pl _ (.tail _ (.tail _ (.head _)))) (Ew a (.inl rfl) (tf _) ((Np):(nb D v3 D.c3 12).2≤Tq D v3 v4)) (Ew a (.inr rfl) ((Np):12≤(nb D v3 D.c3 12).2) (tf _)) (fun r q=>by exact nomatch q) (pl _ (.tail _ (.tail _ (.tail _ (.tail _ (.tail _ (.tail _ (.head _)))))))),Xr ⟨fun o p=>by refine aa (Jd (show o∈[zb.r 3] from p)) ?_;refine(?_:3<_);exact bc (Pa rfl) (by assumption),rh (Pa rfl) (rh (Pa rfl) Xt),fun o e=>by exact nomatch e⟩ ⟨fun o p=>by refine aa (Jd (show o∈[zb.r 7] from p)) ?_;refine(?_:7<_);exact bc (Pa rfl) (by assumption),rh (Pa rfl) (rh (Pa rfl) Xt),fun o e=>by exact nomatch e⟩ (kG g) (SF a.c3.Ai g) (SF a.c4.Ai g) ⟨(fun o p=>by exact nomatch p),rh (Pa rfl) Xt,fun o e=>by exact nomatch e⟩ (kG g),Xr c.rq f.rq l.rq s.rq t.rq ((.nil Dk):Bi [] Tf [] Tf).rq Xz.rq⟩
 ·rcases a.ps with h|h|h|h<;>refine aa h ?_<;>rfl
 ·rcases a.ps with h|h|h|h<;>rw[h]at m ⊢<;>simp at m<;>rcases m with rfl|rfl|rfl|rfl<;>decide
theorem Yz(a:B∈D.Yb):B=D.b0∨B=D.b1∨B=D.b2∨B=D.c3.Xf D.ps D.hv∨B=D.c4.Xf D.ps D.hv∨B=⟨[],.Ib 6⟩∨B=D.b6:=by simpa[Xb.Yb]using a
theorem qu(a:D.ok):Wm D.Yb:=fun B f t e=>by
 refine(?_:t<7);have b:∀c:dd,c.Ai<4->c.en D.hv=.Ib t->t<7:=fun c g e=>by
  unfold dd.en at e;split at e
  ·injection e
  ·cases e;exact Nat.add_le_add_left (by assumption) _
 rcases Yz f with rfl|rfl|rfl|rfl|rfl|rfl|rfl
 ·injection e
 ·injection e
 ·injection e
 ·exact b _ a.c3.Ai e
 ·exact b _ a.c4.Ai e
 ·cases e;decide
 ·injection e
theorem Ml(a:c.Ai<4):∀o,fe D.Yb D.Yb.length (c.en D.hv)=.ic o->o.isSome=D.hv:=fun o e=>by
 rw[Ol a]at e;split at e
 ·cases e;induction D.hv<;>rfl
 ·split at e
  ·injection e
  ·cases e;exact tm D
theorem Gw(f:c.Ai<4):∀t a,fe D.Yb D.Yb.length (c.en D.hv)=.Ib t->D.Yb[t]?=some a->a.la≠[]:=fun t a e b=>by
 rw[Ol f]at e;split at e
 ·injection e
 ·split at e
  ·rename_i g;cases e;have:a=D.b6:=by have b:some D.b6=some a:=b;(replace b:=(Bb b).symm;subst b);rfl
   refine aa this ?_;refine(?_:(if D.xb then [Sa.cp 10 (.r 10)]else [])≠[]);refine aa (if_pos g) ?_;exact fun h=>by injection h
  ·injection e
theorem cA(a:D.ok):Ux D.ps D.hv D.Kd kL D.Yb where
 jK:=by refine aa (Fh a) ?_;decide
 pl:=(by decide:7≤100)
 rl B hB:=by have:=Ve a hB;exact bc (by assumption) (Pa rfl)
 al B hB i hi:=by have:=Pf a (Zi a hB hi);exact bc (by assumption) (Pa rfl)
 j:=qu a
 gv B hB o e:=by
  have b:fe D.Yb 7 (.Ib 6)=(if D.xb=true then .Ib 6 else .ic D.gv):=by
   refine(?_:(if D.b6.la.isEmpty=true then fe D.Yb 6 D.b6.en else .Ib 6)=_);have:D.b6.la.isEmpty=!D.xb:=by refine(?_:(if D.xb then [Sa.cp 10 (.r 10)]else []).isEmpty=_);induction D.xb<;>rfl
   refine aa this ?_;induction D.xb<;>rfl
  rcases Yz hB with rfl|rfl|rfl|rfl|rfl|rfl|rfl
  ·injection e
  ·injection e
  ·cases e;exact tm D
  ·exact Ml a.c3.Ai o e
  ·exact Ml a.c4.Ai o e
  ·have e:fe D.Yb 7 (.Ib 6)=.ic o:=e;rw[b]at e;split at e
   ·injection e
   ·cases e;exact tm D
  ·cases e;exact tm D
 Kd:=ix a
 ts:=by decide
noncomputable def Xb.tv(D:Xb)(c:dd):Int:=if Wf D.Kd D.Yb=true then -1 else bg D.ps D.hv D.Yb (c.Xf D.ps D.hv)
theorem Cs(h:D.cv c=true):D.tv c=((va c.yb).length:Nat):=by
 unfold Xb.cv at h;rw[Bool.and_eq_true]at h;refine Aa (fun x a=>?_)<|Option.isSome_iff_exists.mp h.1
 unfold Xb.tv bg;exact aa (if_neg (by simpa using h.2)) (aa a (aa ((kh a).1) rfl))
theorem iw(h:D.cv c=false):D.tv c = -1:=by
 unfold Xb.cv at h;unfold Xb.tv bg;by_cases a:Wf D.Kd D.Yb=true
 ·exact aa (if_pos a) rfl
 ·refine aa (if_neg a) ?_;have a:Wf D.Kd D.Yb=false:=by simpa using a
  rw[a]at h;induction b:Jb D.ps D.hv D.Yb (c.Xf D.ps D.hv)with
  |none=>rfl
  |some x=>rw[b]at h;injection h
theorem Wx:decide (D.tv c = -1)=!D.cv c:=by
 induction h:D.cv c with
 |true=>refine aa (Cs h) ?_;rfl
 |false=>refine aa (iw h) ?_;rfl
theorem JC:decide (0≤D.tv c)=D.cv c:=by
 induction h:D.cv c with
 |true=>exact aa (Cs h) (aa (decide_eq_true (by exact vo _)) rfl)
 |false=>refine aa (iw h) ?_;rfl
theorem Dv{i:Sa}:∀{ps:List Nat}{c:List zb},i∈pf ps c->Mk i=true:=by
 intro b;induction b with
 |nil=>intro a h;cases h
 |cons p ps e=>
  intro a h;rcases a with _|⟨o,c⟩
  ·cases h
  ·have h:i∈dk p o++pf ps c:=h;rcases List.mem_append.mp h with h|h
   ·cases o with
    |k n=>refine aa (Jd h) ?_;rfl
    |r v=>
     have h:i∈(if v=p then []else [Sa.cp p (.r v)]):=h;split at h
     ·exact nomatch h
     ·refine aa (Jd h) ?_;rfl
   ·exact e h
theorem Nn(e:D.ok)(b:c=D.c3∨c=D.c4){r:Nat}:∃f,(nb D true c r).1=⟨f,.Ib 0⟩∧f.length≤1000∧(c.Xf D.ps D.hv).la.length≤1000∧(∀i∈f.drop (va c.yb).length,Mk i=true)∧f.take (va c.yb).length=(c.Xf D.ps D.hv).la.take (va c.yb).length:=by
 have j:=Qc c.yb;have l:=(by rcases b with rfl|rfl;exact e.c3;exact e.c4:c.ok D.hv).Pd;have h:=Gl (ps:=D.ps) (args:=D.ps.map c.Sb) (r0:=r) (sd ..);rw[Fh e]at h;have m:=Ve e (by rcases b with rfl|rfl<;>simp[Xb.Yb]:c.Xf D.ps D.hv∈D.Yb);refine⟨va c.yb++(qc D.ps (D.ps.map c.Sb) r).1,rfl,?_,by exact bc (by assumption) (Pa rfl),fun i a=>?_,?_⟩
 ·refine aa List.length_append ?_;lia
 ·rw[List.drop_left]at a;rcases List.mem_append.mp a with a|a
  ·rw[(Qj D.ps (D.ps.map c.Sb) r).ah]at a
   (refine ya (fun p n g=>?_)<|List.mem_map.mp a;refine Cb g ?_);rfl
  ·exact Dv a
 ·refine aa List.take_left ?_;refine(?_:_=(va c.yb++[Sa.Qg c.nc (D.ps.map c.Sb)]++c.tail.map Tl.Dl).take _);exact aa (List.append_assoc _ _ _) (aa List.take_left rfl)
theorem Xe(B:xd):V.eqv B.v B.v=true:=V.Kk (Us 0 B)
theorem ND(a:c.Ai<4){r:Nat}:V.eqv (nb D true c r).1.v (c.Xf D.ps D.hv).v=false:=by
 have e:V.eqv (En.Ib 0).v (c.en D.hv).v=false:=by
  unfold dd.en;by_cases h:c.Ai<2
  ·refine aa (if_pos h) ?_;rfl
  ·skip;rcases(show c.Ai=2∨c.Ai=3 by lia)with h|h<;>refine aa h ?_<;>rfl
 refine(?_:(V.eqv (Zd _) (Zd _)&&(V.eqv (En.Ib 0).v (c.en D.hv).v&&true))=false);exact aa e (aa (Bool.false_and _) (aa (Bool.and_false _) rfl))
theorem XA(a:c.Ai<4){r:Nat}{v:Bool}:V.eqv (nb D v c r).1.v (c.Xf D.ps D.hv).v=!v:=by
 induction v with
 |true=>exact ND a
 |false=>exact Xe _
theorem Uu(a:D.ok)(v3 v4:Bool):V.eqv (Mb (Dh D v3 v4)) (Mb D.Yb)=!(v3||v4):=by refine(?_:(V.eqv D.b0.v D.b0.v&&(V.eqv D.b1.v D.b1.v&&(V.eqv D.b2.v D.b2.v&&(V.eqv (nb D v3 D.c3 12).1.v (D.c3.Xf D.ps D.hv).v&&(V.eqv (nb D v4 D.c4 (nb D v3 D.c3 12).2).1.v (D.c4.Xf D.ps D.hv).v&&(V.eqv (xd.v ⟨[],.Ib 6⟩) (xd.v ⟨[],.Ib 6⟩)&&(V.eqv D.b6.v D.b6.v&&true)))))))=_);refine aa (Xe _) (aa (Xe _) (aa (Xe _) (aa (Xe _) (aa (Xe _) (aa (XA a.c3.Ai) (aa (XA a.c4.Ai) ?_))))));induction v3<;>induction v4<;>rfl
theorem yu(b:D.ok)(v3 v4:Bool):∀B∈Dh D v3 v4,B.la.length≤1000∧∀i∈B.la,i.args.length≤100:=fun B g=>by
 have pl:∀B∈D.Yb,B.la.length≤1000∧∀i∈B.la,i.args.length≤100:=fun B g=>⟨by have:=Ve b g;exact bc (by assumption) (Pa rfl),fun i a=>by have:=Pf b (Zi b g a);exact bc (by assumption) (Pa rfl)⟩;have f:∀(v:Bool)(c:dd)(r:Nat),(c=D.c3∨c=D.c4)->12≤r->(nb D v c r).1.la.length≤1000∧∀i∈(nb D v c r).1.la,i.args.length≤100:=fun v c r j m=>by
  refine⟨?_,fun i a=>(Ew b j m (tf _) i a).Pd⟩;induction v with
  |true=>refine Pb (fun n e h l=>?_)<|Nn b j (r:=r);refine aa e ?_;exact h
  |false=>refine eh (fun n e l h l=>?_)<|Nn b j (r:=r);exact h
 refine Aa (fun i a=>?_)<|List.getElem?_of_mem g
 exact Xr (R:=fun l B=>B.la.length≤1000∧∀i∈B.la,i.args.length≤100) (pl _ (.head _)) (pl _ (.tail _ (.head _))) (pl _ (.tail _ (.tail _ (.head _)))) (f _ _ _ (.inl rfl) (tf _)) (f _ _ _ (.inr rfl) Np) ⟨Nat.zero_le _,fun i a=>by cases a⟩ (pl _ (.tail _ (.tail _ (.tail _ (.tail _ (.tail _ (.tail _ (.head _)))))))) i B a
theorem PD:∀i∈(c.Xf D.ps D.hv).la,Ef i=true->Jh D.ps i=true:=fun i a b=>by
 rcases List.mem_append.mp a with a|a
 ·rcases List.mem_append.mp a with a|a
  ·rw[Gf a]at b;injection b
  ·refine aa (Jd a) ?_;refine(?_:decide ((D.ps.map c.Sb).length=D.ps.length)=true);refine aa (sd _) ?_;exact decide_eq_true rfl
 ·(refine ya (fun x f e=>?_)<|List.mem_map.mp a;subst e)
  induction x<;>exact(Fc b).elim
theorem qb.CJ(f:Nat->V)(hs:∀a(K:V->Mem->Prop),a<7->K (f a) U->Oh t (.int (a:Nat)) U I fun I=>wb G k false elt I U K):qb G k I U (.comp true t (.range (.int 7)) elt) (.fl [f 0,f 1,f 2,f 3,f 4,f 5,f 6]):=fun Q q=>by refine aa pF (aa ML ?_);refine qb.int _ ⟨⟨by exact Ub rfl,by exact Ub rfl⟩,?_⟩;refine Ej (R:=fun(a:Nat) x=>x=.int (a:Nat)∧a<7) (fun a=>some (f a)) trivial (fun a x K c e=>by(refine Qa (fun b h=>?_) c;clear c;refine aa b ?_);exact hs a _ h e) (as:=[0,1,2,3,4,5,6]) (lK ⟨rfl,by exact Ub rfl⟩ ⟨rfl,by exact Ub rfl⟩ ⟨rfl,by exact Ub rfl⟩ ⟨rfl,by exact Ub rfl⟩ ⟨rfl,by exact Ub rfl⟩ ⟨rfl,by exact Ub rfl⟩ ⟨rfl,by exact Ub rfl⟩ trivial) (wc rfl) ?_;exact q
theorem Ng.Nj{b:Bool}(h:qb G k I U e (.bool b)):Ng G k I U (.Nj e) true:=fun Q q=>by exact h _ ⟨b,rfl,q⟩
theorem TH(h:Ia G k body I U (fun I U=>Ia G k ss I U Kn Kr) Kr):Ia G k (.Hw body::ss) I U Kn Kr:=by exact h
noncomputable def uf(D:Xb)(j:Nat):Int:=if j=3 then D.tv D.c3 else if j=4 then D.tv D.c4 else -1
theorem OA(f:D.ok)(g:j<7):∃b B:xd,(Dh D (D.cv D.c3) (D.cv D.c4))[j]?=some b∧D.Yb[j]?=some B∧ ((uf D j = -1∧b=B)∨∃(n:Nat)(a:List Sa),uf D j=n∧b=⟨a,.Ib 0⟩∧a.length≤1000∧B.la.length≤1000∧(∀i∈a.drop n,Mk i=true)∧a.take n=B.la.take n):=by
 have e:∀(c:dd)(r:Nat),(c=D.c3∨c=D.c4)->(D.tv c = -1∧(nb D (D.cv c) c r).1=c.Xf D.ps D.hv)∨∃(n:Nat)(a:List Sa),D.tv c=n∧(nb D (D.cv c) c r).1=⟨a,.Ib 0⟩∧a.length≤1000∧(c.Xf D.ps D.hv).la.length≤1000∧(∀i∈a.drop n,Mk i=true)∧a.take n=(c.Xf D.ps D.hv).la.take n:=fun c r l=>by
  induction h:D.cv c with
  |false=>exact .inl ⟨iw h,rfl⟩
  |true=>
   refine zK (fun a m o p q s=>?_)<|Nn f l (r:=r)
   exact .inr (Il _ a (Cs h) m o p q s)
 refine rB g ?_ ?_ ?_ ?_ ?_ ?_ ?_
 ·exact(qf _ _ rfl rfl (.inl ⟨rfl,rfl⟩))
 ·exact(qf _ _ rfl rfl (.inl ⟨rfl,rfl⟩))
 ·exact(qf _ _ rfl rfl (.inl ⟨rfl,rfl⟩))
 ·exact(qf _ _ rfl rfl (e D.c3 12 (.inl rfl)))
 ·exact(qf _ _ rfl rfl (e D.c4 _ (.inr rfl)))
 ·exact(qf _ _ rfl rfl (.inl ⟨rfl,rfl⟩))
 ·exact(qf _ _ rfl rfl (.inl ⟨rfl,rfl⟩))
noncomputable def Ni(D:Xb):List V:=[.int (uf D 0),.int (uf D 1),.int (uf D 2),.int (uf D 3),.int (uf D 4),.int (uf D 5),.int (uf D 6)]
theorem Ky(D:Xb)(a:j<7):(Ni D)[j]?=some (.int (uf D j)):=by exact rB a rfl rfl rfl rfl rfl rfl rfl
theorem Cw(D:Xb):V.eqv (.fl (Ni D)) (.fl [.int (-1),.int (-1),.int (-1),.int (-1),.int (-1),.int (-1),.int (-1)])=!(D.cv D.c3||D.cv D.c4):=by refine(?_:(true&&(true&&(true&&(decide (D.tv D.c3 = -1)&&(decide (D.tv D.c4 = -1)&&(true&&(true&&true)))))))=_);refine aa Wx (aa Wx ?_);induction D.cv D.c3<;>induction D.cv D.c4<;>rfl
theorem au(l:List Nat):V.ok 8 (Ee l)=true:=Fg _ 7 (fun a=>rfl) l
theorem Iw(v:Int)(s:MS):V.ok 8 (.Ba [.int v,.fl (s.Ja.map Xd),.fl (s.oa.map Nr.v)])=true:=by
 have a:V.zj 6 (s.Ja.map Xd)=true:=Fg Xd 6 (fun l=>show V.zj 5 (l.map V.int)=true from Fg V.int 5 (fun b=>rfl) l) _;have c:V.zj 6 (s.oa.map Nr.v)=true:=Fg _ 6 (fun t=>by
  refine(?_:(true&&(V.zj 4 (t.jB.map V.int)&&(true&&true)))=true);refine aa (Fg V.int 4 (fun b=>rfl) t.jB) ?_;rfl) _
 refine(?_:(true&&(V.zj 6 (s.Ja.map Xd)&&(V.zj 6 (s.oa.map Nr.v)&&true)))=true);refine aa a (aa c ?_);rfl
theorem ez(H:Sd G)(f:D.ok){a:Nat}(s:a<7)(l3:I 3=some (Mb D.Yb))(t:I 5=some (.bool D.hv))(u:I 10=some (.bool (Wf D.Kd D.Yb)))(l:I 11=some (.int (a:Nat))) : qb G (k+1) I U (.ite (.or [(.var 10),(.ta .NotIn (.var 11) (.Ba [(.int 3),(.int 4)]))]) (.int (-1)) (.call .fh [(.var 3),(.var 11),(.var 5)])) (.int (uf D a)):=by
 have b:Ng G (k+1) I U (.or [(.var 10),(.ta .NotIn (.var 11) (.Ba [(.int 3),(.int 4)]))]) (Wf D.Kd D.Yb||(!decide (a=3∨a=4)||false)):=.Ea (.var u) fun g=>.Ea (.ta (.var l) (.Ba (.cons .int (.cons .int .nil))) (.Ri (.Lh rfl rfl (by
  exact rB s rfl rfl rfl rfl rfl rfl rfl)))) fun g=>.ud
 have m:∀(c:dd),(c=D.c3∨c=D.c4)->D.Yb[a]?=some (c.Xf D.ps D.hv)->uf D a=D.tv c->(a=3∨a=4)->qb G (k+1) I U (.ite (.or [(.var 10),(.ta .NotIn (.var 11) (.Ba [(.int 3),(.int 4)]))]) (.int (-1)) (.call .fh [(.var 3),(.var 11),(.var 5)])) (.int (uf D a)):=fun c v n i j=>by
  have e:c.ok D.hv:=by rcases v with rfl|rfl;exact f.c3;exact f.c4
  rw[decide_eq_true j]at b;refine aa i ?_;unfold Xb.tv;induction o:Wf D.Kd D.Yb with
  |true=>rw[o]at b;exact .ite b (fun g=>by exact .int) fun h=>by exact(Fc h.symm).elim
  |false=>rw[o]at b;refine .ite b (fun h=>by exact(Fc h).elim) fun g=>?_;exact .call (.cons (.var l3) (.cons (.var l) (.cons (.var t) .nil))) (su H (qu f) (Pa rfl) n (by have:=Ve f (jr n);exact bc (by assumption) (Pa rfl)) PD (Gw e.Ai) (Ml e.Ai))
 by_cases p:a=3
 ·subst p;exact m D.c3 (.inl rfl) rfl rfl (.inl rfl)
 by_cases q:a=4
 ·subst q;exact m D.c4 (.inr rfl) rfl rfl (.inr rfl)
 have i:uf D a = -1:=by unfold uf;exact aa (if_neg p) (aa (if_neg q) rfl)
 refine aa i ?_;rw[decide_eq_false (show ¬(a=3∨a=4) by lia)]at b;exact .ite (b.as (show _=true by induction Wf D.Kd D.Yb<;>rfl)) (fun g=>.int) fun h=>by exact(Fc h.symm).elim
noncomputable def qx(U:Mem)(a:Addr)(w:Nat->Int)(n:Nat):Prop:=∃kvs,U a=some (.dict kvs)∧kvs.length≤100∧∀p:Nat,p<n->Bd kvs p=some (.int (w p))
theorem DD(H:Sd G){a:List Int}(O:a.length≤1000)(t:∀(D:Xb)(W b F J:Addr)(bs:List Addr)(w:Nat->Int) U' (I:zc),D.ok->Nf U' W->qx U' b w 3->Ce U' F J D.ps D.hv (Tq D (D.cv D.c3) (D.cv D.c4)) bs (Dh D (D.cv D.c3) (D.cv D.c4))-> I 2=some (.ref W)->I 3=some (Mb D.Yb)->I 4=some (Ee D.ps)->I 5=some (.bool D.hv)->I 6=some (.ref b)->I 7=some (.ref F)->I 8=some (.bool (D.cv D.c3||D.cv D.c4))-> Ia G (k+1+1+1+1+1) ((we .RD).drop 5) I U' Kn Kr):Ia G (k+1+1+1+1+1) (we .RD) (Me 0 [.fl (a.map V.int)]) U Kn Kr:=by
 have Ld:∀n,n≤1000->n≤Ac:=fun n h=>bc h (by exact Pa rfl);refine Vf (o:=.list [.fl ((a.take 60).map fun i=>V.int (i%1000003)),.int 0]) (fun Q q=>Eg (.cons (.comp (R:=fun(i:Int) x=>x=.int i) (as:=a.take 60) (.as (.gr (.var rfl) .int rfl (by exact Ub rfl) (by refine aa (sd _) ?_;exact Ld _ O)) (show _=V.fl ((a.take 60).map V.int) by refine aa List.map_take ?_;rfl)) xe (fun i=>.int (i%1000003)) (ye.map V.int _) trivial (by exact List.length_take▸Ld _ (by lia)) fun i x K P X=>by rw[P];exact vb (qb.Fd (.var rfl) .int (.mod (by exact Ub rfl)) _ X)) (.cons .int .nil)) q) fun W hW=>?_;refine Ob (Jc (.cons (.var rfl) .nil) (Gy H (((ej ((a.take 60).map fun i=>i%1000003) 0 (by refine aa (da _ _ _) (aa List.map_map ?_);rfl) (by refine aa (sd _) (aa List.length_take ?_);lia))):Nf (Ga U W (some (.list [.fl ((a.take 60).map fun i=>V.int (i%1000003)),.int 0]))) W) fun D U2 f Y=>QF rfl ?_));refine Ob ?_;refine aa pD ?_;refine qb.int _ ?_;refine Jc (.cons (.var rfl) (.cons .int .nil)) (jg H Y.Wg (size:=100) (by exact Pa rfl) fun g U3 y d3=>?_);refine qb.int _ ?_;refine Jc (.cons (.var rfl) (.cons .int .nil)) (jg H d3.Wg (size:=1000) (by exact Pa rfl) fun j U4 y d4=>?_);refine qb.int _ ?_;refine Jc (.cons (.var rfl) (.cons .int .nil)) (jg H d4.Wg (size:=7) (by exact Pa rfl) fun l U5 y z=>?_);refine aa ou ?_;refine pb _ rfl ?_;refine(?_:Md U5 (.dict [((0:Int),V.int (g:Nat)),(1,V.int (j:Nat)),(2,V.int (l:Nat))]) _);refine fun b m=>vb ?_;have A:=((DS.refl z.Wg).rv m (z.Wg.ne m) (some (.dict [((0:Int),V.int (g:Nat)),(1,V.int (j:Nat)),(2,V.int (l:Nat))]))).Wg;refine Ob (Jc (.cons (.var rfl) (.cons (.var rfl) (.cons (.var rfl) .nil))) (Rv H (by refine aa (Fh f) ?_;decide) (Pa rfl) (fun B L=>⟨by have:=Ve f L;exact bc (by assumption) (Pa rfl),fun i hi=>by have:=Pf f (Zi f L hi);exact bc (by assumption) (Pa rfl)⟩) fun F J bs U7 M hF s=>vb ?_));have T:∀{Q:V->Mem->Prop},(∀U',Ce U' F J D.ps D.hv (Xj D.ps D.hv D.Kd D.Yb 12).2.2 bs (Xj D.ps D.hv D.Kd D.Yb 12).2.1->NI U7 U'->Q (.bool (Xj D.ps D.hv D.Kd D.Yb 12).1) U')->pe G (k+1+1+1+1) .oi [.ref F] U7 Q:=fun q=>Pt H hF s (cA f) q;rw[aA]at T;refine Ob (Jc (.cons (.var rfl) .nil) (T fun U8 u N=>vb ?_))
 (change let R:Prop:=_;R;intro R);(refine pd (fun v p' e1 e2=>?_) A;clear A)
 refine t D W b F J bs (fun p=>if p=0 then g else if p=1 then j else l) U8 _ f (ej v p' (N _ _ (fun c fs e=>by exact nomatch e) (M _ _ e1)) e2) (cc _ (N _ _ (fun c fs e=>by exact nomatch e) (M _ _ ((da ..):Ga U5 b (some (.dict [((0:Int),V.int (g:Nat)),(1,V.int (j:Nat)),(2,V.int (l:Nat))])) b=some (.dict [((0:Int),V.int (g:Nat)),(1,V.int (j:Nat)),(2,V.int (l:Nat))])))) (Pa rfl) (fun p hp=>?_)) u rfl rfl rfl rfl rfl rfl rfl;exact DI hp rfl rfl rfl
theorem OE(H:Sd G){m:Addr}{w:Nat->Int}(j:D.ok)(X:Nf U W)(Y:qx U m w 3)(hF:Ce U F J D.ps D.hv (Tq D (D.cv D.c3) (D.cv D.c4)) bs (Dh D (D.cv D.c3) (D.cv D.c4)))(l2:I 2=some (.ref W))(l3:I 3=some (Mb D.Yb))(L:I 4=some (Ee D.ps))(l6:I 6=some (.ref m))(l7:I 7=some (.ref F))(l9:I 9=some (Mb (Dh D (D.cv D.c3) (D.cv D.c4))))(QC:I 12=some (.fl (Ni D)))(M:∀U',Kr (.bool true) U'):Ia G (k+1+1+1+1+1) ((we .RD).drop 11) I U Kn Kr:=by
 have Ld:∀n,n≤1000->n≤Ac:=fun n h=>bc h (by exact Pa rfl)
 (change let R:Prop:=_;R;intro R);refine Lk (fun E O b=>?_)<|bA j (D.cv D.c3) (D.cv D.c4)
 refine TH (tj (Jc (.cons (.var l7) .nil) (rt H hF b _ fun U1 s1=>ja ?_)))
 (refine pd (fun ns p u N=>?_) X;clear X)
 (refine Pb (fun kvs hg ba P=>?_) Y;clear Y)
 refine aa my (aa GL (aa cC ?_));refine qb.int _ ?_;refine Jc (.cons (.var l2) (.cons .int .nil)) (jg H ((⟨ns,p,s1 _ _ u,N⟩):Nf U1 W) (size:=4) (by exact Pa rfl) fun c U2 hc d2=>?_);have Q:m≠W:=fun e=>by subst e;rw[hg]at u;(replace u:=Bb u;exact nomatch u)
 refine vp.add _ ?_;refine qb.var l6 _ (qb.int _ ?_);refine aw (d2.at (s1 _ _ hg) Q) (Ld _ (by exact bc (by assumption) (Pa rfl))) ?_;have o:∃g:Nat->Int,g 3=((2+c:Nat):Int)∧∀q:Nat,q<4->Bd (Ue kvs 3 (.int (2+(c:Int)))) q=some (.int (g q)):=by
  refine⟨fun q=>if q=3 then 2+(c:Int)else w q,by rfl,fun q A=>?_⟩;rewrite[ai];by_cases e:q=3
  ·refine aa e ?_;rfl
  ·refine aa (if_neg (by exact mt Int.ofNat.inj (by assumption))) (aa (P q (by lia)) ?_);refine(?_:_=some (V.int (if q=3 then _ else w q)));exact aa (if_neg e) rfl
 (revert o;intro y;refine ya (fun g o hk=>?_) y;clear y)
 have z:Ga U2 m (some (.dict (Ue kvs 3 (.int (2+(c:Int)))))) m=some (.dict (Ue kvs 3 (.int (2+(c:Int))))):=da ..;generalize Ga U2 m (some (.dict (Ue kvs 3 (.int (2+(c:Int))))))=U3 at z ⊢;have t:qb G (k+1+1+1+1+1) I U3 (.comp true (.nm 13) (.seq (.var 4)) (.Ma (.var 6) (.var 13))) (Xd (D.ps.map g)):=by
  refine .as (.comp (R:=fun(q:Nat) x=>x=V.int q∧q<4) (as:=D.ps) (.var L) xe (fun q=>.int (g q)) ?_ trivial (by refine aa (Fh j) ?_;decide) fun q x K hx hK=>?_) (show V.fl (D.ps.map fun q=>V.int (g q))=.fl ((D.ps.map g).map V.int) by refine aa List.map_map ?_;rfl)
  ·have:∀l:List Nat,(∀q∈l,q<4)->ye (fun(q:Nat) x=>x=V.int q∧q<4) l (l.map fun(n:Nat)=>V.int n):=fun l=>by
    induction l with
    |nil=>intro _;trivial
    |cons a l ih=>intro h;exact⟨⟨rfl,h a (.head _)⟩,ih fun q A=>h q (.tail _ A)⟩
   exact this D.ps (Vj j)
  ·(refine Qa (fun T A=>?_) hx;clear hx;refine aa T ?_)
   exact vb (qb.key (.var (show Ca I 13 (.int (q:Nat)) 6=some (.ref m) from l6)) (.var rfl) z (hk q A) _ hK)
 refine Gb t ?_
 (change let R:Prop:=_;R;intro R);refine Zq (fun v s s' r1 r2 e1 e2 e3=>?_)<|MI j g o (by lia)
 have rl:∀B∈D.Yb,B.la.length≤1000∧∀i∈B.la,i.args.length≤100:=fun B hB=>⟨by have:=Ve j hB;exact bc (by assumption) (Pa rfl),fun i hi=>by have:=Pf j (Zi j hB hi);exact bc (by assumption) (Pa rfl)⟩;refine Ob (Jc (.cons (.var (show Ca I 14 _ 9=_ from l9)) (.cons (.var (show Ca I 14 _ 4=_ from L)) (.cons (.var rfl) .nil))) (iC H (by refine aa (Fh j) ?_;decide:D.ps.length≤100) ((sd ..):(D.ps.map g).length=D.ps.length) (Pa rfl) (yu j _ _) r2 _ fun U4 s4=>Oe rfl ?_));generalize f:Ca (Ca (Ca I 14 (Xd (D.ps.map g))) 15 (.Ba [.int v,.fl (s'.Ja.map Xd),.fl (s'.oa.map Nr.v)])) 16 (.int s'.most)=I';refine La (.ua (.ta ((.Ma (.var (by refine Cb f ?_;exact QC:I' 12=some (.fl (Ni D)))) .int rfl rfl (wc rfl)):qb G (k+1+1+1+1+1) I' U4 (.Ma (.var 12) (.int 3)) (.int (D.tv D.c3))) .int .ge) fun h3=>.ua (.ta ((.Ma (.var (by refine Cb f ?_;exact QC:I' 12=some (.fl (Ni D)))) .int rfl rfl (wc rfl)):qb G (k+1+1+1+1+1) I' U4 (.Ma (.var 12) (.int 4)) (.int (D.tv D.c4))) .int .ge) fun h4=>.ua (.ta (.var (by refine Cb f ?_;rfl:I' 16=some (.int s'.most))) .int (.ne .Ag)) fun ζ=>.Od) ?_ ?_
 ·refine aa JC (aa JC ?_);cases h3:D.cv D.c3 with
  |false=>rfl
  |true=>
   cases h4:D.cv D.c4 with
   |false=>rfl
   |true=>refine aa (e3 h3 h4) ?_;rfl
 refine Oj ?_;refine aa QK ?_;refine qb.var (by refine Cb f ?_;rfl:I' 15=some (.Ba [.int v,.fl (s'.Ja.map Xd),.fl (s'.oa.map Nr.v)])) _ ?_;refine Jc (.cons (.var (by refine Cb f ?_;exact l3:I' 3=some (Mb D.Yb))) (.cons (.var (by refine Cb f ?_;exact L:I' 4=some (Ee D.ps))) (.cons (.var (by refine Cb f ?_;rfl:I' 14=some (Xd (D.ps.map g)))) .nil))) (iC H (by refine aa (Fh j) ?_;decide:D.ps.length≤100) ((sd ..):(D.ps.map g).length=D.ps.length) (Pa rfl) rl r1 _ fun U5 s5=>?_);refine qb.int _ ?_;refine aa (by rw[e1,e2]:(.Ba [.int v,.fl (s'.Ja.map Xd),.fl (s'.oa.map Nr.v)]:V)=.Ba [.int v,.fl (s.Ja.map Xd),.fl (s.oa.map Nr.v)]) ?_;exact⟨0,rfl,.inl (Af _ _ rfl rfl (wc rfl) (((uh.eqv (Iw v s) (Iw v s) (V.Kk (Iw v s))):uh U5 .Eq (.Ba [.int v,.fl (s.Ja.map Xd),.fl (s.oa.map Nr.v)]) (.Ba [.int v,.fl (s.Ja.map Xd),.fl (s.oa.map Nr.v)]) true) _ (M U5)))⟩
theorem yF(H:Sd G){z:Addr}{w:Nat->Int}(f:D.ok)(hW:Nf U W)(hG:qx U z w 3)(A:Ce U F J D.ps D.hv (Tq D (D.cv D.c3) (D.cv D.c4)) bs (Dh D (D.cv D.c3) (D.cv D.c4)))(l2:I 2=some (.ref W))(l3:I 3=some (Mb D.Yb))(l4:I 4=some (Ee D.ps))(l5:I 5=some (.bool D.hv))(l6:I 6=some (.ref z))(l7:I 7=some (.ref F))(M:I 8=some (.bool (D.cv D.c3||D.cv D.c4)))(O:∀U',Kr (.bool true) U'):Ia G (k+1+1+1+1+1) ((we .RD).drop 5) I U Kn Kr:=by
 refine kx (.call (.cons (.var l7) .nil) (zw H A (Pa rfl) (yu f _ _))) fun U1 s1=>?_;refine kx (.call (.cons (.var (show Ca I 9 _ 3=_ from l3)) .nil) (Mv H (ix f) (N:=12) (by decide) (fun B g i u n c=>Gq f (Zi f g u) c) (fun B g n c=>?_) (Pa rfl) fun B g=>⟨by have:=Ve f g;exact bc (by assumption) (Pa rfl),fun i u=>by have:=Pf f (Zi f g u);exact bc (by assumption) (Pa rfl)⟩)) fun U2 x=>?_
 ·rcases Yz g with rfl|rfl|rfl|rfl|rfl|rfl|rfl
  ·have c:zb.r n∈[zb.r 3]:=c;cases Jd c;decide
  ·have c:zb.r n∈[zb.r 7]:=c;cases Jd c;decide
  ·have:=Xh (m:=10) c;lia
  ·exact(Zo (v:=false) (r:=12) n c).2
  ·exact(Zo (v:=false) (r:=12) n c).2
  ·exact nomatch c
  ·have:=Xh (m:=10) c;lia
 (change let R:Prop:=_;R;intro R);(refine pd (fun ns p hw P=>?_) hW;clear hW)
 (change let R:Prop:=_;R;intro R);(refine Pb (fun kvs hg Q T=>?_) hG;clear hG)
 refine Gb (.CJ (fun a=>.int (uf D a)) fun a K ha X=>vb (ez H f ha (show Ca (Ca (Ca I 9 _) 10 _) 11 _ 3=_ from l3) (show Ca (Ca (Ca I 9 _) 10 _) 11 _ 5=_ from l5) rfl rfl _ X)) ?_;generalize b:Ca (Ca (Ca I 9 (Mb (Dh D (D.cv D.c3) (D.cv D.c4)))) 10 (.bool (Wf D.Kd D.Yb))) 12 (.fl [.int (uf D 0),.int (uf D 1),.int (uf D 2),.int (uf D 3),.int (uf D 4),.int (uf D 5),.int (uf D 6)])=I';have m2:I' 2=some (.ref W):=by refine Cb b ?_;exact l2
 have Y:I' 3=some (Mb D.Yb):=by refine Cb b ?_;exact l3
 have m4:I' 4=some (Ee D.ps):=by refine Cb b ?_;exact l4
 have m6:I' 6=some (.ref z):=by refine Cb b ?_;exact l6
 have m7:I' 7=some (.ref F):=by refine Cb b ?_;exact l7
 have L:I' 9=some (Mb (Dh D (D.cv D.c3) (D.cv D.c4))):=by refine Cb b ?_;rfl
 have l:I' 12=some (.fl (Ni D)):=by refine Cb b ?_;rfl
 have mul:vp U2 .Mult (.fl [.int (-1)]) (.int 7) (.fl [.int (-1),.int (-1),.int (-1),.int (-1),.int (-1),.int (-1),.int (-1)]):=fun e q=>.inr (Af _ _ rfl rfl ⟨by exact Ub rfl,by exact Ub rfl⟩ q);refine La (.Ea (.not (.Nj (.var (by refine Cb b ?_;exact M:I' 8=some (.bool (D.cv D.c3||D.cv D.c4)))))) fun e=>.Ea (.ta (.var (by refine Cb b ?_;exact M:I' 8=some (.bool (D.cv D.c3||D.cv D.c4)))) (.ta (.var L) (.var Y) (.ne (.eqv (xr 2 _) (xr 2 _) (Uu f _ _)))) (.ne .fL)) fun e=>.Ea (.ta (.var (by refine Cb b ?_;exact M:I' 8=some (.bool (D.cv D.c3||D.cv D.c4)))) (.ta (.var l) (.Fd (.xb (.cons .int .nil)) .int mul) (.ne (.eqv ((rfl):V.ok 8 (.fl (Ni D))=true) rfl (Cw D)))) (.ne .fL)) fun e=>.ud) ?_ ?_
 ·cases D.cv D.c3<;>cases D.cv D.c4<;>rfl
 refine La (.Ea (.ta (.Pd (.var L) rfl (wc rfl)) .int (.ne .Ag)) fun e=>.Ea (.ta (.ma (.var m7) (A.za (s1.trans x)).f rfl) (.var m4) (.ne (.eqv (au _) (au _) (V.Kk (au _))))) fun e=>.Ea (.ta (.ma (.var m7) (A.za (s1.trans x)).f rfl) (.xb (.cons (.Ba (.cons .int (.cons .int .nil))) .nil)) (.ne (.eqv rfl rfl rfl))) fun e=>.ud) rfl ?_;refine Jm (n:=7) (by exact Pa rfl) .int (fun e I U'=>U'=U2∧∀j,j≠11->I j=I' j) ⟨rfl,fun e e=>rfl⟩ (fun m j I U' K hj h X=>?_) fun I U' h=>?_
 ·(change let R:Prop:=_;R;intro R);(refine Qa (fun o b=>?_) h;clear h;subst o)
  (change let R:Prop:=_;R;intro R);refine Cd (fun B' B ba g s=>?_)<|OA f (by lia:j<7)
  have y:qb G (k+1+1+1+1+1) (Ca I 11 (.int (j:Nat))) U' (.Ma (.var 9) (.var 11)) B'.v:=.Ma (.var (((b 9 (by exact Ub rfl)).trans L):Ca I 11 (.int (j:Nat)) 9=some (Mb (Dh D (D.cv D.c3) (D.cv D.c4))))) (.var rfl) rfl (kc (by refine aa List.getElem?_map (aa ba ?_);rfl)) (wc rfl);have eB:qb G (k+1+1+1+1+1) (Ca I 11 (.int (j:Nat))) U' (.Ma (.var 3) (.var 11)) B.v:=.Ma (.var (((b 3 (by exact Ub rfl)).trans Y):Ca I 11 (.int (j:Nat)) 3=some (Mb D.Yb))) (.var rfl) rfl (kc (by refine aa List.getElem?_map (aa g ?_);rfl)) (wc rfl);have t:qb G (k+1+1+1+1+1) (Ca I 11 (.int (j:Nat))) U' (.Ma (.var 12) (.var 11)) (.int (uf D j)):=.Ma (.var (((b 12 (by exact Ub rfl)).trans l):Ca I 11 (.int (j:Nat)) 12=some (.fl (Ni D)))) (.var rfl) rfl (kc (Ky D (by lia:j<7))) (wc rfl);have next:K (Ca I 11 (.int (j:Nat))) U':=X _ _ ⟨rfl,fun i u=>by
   refine Cb (b i u) ?_;refine(?_:cond (Nat.beq i 11) _ (I i)=_);refine aa (show Nat.beq i 11=false from by rw[Bool.eq_false_iff];exact fun h=>u (Nat.eq_of_beq_eq_true h)) ?_;rfl⟩
  refine vb ?_;rcases s with⟨hp,rfl⟩|⟨n,la,hp,rfl,h1,h2,h3,h4⟩
  ·rw[hp]at t;exact La (.ua (.ta t .int .lt) fun e=>.ua (.ta y eB (.ne (.eqv (Us 3 _) (Us 3 _) (Xe _)))) fun e=>.Od) rfl (La (.ua (r':=false) (.ta t .int .ge) fun h=>by exact(Fc h).elim) rfl (ja next))
  ·rw[hp]at t;refine La (.ua (r':=true) (.ta t .int .lt) fun h=>absurd (Ub h) (by exact Ub rfl)) (by refine aa (decide_eq_false (by exact Ub rfl)) ?_;rfl) (La (.ua (.ta t .int .ge) fun e=>.ua (.not (.call (.cons y (.cons eB (.cons t .nil))) (uw H h1 h2 h3 h4))) fun e=>.Od) ?_ (ja next));exact aa (Bool.and_false _) rfl
 ·(refine Qa (fun o b=>?_) h;clear h;refine aa o ?_)
  exact OE H f ((⟨ns,p,(s1.trans x) _ _ hw,P⟩):Nf U2 W) ((⟨kvs,(s1.trans x) _ _ hg,Q,T⟩):qx U2 z w 3) (A.za (s1.trans x)) ((b 2 (by exact Mo rfl)).trans m2) ((b 3 (by exact Ub rfl)).trans Y) ((b 4 (by exact Mo rfl)).trans m4) ((b 6 (by exact Mo rfl)).trans m6) ((b 7 (by exact Mo rfl)).trans m7) ((b 9 (by exact Ub rfl)).trans L) ((b 12 (by exact Ub rfl)).trans l) O
theorem NH(H:Sd G){c:List Int}(e:c.length≤1000)(b:∀U',Kr (.bool true) U'):Ia G (k+1+1+1+1+1) (we .RD) (Me 0 [.fl (c.map V.int)]) U Kn Kr:=
 DD H e fun a a a a a a a a a f g h i l2 l3 j l m n o=>yF H f g h i l2 l3 j l m n o b
noncomputable def zh(K:Frag)(n:Str):Addr:=match nsIn K mainGlobals n with|some (some (.ref a))=>a|_=>0
noncomputable def CH(K:Frag)(n:Str):Addr:=match findIn K (.ref (zh K n)) "__init__" with|some (some (.ref a))=>a|_=>0
noncomputable def UC(K:Frag)(f:Fn):Addr:=if f.plain=true then zh K f.str else CH K ((["Step","Block","Func"]:List Str).getD f.val "")
noncomputable def xC(K:Frag)(c:Cl):Addr:=zh K c.str
noncomputable def nJ(K:Frag)(n:Str):Tok:=match nsIn K mainGlobals n with|some (some (.int _ t))=>t|_=>0
noncomputable def Yt(K:Frag)(a:Addr):Array DictEntry:=match K.lookup a with|some ⟨_,_,.dict es _,_⟩=>es|_=>#[]
noncomputable def PK(K:Frag)(a:Addr):Nat:=match K.lookup a with|some ⟨_,_,.dict _ n,_⟩=>n|_=>0
noncomputable def BH(P:Params)(e:DictEntry):DictEntry:=match e.key with| .str x t=>⟨PyData.keyHash P x,.str x t,e.val⟩|_=>e
noncomputable def fw(e:DictEntry):Bool:=match e.key with| .str ..=>true|_=>false
set_option tactic.hygienic true in
theorem Fv{P:Params}:∀{l:List DictEntry},l.all fw=true->l.map (BH P)=l->KeysLit P l:=by
 intro c;induction c with
 |nil=>intro h f;exact trivial
 |cons e r i=>
  intro h f;rw[List.all_cons,Bool.and_eq_true]at h;injection f with a b;refine⟨?_,i h.2 b⟩;have hs:=h.1;unfold fw at hs;split at hs
  ·rename_i x t g;refine(ej x t g ?_);unfold BH at a;rw[g]at a;exact(congrArg DictEntry.hash a).symm
  ·injection hs
noncomputable def ey(K:Frag)(a:Addr):Option FuncData:=match K.lookup a with|some ⟨_,_,.func fd,_⟩=>some fd|_=>none
noncomputable def VB(K:Frag)(c:Nat)(d:List Str)(b:List S)(a:FuncData):Bool:=
 (match a.body with| .stmts x=>wm d a.scope b x|_=>false)&&a.closure.isEmpty&&decide (a.scope.kind=.function)&&!a.scope.isCoroutine&&!a.scope.isGenerator&&decide (a.globals=mainGlobals)&&decide (a.builtins=builtinsNs) &&
 codeIn K a.code a.qualname&&decide d.Nodup&&(d.take c).all (fun n=>kf a.scope n .local||kf a.scope n .cell)&&a.scope.names.all fun(n,k)=>(k != .cell)||kf a.scope n .cell
set_option tactic.hygienic true in
theorem EE{t:Nat}{b:List S}(h:(ey G.K a).map (VB G.K t d b)=some true)(hb:∀i:List Value,i.length=t->(ey G.K a).map (fun p=>bindArgs p ⟨i,[]⟩)=some (pure ((d.take t).zip i))):∃p x,dJ G a t d b p x:=by
 unfold ey at h hb;split at h
 ·rename_i Q R p sl z;replace h:=Bb h;unfold VB at h;simp only[Bool.and_eq_true,decide_eq_true_eq,List.all_eq_true,Bool.or_eq_true,Bool.not_eq_true',List.isEmpty_iff]at h
  (refine Qa (fun s u=>?_) h;clear h;refine Qa (fun o v=>?_) s;clear s;refine Qa (fun m A=>?_) o;clear o;refine Qa (fun l B=>?_) m;clear m;refine Qa (fun j D=>?_) l;clear l;refine Qa (fun g F=>?_) j;clear j;refine Qa (fun f H=>?_) g;clear g;refine Qa (fun e K=>?_) f;clear f;refine Qa (fun c L=>?_) e;clear e;refine Qa (fun w M=>?_) c;clear c)
  split at w
  ·rename_i x N;refine⟨p,x,(eK _ _ _ z),N,w,M,L,K,H,F,D,B,A,fun i hv=>?_,fun n O=>?_,fun y P q=>?_⟩
   ·have:=hb i hv;rw[z]at this;simpa using this
   ·rcases v n O with q|q
    ·exact .inl (gd q)
    ·exact .inr (gd q)
   ·obtain⟨n,T⟩:=y;simp only at q;subst q;rcases u _ P with q|q
    ·exact nomatch q
    ·exact gd q
  ·injection w
 ·injection h
theorem ZH{l:List (Fin n)}(h:∀i:Fin n,(l[i.val]?).map Fin.val=some i.val)(i:Fin n):l[i.val]?=some i:=(Option.map_eq_some_iff.mp (h i)).elim fun a h=>h.1.trans (congrArg some (Fin.eq_of_val_eq h.2))
noncomputable def Bl:List Fn:=[.uj,.Sj,.Qk,.xj,.ze,.Ii,.ji,.Lj,.Dj,.Fi,.sj,.Pj,.Dg,.xm,.di,.Mi,.Ij,.oh,.Yk,.Ck,.Ui,.Gj,.el,.oi,.Xc,.Vh,.nj,.si,.Cf,.vh,.qm,.Cm,.Fe,.zf,.fh,.gg,.ui,.pj,.RD]
theorem Eu:∀i:Fn,Bl[i.val]?=some i:=ZH (n:=39) (l:=Bl) (by decide +kernel)
noncomputable def vf:List Cl:=[.step,.td,.func]
theorem lk:∀i:Cl,vf[i.val]?=some i:=ZH (n:=3) (l:=vf) (by decide +kernel)
noncomputable def Gx:List At:=[.op,.nc,.args,.more,.Tb,.line,.Yc,.uc,.We,.name,.params,.Xk,.slots,.Ae,.ie,.Xg]
theorem WI:∀i:At,Gx[i.val]?=some i:=ZH (n:=16) (l:=Gx) (by decide +kernel)
noncomputable def cx:List Wd:=[.r,.k,.slot,.load,.call,.ig,.de,.yl,.lj,.Bk,.name,.Ib,.branch,.table,.ic,.add,.sub,.Oy,.mul,.eq,.and,.Yh,.f,.g,.Xf]
theorem II:∀i:Wd,cx[i.val]?=some i:=ZH (n:=25) (l:=cx) (by decide +kernel)
noncomputable def Ex:List Gi:=[.mask,.size,.Mt]
theorem tJ:∀i:Gi,Ex[Fin.val i]?=some i:=ZH (n:=3) (l:=Ex) (by decide +kernel)
noncomputable def Li:List Gd:=[.Ov,.Qz,.sD]
theorem Sr:∀i:Gd,Li[i.val]?=some i:=ZH (n:=3) (l:=Li) (by decide +kernel)
theorem Ze{a b:Type _}{l:List a}{x:a->Nat}(c:∀i,l[x i]?=some i){X Y:a->b}(h:l.map X=l.map Y)(i:a):X i=Y i:=by have h:(l.map X)[x i]?=(l.map Y)[x i]?:=congrArg (·[x i]?) h;rw[List.getElem?_map,List.getElem?_map,c]at h;exact Bb h
theorem bI:∀(l:List Value),l.length≤5->∃a b c f e,[a,b,c,f,e].take l.length=l
 | [],_=>qz .none .none .none .none .none rfl
 | [a],_=>qz a .none .none .none .none rfl
 | [a,b],_=>qz a b .none .none .none rfl
 | [a,b,c],_=>qz a b c .none .none rfl
 | [a,b,c,f],_=>qz a b c f .none rfl
 | [a,b,c,f,e],_=>qz a b c f e rfl
 |_::_::_::_::_::_::_,h=>absurd h (by simp)
theorem QL(f:Fn):bu f≤5:=Ub (Ze (X:=fun f=>decide (bu f≤5)) (Y:=fun a=>true) Eu rfl f)
structure cw(K:Frag)(P:Params):Prop where
 fn:Bl.map (fun f=>if f.plain=true then nsIn K mainGlobals f.str else none)=Bl.map fun f=>if f.plain=true then some (some (.ref (UC K f)))else none
 cl:vf.map (fun c=>nsIn K mainGlobals c.str)=vf.map fun c=>some (some (.ref (xC K c)))
 keep:Bl.map (fun f=>keepIn K (.ref (UC K f)))=Bl.map fun f=>true
 zI:vf.map (fun c=>keepIn K (.ref (xC K c)))=vf.map fun c=>true
 dK:vf.map (fun c=>makesIn K (xC K c))=vf.map fun c=>true
 init:vf.map (fun c=>findIn K (.ref (xC K c)) "__init__")=vf.map fun c=>some (some (.ref (UC K (Mn c))))
 QJ:vf.map (fun c=>typeIn K (.ref (UC K (Mn c))))=vf.map fun c=>some (.type "function")
 JK:vf.map (fun c=>findIn K (.ref (xC K c)) "__getattribute__")=vf.map fun c=>some (some (.builtin "object.__getattribute__"))
 HK:vf.map (fun c=>findIn K (.ref (xC K c)) "__getattr__")=vf.map fun c=>some none
 dict:vf.map (fun c=>hasDictIn K (xC K c))=vf.map fun c=>true
 rG:vf.map (fun c=>Gx.map fun a=>findIn K (.ref (xC K c)) a.str)=vf.map fun c=>Gx.map fun ζ=>some none
 Pz:vf.map (fun c=>findIn K (.ref (xC K c)) "__setattr__")=vf.map fun c=>some (some (.builtin "object.__setattr__"))
 fK:vf.map (fun c=>plainOver K (xC K c))=vf.map fun c=>true
 aI:(["len","list","set","str","all","isinstance","max","dict","zip","enumerate","range","bool"]:List Str).map (nsIn K mainGlobals)=(["len","list","set","str","all","isinstance","max","dict","zip","enumerate","range","bool"]:List Str).map fun ζ=>some none
 gi:Ex.map (fun g=>nsIn K mainGlobals g.str)=Ex.map fun g=>some (some (.int g.val (nJ K g.str)))
 OL:Li.map (fun g=>nsIn K mainGlobals g.str)=Li.map fun g=>some (some (.ref (zh K g.str)))
 TL:Li.map (fun g=>K.lookup (zh K g.str))=Li.map fun g=>some ⟨.type "dict",none,.dict (Yt K (zh K g.str)) (PK K (zh K g.str)),#[]⟩
 KL:Li.map (fun g=>zh K g.str==sysModules)=Li.map fun g=>false
 PL:Li.map (fun g=>cx.map fun w=>(nsIn K (zh K g.str) w.str).map Option.isSome)=Li.map fun g=>cx.map fun w=>some (g.has w)
 IL:Li.map (fun g=>(Yt K (zh K g.str)).toList.all fw)=Li.map fun g=>true
 VL:Li.map (fun g=>(Yt K (zh K g.str)).toList.map (BH P))=Li.map fun g=>(Yt K (zh K g.str)).toList
 uL:Bl.map (fun f=>(ey K (UC K f)).map (VB K (bu f) (OG f) (we f)))=Bl.map fun f=>some true
 HL:∀a b c d e:Value,Bl.map (fun f=>(ey K (UC K f)).map (fun fd=>bindArgs fd ⟨[a,b,c,d,e].take (bu f),[]⟩))=Bl.map fun f=>some (pure (((OG f).take (bu f)).zip ([a,b,c,d,e].take (bu f))))
theorem cw.SK{K:Frag}{P:Params}(c:cw K P)(f:Fn)(h:f.plain=true):nsIn K mainGlobals f.str=some (some (.ref (UC K f))):=by have:=Ze Eu c.fn f;rw[if_pos h,if_pos h]at this;exact this
theorem cw.DK{K:Frag}{P:Params}(c:cw K P)(f:Fn)(a:List Value)(h:a.length=bu f):(ey K (UC K f)).map (fun b=>bindArgs b ⟨a,[]⟩)=some (pure (((OG f).take (bu f)).zip a)):=by obtain⟨x,y,z,u,v,q⟩:=bI a (h▸QL f);rw[h]at q;have:=Ze Eu (c.HL x y z u v) f;rw[q]at this;exact this
noncomputable def Xy(prog:Program)(w:World)(a:Shared)(K:Frag):Og:=⟨prog,w,K,a,xC K,UC K⟩
theorem BJ{prog:Program}{w:World}{b:Shared}{K:Frag}{p:Program}{a:List Str}{mg mb:Str->Option Value}(X:K.In b.heap)(t:TopRead p a mg mb b.heap)(c:cw K w.params):(Xy prog w b K).Ok where
 Uq:=X
 dH:=(kK p a mg mb t)
 GC:=c.SK
 kB:=Ze lk c.cl
 fC:=fun g=>⟨_,Ze tJ c.gi g⟩
 uA:=fun g=>(Qw _ _ _ (Ze Sr c.OL g) (Ze Sr c.TL g) (Fv (Ze Sr c.IL g) (Ze Sr c.VL g)) (Ze Sr c.KL g) (fun wd=>by
  have:=Ze II (Ze Sr c.PL g) wd;rw[Option.map_eq_some_iff]at this;exact this))
 aI:=List.map_inj_left.mp c.aI
 EA:=Ze Eu c.keep
 tA:=Ze lk c.zI
 zA:=Ze lk c.dK
 aB:=Ze lk c.init
 Mx:=Ze lk c.QJ
 FF:=fun k=>⟨Ze lk c.JK k,Ze lk c.HK k⟩
 Kw:=Ze lk c.dict
 iq:=fun k=>Ze WI (Ze lk c.rG k)
 bC:=fun k=>⟨Ze lk c.Pz k,Ze lk c.fK k⟩
theorem KA{prog:Program}{w:World}{a:Shared}{K:Frag}(b:(Xy prog w a K).Ok)(c:cw K w.params):Sd (Xy prog w a K)where
 call f _ vs _ _ hl h:=by
  refine Lk (fun e x F=>?_)<|EE (G:=Xy prog w a K) (Ze Eu c.uL f) (c.DK f)
  exact enter b (QH b) F hl h
theorem mz{P:Params}:∀{a:List Int}{vs:List Value},WellAll P h vs (ofPys (a.map PyData.int))->Se T (a.map V.int) vs:=by
 intro a;induction a with
 |nil=>intro vs w;cases w;exact .nil
 |cons n a c=>
  intro vs w;cases w with
  |cons hv r=>
   have e:∀{v:Value},Well P h v (.int n)->∃t,v=.int n t:=fun w=>by cases w;exact⟨_,rfl⟩
   (refine Aa (fun t b=>?_)<|e hv;rw[b])
   exact .cons (by exact⟨t,rfl⟩) (c r)
theorem law_end{prog:Program}{w:World}{K:Frag}{f:Shared}{c:ClaimW}{N:Str->Option Addr}{o i:ExcName->Option Value}{args:List WData}{D S:Addr}{s:List Int}{mg mb:Str->Option Value}{p:Program}{j:List Str}(F:K.In f.heap)(T:Top p j i mg mb f.heap)(t:mg "law" = some (.ref D))(O:f.gens=#[])(P:Well w.params f.heap (.ref S) (ofPy (.list (s.map .int))))(W:s.length≤1000)(b:cw K w.params)(Y:∀cls,c.raises args cls=false)(po:c.post args (.bool true) args=true):codeAny (model prog w) callerA (.call (.ref D) ⟨[.ref S],[]⟩) (GoodW c N o args f) f:=by
 have G:(Xy prog w f K).Ok:=BJ F (topRead_of T) b;have e:=mg_of F (Top.g T) (b.SK .RD rfl);have e:mg "law" = some (.ref (UC K .RD)):=e;rw[t]at e
 (replace e:=Bb e;cases e)
 have u:Well w.params f.heap (.ref S) (.list (ofPys (s.map .int))):=P;cases u with
 | @list _ vs _ H x=>
  let g:Tm:=fun a=>if a=S then some (.fz true vs)else none
  have L:g S=some (.fz true vs):=if_pos rfl;have R:Ed (Xy prog w f K) g (fun l=>none) f:=by
   refine⟨fun l l h=>h,(Aq f.heap f.toks rfl),fun a e n=>?_,fun a m h=>by injection h⟩;by_cases q:a=S
   ·subst q;rw[L]at n;(replace n:=(Bb n).symm;subst n);exact(yc (fun h=>by injection h) (Heap.lt_size H) (Ks 0 H))
   ·rw[show g a=none from if_neg q]at n;injection n
  have hv:Se g [.fl (s.map V.int)] [.ref S]:=.cons (by exact(qf S vs rfl L (mz x))) .nil;have ok:=(KA G b).call .RD (vs:=[.fl (s.map V.int)]) (U:=fun l=>none) (Q:=fun X l=>X=.bool true) rfl (NH (k:=0) (KA G b) W fun l=>rfl) callerA g f [.ref S] (yc rfl (by decide +kernel) (by decide +kernel)) (tf _) R hv;refine codeAny_mono ok fun r s' h=>?_
  (refine XE (fun v T' U' X y l M z A=>?_) h;clear h;subst y;subst A)
  replace z:_=_:=z;subst z
  (refine Lk (fun h' tk B=>?_) M.Vc;subst B)
  exact(lg (.inl (Qw (.bool true) (.bool true) [] rfl Y (.bool true) po unshared_nil)) M.wi rfl O)
end Mine
open PySem PySem.W PyProof.Rows
set_option Elab.async true
namespace Mine.main
theorem tw5252631529969781882:True:=⟨⟩
theorem tw12205347405646519318:True:=⟨⟩
theorem tw3562595001068472590:True:=⟨⟩
theorem tw4901078907232920876:True:=⟨⟩
theorem tw10450603732522932521:True:=⟨⟩
theorem tw6511744376749373798:True:=⟨⟩
theorem tw8805003434126530009:True:=⟨⟩
theorem tw5372645768047454471:True:=⟨⟩
theorem tw16102231251864390963:True:=⟨⟩
theorem tw9268297945177815525:True:=⟨⟩
theorem tw14027531716089632829:True:=⟨⟩
theorem tw2895952525429962455:True:=⟨⟩
theorem tw10896356407431480244:True:=⟨⟩
theorem tw223528310411579522:True:=⟨⟩
theorem tw5585478044538960755:True:=⟨⟩
theorem tw11156056980113079860:True:=⟨⟩
theorem tw16778611742570070204:True:=⟨⟩
theorem tw2821470743931037460:True:=⟨⟩
theorem tw4637267157515435788:True:=⟨⟩
theorem tw7885402756211317057:True:=⟨⟩
theorem tw1632041292262086317:True:=⟨⟩
theorem tw13219505800766818778:True:=⟨⟩
theorem tw9265829497004654079:True:=⟨⟩
theorem tw15485851114877660061:True:=⟨⟩
theorem tw16046730324260685337:True:=⟨⟩
theorem tw5084117380071580128:True:=⟨⟩
theorem tw2019394398466159022:True:=⟨⟩
theorem tw6655696309031964122:True:=⟨⟩
theorem tw1504049600530537962:True:=⟨⟩
theorem tw17052023290607921161:True:=⟨⟩
theorem tw5571399437266216444:True:=⟨⟩
theorem tw4261964983698606537:True:=⟨⟩
theorem tw13777938177461255882:True:=⟨⟩
theorem tw14457758005677747962:True:=⟨⟩
theorem tw16452447596832230105:True:=⟨⟩
theorem tw2852251193174398662:True:=⟨⟩
theorem tw6361450105264607166:True:=⟨⟩
theorem tw9730157408454304684:True:=⟨⟩
theorem tw9512817274939609580:True:=⟨⟩
theorem tw2287757881348798766:True:=⟨⟩
theorem tw9302470337196694018:True:=⟨⟩
theorem tw2724176850512262202:True:=⟨⟩
theorem tw7698036289167662538:True:=⟨⟩
theorem tw5240779543111244032:True:=⟨⟩
theorem tw1678875084529416142:True:=⟨⟩
theorem tw10876375607700338302:True:=⟨⟩
theorem tw11221353774195762014:True:=⟨⟩
theorem tw9376575566392132001:True:=⟨⟩
theorem tw13876859957761632879:True:=⟨⟩
theorem tw15109750227778091905:True:=⟨⟩
theorem tw9925469786538053656:True:=⟨⟩
theorem tw18332899500509843999:True:=⟨⟩
theorem tw16008252555379753968:True:=⟨⟩
theorem tw16519101796099990279:True:=⟨⟩
theorem tw4900431672193113347:True:=⟨⟩
theorem tw13110577991587790113:True:=⟨⟩
theorem tw10821422270917381399:True:=⟨⟩
theorem tw10707853282979444102:True:=⟨⟩
theorem tw1714950047550659301:True:=⟨⟩
theorem tw16826212616301561204:True:=⟨⟩
theorem tw17974016328880235120:True:=⟨⟩
theorem tw1270039299266317192:True:=⟨⟩
theorem tw13348322127785295214:True:=⟨⟩
theorem tw4038153913678941442:True:=⟨⟩
theorem tw17118054049896295152:True:=⟨⟩
theorem tw17336282652733537790:True:=⟨⟩
theorem tw4500915450034043215:True:=⟨⟩
theorem tw16629339528299215175:True:=⟨⟩
theorem tw3027586509356016917:True:=⟨⟩
theorem tw17737603089517620647:True:=⟨⟩
theorem tw10204856939554784155:True:=⟨⟩
theorem tw6886502059237256666:True:=⟨⟩
theorem tw11857135199678951331:True:=⟨⟩
theorem tw5436791530062809996:True:=⟨⟩
theorem tw16923884221124529275:True:=⟨⟩
theorem tw6785657489111691699:True:=⟨⟩
theorem tw979501456738626862:True:=⟨⟩
theorem tw15467891735981029475:True:=⟨⟩
theorem tw18302796317244248524:True:=⟨⟩
theorem tw2496676261509829067:True:=⟨⟩
theorem tw4324958949535026087:True:=⟨⟩
theorem tw5613160597433933154:True:=⟨⟩
theorem tw8440099810896429113:True:=⟨⟩
theorem tw14771111431291430275:True:=⟨⟩
theorem tw104360540948158410:True:=⟨⟩
theorem tw1615956725737779560:True:=⟨⟩
theorem tw1677766988990989824:True:=⟨⟩
theorem tw9897820754763898449:True:=⟨⟩
theorem tw12590340796369385619:True:=⟨⟩
theorem tw17958375852430007124:True:=⟨⟩
theorem tw12455012482086183272:True:=⟨⟩
theorem tw12361340156312767134:True:=⟨⟩
theorem tw10234815189450012239:True:=⟨⟩
theorem tw18134284020713443437:True:=⟨⟩
theorem tw4605139254293405059:True:=⟨⟩
theorem tw13724616953566380437:True:=⟨⟩
theorem tw17091655785135471103:True:=⟨⟩
theorem tw8478376212529829071:True:=⟨⟩
theorem tw17353955331779342651:True:=⟨⟩
theorem tw6541472054586571296:True:=⟨⟩
theorem tw5102693214775723256:True:=⟨⟩
theorem tw9508770018378322450:True:=⟨⟩
theorem tw9840939614602229412:True:=⟨⟩
theorem tw3829396358689915599:True:=⟨⟩
theorem tw9155575984036265788:True:=⟨⟩
theorem tw15270170921892066516:True:=⟨⟩
theorem tw15595112118272840620:True:=⟨⟩
theorem tw65644731488775911:True:=⟨⟩
theorem tw10642606787283503386:True:=⟨⟩
theorem tw4126091431370883743:True:=⟨⟩
theorem tw1277820614484962519:True:=⟨⟩
theorem tw16320729459185622934:True:=⟨⟩
theorem tw13224007501803129859:True:=⟨⟩
theorem tw14759895335926876869:True:=⟨⟩
theorem tw6696893160125735727:True:=⟨⟩
theorem tw11544348965984651327:True:=⟨⟩
theorem tw16136984950599521427:True:=⟨⟩
theorem tw4882109666999030741:True:=⟨⟩
theorem tw8228058824784995430:True:=⟨⟩
theorem tw1439166485080882:True:=⟨⟩
theorem tw6697339332421208802:True:=⟨⟩
theorem tw16008457594558532635:True:=⟨⟩
theorem tw15737690656516749961:True:=⟨⟩
theorem tw10625486282989778954:True:=⟨⟩
theorem tw1409966394225722968:True:=⟨⟩
theorem tw15017983477296125989:True:=⟨⟩
theorem tw2729793432009153956:True:=⟨⟩
theorem tw7235775444256392728:True:=⟨⟩
theorem tw13693970394777133609:True:=⟨⟩
theorem tw341453280667917650:True:=⟨⟩
theorem tw797929991567423669:True:=⟨⟩
theorem tw17292155258170135553:True:=⟨⟩
theorem tw15803610866087392283:True:=⟨⟩
theorem tw4458048076830672230:True:=⟨⟩
theorem tw4544244032028310869:True:=⟨⟩
theorem tw10669944970481658594:True:=⟨⟩
theorem tw13355152605343272895:True:=⟨⟩
theorem tw4297412468100583042:True:=⟨⟩
theorem tw12702744160499308131:True:=⟨⟩
theorem tw3466206800631347469:True:=⟨⟩
theorem tw5443631080548619819:True:=⟨⟩
theorem tw5203219222101121401:True:=⟨⟩
theorem tw2195194259037543316:True:=⟨⟩
theorem tw7699798408344515789:True:=⟨⟩
theorem tw3045742163950154196:True:=⟨⟩
theorem tw11554813239044494598:True:=⟨⟩
theorem tw221909299271738847:True:=⟨⟩
theorem tw16035907590883218939:True:=⟨⟩
theorem tw15624239662980076321:True:=⟨⟩
theorem tw2583023086579268501:True:=⟨⟩
theorem tw9563168847844234846:True:=⟨⟩
theorem tw10877679251791092727:True:=⟨⟩
theorem tw17450470499104002142:True:=⟨⟩
theorem tw2422408961436860177:True:=⟨⟩
theorem tw12872379398031375081:True:=⟨⟩
theorem tw12839114828313443825:True:=⟨⟩
theorem tw9976160756891316704:True:=⟨⟩
theorem tw12518504611687188807:True:=⟨⟩
theorem tw1826329307503635854:True:=⟨⟩
theorem tw18315214858253571532:True:=⟨⟩
theorem tw8466321980469482115:True:=⟨⟩
theorem tw2759098988195820126:True:=⟨⟩
theorem tw2225956059507018244:True:=⟨⟩
theorem tw10298723112805639129:True:=⟨⟩
theorem tw12431731261707249289:True:=⟨⟩
theorem tw6545385358150927430:True:=⟨⟩
theorem tw4990475226369331113:True:=⟨⟩
theorem tw16832360635688203351:True:=⟨⟩
theorem tw13838900630717943254:True:=⟨⟩
theorem tw14635473669698735251:True:=⟨⟩
theorem tw4651154628705390771:True:=⟨⟩
theorem tw10363585996791799541:True:=⟨⟩
theorem tw7411558596216406370:True:=⟨⟩
theorem tw7293298908176781663:True:=⟨⟩
theorem tw9682133043923132273:True:=⟨⟩
theorem tw11646826074482590764:True:=⟨⟩
theorem tw12343854547171428336:True:=⟨⟩
theorem tw8181977626019955066:True:=⟨⟩
theorem tw17510229520200029679:True:=⟨⟩
theorem tw11752208632293872130:True:=⟨⟩
theorem tw17679725944135375923:True:=⟨⟩
theorem tw18284262389922463811:True:=⟨⟩
theorem tw3532412968194664532:True:=⟨⟩
theorem tw2238316416991798583:True:=⟨⟩
theorem tw1779879307203188530:True:=⟨⟩
theorem tw907572574359809234:True:=⟨⟩
theorem tw2629084897520917108:True:=⟨⟩
theorem tw8729708805864041840:True:=⟨⟩
theorem tw16356685582667847594:True:=⟨⟩
theorem tw12077450504624328385:True:=⟨⟩
theorem tw6508729118710982530:True:=⟨⟩
theorem tw3779293765908593550:True:=⟨⟩
theorem tw4039676971129161736:True:=⟨⟩
theorem tw8118072479153026202:True:=⟨⟩
theorem tw13626721169425172152:True:=⟨⟩
theorem tw17236958762192778904:True:=⟨⟩
theorem tw302440914744352476:True:=⟨⟩
theorem tw7214478077546791972:True:=⟨⟩
theorem tw11003572833241299968:True:=⟨⟩
theorem tw14061640607465278742:True:=⟨⟩
theorem tw10665089971535097683:True:=⟨⟩
theorem tw750237026923860459:True:=⟨⟩
theorem tw11982392923317675503:True:=⟨⟩
theorem tw17223442867436993403:True:=⟨⟩
theorem tw4333880214566435006:True:=⟨⟩
theorem tw9190990891756207365:True:=⟨⟩
theorem tw387501639795913443:True:=⟨⟩
theorem tw3960113756560652017:True:=⟨⟩
theorem tw10391951854915411234:True:=⟨⟩
theorem tw10047389527955405517:True:=⟨⟩
theorem tw11710404883906591787:True:=⟨⟩
theorem tw14639212616227390028:True:=⟨⟩
theorem tw18325589031809861271:True:=⟨⟩
theorem tw5400957986263281647:True:=⟨⟩
theorem tw6862492499505807319:True:=⟨⟩
theorem tw16187894506366716058:True:=⟨⟩
theorem tw7761410557224570781:True:=⟨⟩
theorem tw9361300454564663673:True:=⟨⟩
theorem tw1777545030009416734:True:=⟨⟩
theorem tw10094358506670053839:True:=⟨⟩
theorem tw12623159325031504133:True:=⟨⟩
theorem tw2538046985915079169:True:=⟨⟩
theorem tw13270728482189477470:True:=⟨⟩
theorem tw16798622893749714585:True:=⟨⟩
theorem tw18442785490491869365:True:=⟨⟩
theorem tw2007339730380871907:True:=⟨⟩
theorem tw16819838333489098493:True:=⟨⟩
theorem tw17715262827843222689:True:=⟨⟩
theorem tw16251939892948500945:True:=⟨⟩
theorem tw13590572293223372214:True:=⟨⟩
theorem tw6385024630547198690:True:=⟨⟩
theorem tw4681395471914393968:True:=⟨⟩
theorem tw6557543464795787104:True:=⟨⟩
theorem tw1099256609624015869:True:=⟨⟩
theorem tw3796207824708393856:True:=⟨⟩
theorem tw13803360072150633466:True:=⟨⟩
theorem tw5061512775090418087:True:=⟨⟩
theorem tw832900586485598795:True:=⟨⟩
theorem tw6912675738884088206:True:=⟨⟩
theorem tw2524017781993486291:True:=⟨⟩
theorem tw15465920861327815835:True:=⟨⟩
theorem tw13642826006792871662:True:=⟨⟩
theorem tw16049902774474827687:True:=⟨⟩
theorem tw12483276189755474720:True:=⟨⟩
theorem tw66260789543402106:True:=⟨⟩
theorem tw15643365686152983790:True:=⟨⟩
theorem tw11815829001073249272:True:=⟨⟩
theorem tw8207831470162742035:True:=⟨⟩
theorem tw16721930046160240684:True:=⟨⟩
theorem tw14009396871252706886:True:=⟨⟩
theorem tw17264900360498390715:True:=⟨⟩
theorem tw9848185148710128376:True:=⟨⟩
theorem tw656089360051881306:True:=⟨⟩
theorem tw6753202212033000491:True:=⟨⟩
theorem tw5693078837942664162:True:=⟨⟩
theorem tw3343439749351644125:True:=⟨⟩
theorem tw1545906260438175962:True:=⟨⟩
theorem tw6112859857366181021:True:=⟨⟩
theorem tw16193401482309157537:True:=⟨⟩
theorem tw13402765919934010277:True:=⟨⟩
theorem tw11261727412033496967:True:=⟨⟩
theorem tw18403998269306519403:True:=⟨⟩
theorem tw5649967823195072380:True:=⟨⟩
theorem tw15365013842991253249:True:=⟨⟩
theorem tw1157997071576566072:True:=⟨⟩
theorem tw3234112476842188716:True:=⟨⟩
theorem tw2702614204127132176:True:=⟨⟩
theorem tw6447117284088858845:True:=⟨⟩
theorem tw14439473939278146460:True:=⟨⟩
theorem tw12915833801598196605:True:=⟨⟩
theorem tw12057704586751987240:True:=⟨⟩
theorem tw8930851030842425676:True:=⟨⟩
theorem tw15079240505294077160:True:=⟨⟩
theorem tw13350764725976880583:True:=⟨⟩
theorem tw9274054859765456524:True:=⟨⟩
theorem tw7083192437325867461:True:=⟨⟩
theorem tw3626430660855392483:True:=⟨⟩
theorem tw8475525182357872103:True:=⟨⟩
theorem tw3848698983108048278:True:=⟨⟩
theorem tw12670839924663504800:True:=⟨⟩
theorem tw6877560268529008848:True:=⟨⟩
theorem tw14662554035588321541:True:=⟨⟩
theorem tw9561784451562097942:True:=⟨⟩
theorem tw8905464785575363620:True:=⟨⟩
theorem tw17477492558424962760:True:=⟨⟩
theorem tw8947760058931562597:True:=⟨⟩
theorem tw12252054271945606052:True:=⟨⟩
theorem tw6635558491612396129:True:=⟨⟩
theorem tw16922381011570985944:True:=⟨⟩
theorem tw9272984997812220495:True:=⟨⟩
theorem tw17725498274588495791:True:=⟨⟩
theorem tw5665735395497279834:True:=⟨⟩
theorem tw4839478117068044826:True:=⟨⟩
theorem tw1054321117371714560:True:=⟨⟩
theorem tw14793117695081215449:True:=⟨⟩
theorem tw3557749057250611081:True:=⟨⟩
theorem tw9391614825396419720:True:=⟨⟩
theorem tw330327031418712150:True:=⟨⟩
theorem tw13676971244355772609:True:=⟨⟩
theorem tw12927740378394474205:True:=⟨⟩
theorem tw9557352009045844224:True:=⟨⟩
theorem tw6019089244302038806:True:=⟨⟩
theorem tw3454311308915712629:True:=⟨⟩
theorem tw9069182735580402390:True:=⟨⟩
theorem tw6910295442248876197:True:=⟨⟩
theorem tw13841662599370971200:True:=⟨⟩
theorem tw7173623326730630234:True:=⟨⟩
theorem tw14788915703135433725:True:=⟨⟩
theorem tw5240536507193477226:True:=⟨⟩
theorem tw5532463470591059822:True:=⟨⟩
theorem tw9670510015898674028:True:=⟨⟩
theorem tw7875838824674609581:True:=⟨⟩
theorem tw16952715711813285254:True:=⟨⟩
theorem tw6660377722381337597:True:=⟨⟩
theorem tw5401703158475992631:True:=⟨⟩
theorem tw3299218664060906527:True:=⟨⟩
end Mine.main
namespace Mine
set_option pp.deepTerms false in
set_option maxRecDepth 100000 in
set_option maxHeartbeats 8000000 in
theorem main : PySem.Challenge.rw_nm0025_01.Holds := by
 w_on; o_law; k_head; (case hw => w_witness2)
 w_strict (
  k_fill
  intro w s₀ s₁ mg mb G Y fa o pm cd doc dV kV ho hd hcd hD hmg hg args vals as hpre hlay hrd hwl hlo
  have KX := kIn_of Y
  refine Ground.open G ?_
  intro T B D TE TW
  try (refine guard_noD D (by decide +kernel) ?_; clear D)
  obtain ⟨_, _, M⟩ := bmod_of_top T
  wrow_args hpre hlay hrd hwl hlo
  all_goals (
   first | refine callC_kw (enter_call ?_) | refine enter_call ?_ | refine callC_kw (enter_callW ?_) | refine enter_callW ?_ | w_how
   w_top on
   try refine codeAny_mono ?_ (fun _ _ g => GoodW.toG g)
   have K0 := below_caller (Top.heap T)
   refine law_end KX T hmg hg (by assumption) (by omega) ?chk (raisesW_false ?_) ?_
   (case chk =>
    refine ⟨?fn, ?cl, ?keep, ?ckeep, ?make, ?init, ?initF, ?get1, ?get2, ?dict, ?noattr, ?set1, ?set2, ?blt, ?gi, ?gd1, ?gd2, ?gd3, ?gd4, ?gd5, ?gd6, ?fns, ?bnd⟩
    (case fn|cl|keep|ckeep|make|init|initF|get1|get2|dict|noattr|set1|set2|blt|gi|gd1|gd2|gd3|gd4|gd5|gd6|fns=>kernel_rfl)
    (case bnd => intro a b c d e; kernel_rfl))
   (· wrow_none_raised)
   (· wrow_post)))
end Mine
theorem PySem.Challenge.cw_nm0025_01_holds : PySem.Challenge.rw_nm0025_01.Holds :=
  Mine.main
