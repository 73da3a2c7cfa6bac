import PyProof.Rows.All
import Wide.All
import OpenK.AllK
import Wide.FinOn
import Lean
import PySem.Challenge.RW_pc0048_01
set_option Elab.async false
set_option maxRecDepth 100000
set_option linter.unusedVariables false
set_option genSizeOf false
set_option genInjectivity false
set_option tactic.hygienic false
noncomputable section
namespace Mine
section
open PySem PySem.W PyProof.Rows
def aG:= @wpAny_bind
def aY:= @wpAny_pure
def bX:= @wpAny_mono
def aJ:= @if_pos
def aR:= @if_neg
def bU:= @congrArg
def cX:= @beq_iff_eq
def iX:= @decide_eq_true
def oY:= @decide_eq_false
def lO:= @of_decide_eq_true
def bM:= @Heap.get?_push_of_some
def dQ:= @Heap.get?_push_size
def eN:= @Heap.lt_size
def dS:= @List.getD_eq_getElem?_getD
def fL:= @List.getElem?_eq_getElem
def hZ:= @List.getElem?_eq_some_iff
def bT:= @List.length_map
def dI:= @List.length_append
def kY:= @List.length_singleton
def dJ:= @List.mem_singleton
def dT:= @List.mem_of_getElem?
def eO:= @List.mem_map
def dF:= @List.mem_append
def eP:= @List.mem_filter
def dU:= @List.mem_range
def gQ:= @List.length_range
def iA:= @List.mem_cons
def eW:= @List.getElem?_map
def sA:= @List.getElem?_append_left
def gR:= @List.length_filter_le
def mU:= @List.eq_nil_of_length_eq_zero
def aK:= @Option.some.inj
def fM:= @Nat.eq_of_beq_eq_true
def jL:= @Nat.lt_irrefl
def eQ:= @Nat.le_refl
def iU:= @Nat.le_trans
def nE:= @Nat.lt_of_lt_of_le
def jM:= @Nat.le_of_lt
def tR:= @Nat.le_of_lt_succ
def gS:= @Nat.zero_le
def Hh:= @Nat.lt_of_le_of_lt
def eX:= @Bool.false_ne_true
def Nq:= @Bool.eq_false_iff
def jV:= @Bool.and_eq_true
def fQ:= @Bool.not_eq_true
def eC:= @Prod.mk.inj
def sB:= @Value.ref.inj
def jN:= @wpAny_holding
def wS:= @wpAny_evalPart_none
def sC:= @Heap.get?_update_self
def pC:= @Heap.get?_update_other
def pD:= @decide_eq_decide
def wT:= @beq_eq_false_iff_ne
def fR:= @sizeLine_eq
def sE:= @Int.toNat_natCast
def mV:= @congrFun
def wU:= @Option.isSome_iff_exists
def zW:= @List.getElem_mem
end
end Mine
namespace Mine
@[elab_as_elim] theorem lS{P:Nat->Prop}{n d:Nat}(hd:d<n+1)(h:d<n->P d)(k:P n):P d:=(Nat.lt_or_eq_of_le (tR hd)).elim h fun e=>e▸k
theorem l0{d:Nat}{P:Prop}(h:d<0):P:=absurd h (Nat.not_lt_zero _)
@[elab_as_elim] theorem b3{P:Nat->Prop}{d:Nat}(h:1<=d/\d<=3)(a:P 1)(b:P 2)(c:P 3):P d:=lS (P:=fun d=>1<=d->P d) (Nat.lt_succ_of_le h.2) (fun h=>lS h (fun h=>lS h (fun h=>lS h l0 fun h=>absurd h (by decide)) fun _=>a) fun _=>b) (fun _=>c) h.1
theorem nS1{n s:Nat}(h:n<s):s-n=s-(n+1)+1:=(Nat.succ_pred_eq_of_pos (Nat.sub_pos_of_lt h)).symm
theorem nS2(s n:Nat):s-1-n=s-(n+1):=by rw[Nat.sub_sub,Nat.add_comm]
theorem nS4{n i k:Nat}(h:n-i=k+1):i<n:=Nat.lt_of_sub_ne_zero (by rw[h];exact Nat.succ_ne_zero _)
theorem nAb{n m:Nat}(h:n<=m)(hm:m<2^40:=by decide):(n:Int).natAbs<2^40:=Hh h hm
theorem bc{p:Prop}(h: ¬p->False):p:=Classical.byContradiction h
theorem cK{A B P:Prop}(h:A/\B)(k:A->B->P):P:=h.elim k
theorem X1{a:Type}{A:a->Prop}{P:Prop}(h:∃x,A x)(k:∀x,A x->P):P:=h.elim k
theorem cD{A B C:Prop}(l:A)(m:B)(n:C):A/\B/\C:=⟨l,m,n⟩
theorem cZ{A B C P:Prop}(h:A/\B/\C)(k:A->B->C->P):P:=h.elim fun l h=>h.elim (k l)
theorem Dv{a:Type}{A:Prop}{B:a->Prop}{P:Prop}(h:A/\∃x,B x)(k:A->∀x,B x->P):P:=h.elim fun l h=>X1 h (k l)
theorem aH{a:Type}{A B:a->Prop}(x:a)(l:A x)(m:B x):∃x,A x/\B x:=⟨x,l,m⟩
theorem aP{a:Type}{A B:a->Prop}{P:Prop}(h:∃x,A x/\B x)(k:∀x,A x->B x->P):P:=h.elim fun x h=>h.elim (k x)
theorem I2{a b:Type}{A:a->b->Prop}(x:a)(y:b)(l:A x y):∃x y,A x y:=⟨x,y,l⟩
theorem X2{a b:Type}{A:a->b->Prop}{P:Prop}(h:∃x y,A x y)(k:∀x y,A x y->P):P:=h.elim fun x h=>X1 h (k x)
theorem sW{A B C D:Prop}(l:A)(m:B)(n:C)(o:D):A/\B/\C/\D:=⟨l,cD m n o⟩
theorem pP{A B C D P:Prop}(h:A/\B/\C/\D)(k:A->B->C->D->P):P:=h.elim fun l h=>cZ h (k l)
theorem nF{a:Type}{A:Prop}{B C:a->Prop}(l:A)(x:a)(m:B x)(n:C x):A/\∃x,B x/\C x:=⟨l,aH x m n⟩
theorem tS{a:Type}{A:Prop}{B C:a->Prop}{P:Prop}(h:A/\∃x,B x/\C x)(k:A->∀x,B x->C x->P):P:=h.elim fun l h=>aP h (k l)
theorem cY{a:Type}{A B C:a->Prop}(x:a)(l:A x)(m:B x)(n:C x):∃x,A x/\B x/\C x:=⟨x,cD l m n⟩
theorem eR{a:Type}{A B C:a->Prop}{P:Prop}(h:∃x,A x/\B x/\C x)(k:∀x,A x->B x->C x->P):P:=h.elim fun x h=>cZ h (k x)
theorem xX{a b:Type}{A:a->Prop}{B:a->b->Prop}(x:a)(l:A x)(y:b)(m:B x y):∃x,A x/\∃y,B x y:=⟨x,l,y,m⟩
theorem Dw{a b:Type}{A:a->Prop}{B:a->b->Prop}{P:Prop}(h:∃x,A x/\∃y,B x y)(k:∀x,A x->∀y,B x y->P):P:=h.elim fun x h=>Dv h (k x)
theorem hN{a b:Type}{A B:a->b->Prop}(x:a)(y:b)(l:A x y)(m:B x y):∃x y,A x y/\B x y:=⟨x,aH y l m⟩
theorem fG{a b:Type}{A B:a->b->Prop}{P:Prop}(h:∃x y,A x y/\B x y)(k:∀x y,A x y->B x y->P):P:=h.elim fun x h=>aP h (k x)
theorem I3{a b c:Type}{A:a->b->c->Prop}(x:a)(y:b)(z:c)(l:A x y z):∃x y z,A x y z:=⟨x,I2 y z l⟩
theorem X3{a b c:Type}{A:a->b->c->Prop}{P:Prop}(h:∃x y z,A x y z)(k:∀x y z,A x y z->P):P:=h.elim fun x h=>X2 h (k x)
theorem Wq{A B C D E:Prop}(l:A)(m:B)(n:C)(o:D)(p:E):A/\B/\C/\D/\E:=⟨l,sW m n o p⟩
theorem Dx{A B C D E P:Prop}(h:A/\B/\C/\D/\E)(k:A->B->C->D->E->P):P:=h.elim fun l h=>pP h (k l)
theorem zX{a:Type}{A B:Prop}{C D:a->Prop}(l:A)(m:B)(x:a)(n:C x)(o:D x):A/\B/\∃x,C x/\D x:=⟨l,nF m x n o⟩
theorem Nr{a:Type}{A B:Prop}{C D:a->Prop}{P:Prop}(h:A/\B/\∃x,C x/\D x)(k:A->B->∀x,C x->D x->P):P:=h.elim fun l h=>tS h (k l)
theorem zY{a b:Type}{A:Prop}{B C:a->b->Prop}{P:Prop}(h:A/\∃x y,B x y/\C x y)(k:A->∀x y,B x y->C x y->P):P:=h.elim fun l h=>fG h (k l)
theorem zZ{a:Type}{A B C D:a->Prop}(x:a)(l:A x)(m:B x)(n:C x)(o:D x):∃x,A x/\B x/\C x/\D x:=⟨x,sW l m n o⟩
theorem Ka{a:Type}{A B C D:a->Prop}{P:Prop}(h:∃x,A x/\B x/\C x/\D x)(k:∀x,A x->B x->C x->D x->P):P:=h.elim fun x h=>pP h (k x)
theorem dB{a b:Type}{A B:a->Prop}{C:a->b->Prop}(x:a)(l:A x)(m:B x)(y:b)(n:C x y):∃x,A x/\B x/\∃y,C x y:=⟨x,l,m,y,n⟩
theorem Nt{a b:Type}{A B:a->Prop}{C:a->b->Prop}{P:Prop}(h:∃x,A x/\B x/\∃y,C x y)(k:∀x,A x->B x->∀y,C x y->P):P:=h.elim fun x h=>h.elim fun l h=>Dv h (k x l)
theorem tT{a b:Type}{A:a->Prop}{B C:a->b->Prop}(x:a)(l:A x)(y:b)(m:B x y)(n:C x y):∃x,A x/\∃y,B x y/\C x y:=⟨x,nF l y m n⟩
theorem xY{a b c:Type}{A:a->Prop}{B:a->b->c->Prop}(x:a)(l:A x)(y:b)(z:c)(m:B x y z):∃x,A x/\∃y z,B x y z:=⟨x,l,I2 y z m⟩
theorem Dy{a b c:Type}{A:a->Prop}{B:a->b->c->Prop}{P:Prop}(h:∃x,A x/\∃y z,B x y z)(k:∀x,A x->∀y z,B x y z->P):P:=h.elim fun x h=>h.elim fun l h=>X2 h (k x l)
theorem dW{a b:Type}{A B C:a->b->Prop}(x:a)(y:b)(l:A x y)(m:B x y)(n:C x y):∃x y,A x y/\B x y/\C x y:=⟨x,cY y l m n⟩
theorem cJ{a b:Type}{A B C:a->b->Prop}{P:Prop}(h:∃x y,A x y/\B x y/\C x y)(k:∀x y,A x y->B x y->C x y->P):P:=h.elim fun x h=>eR h (k x)
theorem nA{a b c:Type}{A B:a->b->c->Prop}(x:a)(y:b)(z:c)(l:A x y z)(m:B x y z):∃x y z,A x y z/\B x y z:=⟨x,hN y z l m⟩
theorem sX{a b c:Type}{A B:a->b->c->Prop}{P:Prop}(h:∃x y z,A x y z/\B x y z)(k:∀x y z,A x y z->B x y z->P):P:=h.elim fun x h=>fG h (k x)
theorem I4{a b c d:Type}{A:a->b->c->d->Prop}(x:a)(y:b)(z:c)(u:d)(l:A x y z u):∃x y z u,A x y z u:=⟨x,I3 y z u l⟩
theorem X4{a b c d:Type}{A:a->b->c->d->Prop}{P:Prop}(h:∃x y z u,A x y z u)(k:∀x y z u,A x y z u->P):P:=h.elim fun x h=>X3 h (k x)
theorem Aa{a:Type}{A B:Prop}{C D E:a->Prop}(l:A)(m:B)(x:a)(n:C x)(o:D x)(p:E x):A/\B/\∃x,C x/\D x/\E x:=⟨l,m,cY x n o p⟩
theorem tU{a:Type}{A B:Prop}{C D E:a->Prop}{P:Prop}(h:A/\B/\∃x,C x/\D x/\E x)(k:A->B->∀x,C x->D x->E x->P):P:=h.elim fun l h=>h.elim fun m h=>eR h (k l m)
theorem qF{a:Type}{A:Prop}{B C D E:a->Prop}(l:A)(x:a)(m:B x)(n:C x)(o:D x)(p:E x):A/\∃x,B x/\C x/\D x/\E x:=⟨l,zZ x m n o p⟩
theorem tV{a:Type}{A:Prop}{B C D E:a->Prop}{P:Prop}(h:A/\∃x,B x/\C x/\D x/\E x)(k:A->∀x,B x->C x->D x->E x->P):P:=h.elim fun l h=>Ka h (k l)
theorem Nu{a b:Type}{A:Prop}{B C D:a->b->Prop}(l:A)(x:a)(y:b)(m:B x y)(n:C x y)(o:D x y):A/\∃x y,B x y/\C x y/\D x y:=⟨l,dW x y m n o⟩
theorem aBf{a:Type}{A B C D E:a->Prop}(x:a)(l:A x)(m:B x)(n:C x)(o:D x)(p:E x):∃x,A x/\B x/\C x/\D x/\E x:=⟨x,Wq l m n o p⟩
theorem Nv{a:Type}{A B C D E:a->Prop}{P:Prop}(h:∃x,A x/\B x/\C x/\D x/\E x)(k:∀x,A x->B x->C x->D x->E x->P):P:=h.elim fun x h=>Dx h (k x)
theorem Ab{a b c:Type}{A:a->Prop}{B C:a->b->c->Prop}(x:a)(l:A x)(y:b)(z:c)(m:B x y z)(n:C x y z):∃x,A x/\∃y z,B x y z/\C x y z:=⟨x,l,hN y z m n⟩
theorem Ac{a b c:Type}{A:a->Prop}{B C:a->b->c->Prop}{P:Prop}(h:∃x,A x/\∃y z,B x y z/\C x y z)(k:∀x,A x->∀y z,B x y z->C x y z->P):P:=h.elim fun x h=>zY h (k x)
theorem fH{a b:Type}{A B C D:a->b->Prop}(x:a)(y:b)(l:A x y)(m:B x y)(n:C x y)(o:D x y):∃x y,A x y/\B x y/\C x y/\D x y:=⟨x,zZ y l m n o⟩
theorem oZ{a b:Type}{A B C D:a->b->Prop}{P:Prop}(h:∃x y,A x y/\B x y/\C x y/\D x y)(k:∀x y,A x y->B x y->C x y->D x y->P):P:=h.elim fun x h=>Ka h (k x)
theorem Wr{a b c:Type}{A B C:a->b->c->Prop}(x:a)(y:b)(z:c)(l:A x y z)(m:B x y z)(n:C x y z):∃x y z,A x y z/\B x y z/\C x y z:=⟨x,dW y z l m n⟩
theorem Kb{a b c:Type}{A B C:a->b->c->Prop}{P:Prop}(h:∃x y z,A x y z/\B x y z/\C x y z)(k:∀x y z,A x y z->B x y z->C x y z->P):P:=h.elim fun x h=>cJ h (k x)
theorem xZ{a b c d:Type}{A B:a->b->c->d->Prop}(x:a)(y:b)(z:c)(u:d)(l:A x y z u)(m:B x y z u):∃x y z u,A x y z u/\B x y z u:=⟨x,nA y z u l m⟩
theorem Nw{a b c d:Type}{A B:a->b->c->d->Prop}{P:Prop}(h:∃x y z u,A x y z u/\B x y z u)(k:∀x y z u,A x y z u->B x y z u->P):P:=h.elim fun x h=>sX h (k x)
theorem I5{a b c d e:Type}{A:a->b->c->d->e->Prop}(x:a)(y:b)(z:c)(u:d)(v:e)(l:A x y z u v):∃x y z u v,A x y z u v:=⟨x,I4 y z u v l⟩
theorem X5{a b c d e:Type}{A:a->b->c->d->e->Prop}{P:Prop}(h:∃x y z u v,A x y z u v)(k:∀x y z u v,A x y z u v->P):P:=h.elim fun x h=>X4 h (k x)
theorem Dz{a b:Type}{A B C D E:a->b->Prop}(x:a)(y:b)(l:A x y)(m:B x y)(n:C x y)(o:D x y)(p:E x y):∃x y,A x y/\B x y/\C x y/\D x y/\E x y:=⟨x,aBf y l m n o p⟩
theorem Ws{a b:Type}{A B C D E:a->b->Prop}{P:Prop}(h:∃x y,A x y/\B x y/\C x y/\D x y/\E x y)(k:∀x y,A x y->B x y->C x y->D x y->E x y->P):P:=h.elim fun x h=>Nv h (k x)
theorem wF{a b c:Type}{A B C D:a->b->c->Prop}(x:a)(y:b)(z:c)(l:A x y z)(m:B x y z)(n:C x y z)(o:D x y z):∃x y z,A x y z/\B x y z/\C x y z/\D x y z:=⟨x,fH y z l m n o⟩
theorem Ad{a b c:Type}{A B C D:a->b->c->Prop}{P:Prop}(h:∃x y z,A x y z/\B x y z/\C x y z/\D x y z)(k:∀x y z,A x y z->B x y z->C x y z->D x y z->P):P:=h.elim fun x h=>oZ h (k x)
theorem aDS{a b c d:Type}{A B C:a->b->c->d->Prop}(x:a)(y:b)(z:c)(u:d)(l:A x y z u)(m:B x y z u)(n:C x y z u):∃x y z u,A x y z u/\B x y z u/\C x y z u:=⟨x,Wr y z u l m n⟩
theorem Wt{a b c d:Type}{A B C:a->b->c->d->Prop}{P:Prop}(h:∃x y z u,A x y z u/\B x y z u/\C x y z u)(k:∀x y z u,A x y z u->B x y z u->C x y z u->P):P:=h.elim fun x h=>Kb h (k x)
theorem Nx{a b c d e:Type}{A B:a->b->c->d->e->Prop}(x:a)(y:b)(z:c)(u:d)(v:e)(l:A x y z u v)(m:B x y z u v):∃x y z u v,A x y z u v/\B x y z u v:=⟨x,xZ y z u v l m⟩
theorem Wu{a b c d e:Type}{A B:a->b->c->d->e->Prop}{P:Prop}(h:∃x y z u v,A x y z u v/\B x y z u v)(k:∀x y z u v,A x y z u v->B x y z u v->P):P:=h.elim fun x h=>Nw h (k x)
theorem Ea{a b c:Type}{A B C D E:a->b->c->Prop}(x:a)(y:b)(z:c)(l:A x y z)(m:B x y z)(n:C x y z)(o:D x y z)(p:E x y z):∃x y z,A x y z/\B x y z/\C x y z/\D x y z/\E x y z:=⟨x,Dz y z l m n o p⟩
theorem aDT{a b c:Type}{A B C D E:a->b->c->Prop}{P:Prop}(h:∃x y z,A x y z/\B x y z/\C x y z/\D x y z/\E x y z)(k:∀x y z,A x y z->B x y z->C x y z->D x y z->E x y z->P):P:=h.elim fun x h=>Ws h (k x)
theorem aDU{a b c d:Type}{A B C D:a->b->c->d->Prop}(x:a)(y:b)(z:c)(u:d)(l:A x y z u)(m:B x y z u)(n:C x y z u)(o:D x y z u):∃x y z u,A x y z u/\B x y z u/\C x y z u/\D x y z u:=⟨x,wF y z u l m n o⟩
theorem aCv{a b c d e g:Type}{A B:a->b->c->d->e->g->Prop}(x:a)(y:b)(z:c)(u:d)(v:e)(w:g)(l:A x y z u v w)(m:B x y z u v w):∃x y z u v w,A x y z u v w/\B x y z u v w:=⟨x,Nx y z u v w l m⟩
theorem aDV{a b c d e g:Type}{A B:a->b->c->d->e->g->Prop}{P:Prop}(h:∃x y z u v w,A x y z u v w/\B x y z u v w)(k:∀x y z u v w,A x y z u v w->B x y z u v w->P):P:=h.elim fun x h=>Wu h (k x)
theorem aCw{a b c:Type}{A B C D E F:a->b->c->Prop}(x:a)(y:b)(z:c)(l:A x y z)(m:B x y z)(n:C x y z)(o:D x y z)(p:E x y z)(q:F x y z):∃x y z,A x y z/\B x y z/\C x y z/\D x y z/\E x y z/\F x y z:=⟨x,y,z,l,Wq m n o p q⟩
theorem aCx{a b c:Type}{A B C D E F:a->b->c->Prop}{P:Prop}(h:∃x y z,A x y z/\B x y z/\C x y z/\D x y z/\E x y z/\F x y z)(k:∀x y z,A x y z->B x y z->C x y z->D x y z->E x y z->F x y z->P):P:=h.elim fun x h=>h.elim fun y h=>h.elim fun z h=>h.elim fun l h=>Dx h (k x y z l)
end Mine
namespace Mine
open PySem
abbrev D:=PyData
inductive C where
 |lst (xs:List D)
 |di (l9:List (Int×D))
 |ds (l9:List (Str×D))
 |dt (ks:List (Int×Int))
inductive AV where
 |d (x:D)
 |c (c:C)
inductive V where
 |d (x:D)
 |c (c:C)
 |inst (cls:Nat) (n4:List (Nat×AV))
abbrev Sg:=List (Option V)
inductive BOp where
 |add|sub|mul|fdiv|mod|pow
inductive Pl where
 |v (i:Nat)
 |a (i id:Nat)
inductive Tgt where
 |n (i:Nat)
 |t (is:List Nat)
mutual
inductive Ex where
 |k (c:D)
 |neg (i:Nat)
 |v (i:Nat)
 |at (i id:Nat)
 |gl (g:Nat)
 |sh (i:Nat)
 |bin (o:BOp) (a b:Ex)
 |rep (a b:Ex)
 |tup (es:List Ex)
 |lst (es:List Ex)
 |dct (ks:List Str) (es:List Ex)
 |emp (k:Nat)
 |sub (a i:Ex)
 |subP (p:Pl) (i:Ex)
 |slTo (a i:Ex)
 |slToP (p:Pl) (i:Ex)
 |slFromP (p:Pl) (i:Ex)
 |len (a:Ex)
 |lenP (p:Pl)
 |ite (t:Tx) (a b:Ex)
 |cmp (o:CmpOp) (a b:Ex)
 |cmpP (o:CmpOp) (p:Pl) (b:Ex)
 |inP (a:Ex) (p:Pl)
 |comp (n:Nat) (l8:Ex) (t:Tgt) (it:It) (ifs:List Tx)
 |comp2 (n:Nat) (l8:Ex) (t:Tgt) (it:It) (ifs:List Tx) (t2:Tgt) (it2:It) (m8:List Tx)
 |frz (a:Ex)
 |call (f:Nat) (as:List Arg)
 |meth (f:Nat) (i:Nat) (as:List Arg)
 |sup (f:Nat) (i:Nat) (as:List Arg)
 |new (c:Nat) (es:List Ex)
 |max2 (a b:Ex)
 |min2 (a b:Ex)
 |tupleOf (a:Ex)
 |intOf (a:Ex)
 |listOf (a:Ex)
 |sortedSet (a:Ex)
 |sortedKeys (i:Nat)
 |dictPairs (a:Ex)
 |dictCopy (a:Ex)
 |popP (p:Pl)
inductive Arg where
 |e (x:Ex)
 |r (i:Nat)
inductive Tx where
 |not (t:Tx)
 |and (ts:List Tx)
 |or (ts:List Tx)
 |cmp (o:CmpOp) (a b:Ex)
 |cmpP (o:CmpOp) (p:Pl) (b:Ex)
 |chain (a:Ex) (o:CmpOp) (b:Ex) (o':CmpOp) (c:Ex)
 |val (e:Ex)
inductive It where
 |seq (e:Ex)
 |r1 (a:Ex)
 |r2 (a b:Ex)
 |rd (a b:Ex)
 |rev (e:Ex)
end
inductive St where
 |asg (i:Nat) (e:Ex)
 |asgT (is:List Nat) (e:Ex)
 |masg (is:List Nat) (es:List Ex)
 |setAt (i id:Nat) (e:Ex)
 |setP (p:Pl) (i:Ex) (e:Ex)
 |app (p:Pl) (e:Ex)
 |extR (p:Pl) (a b:Ex)
 |rev (p:Pl)
 |expr (e:Ex)
 |sh (i:Nat)
 |ite (t:Tx) (a b:List St)
 |for_ (t:Tgt) (it:It) (body:List St)
 |while_ (t:Tx) (body:List St)
 |ret (e:Ex)
theorem Arg.r_inj{i j:Nat}(h:Arg.r i=Arg.r j):i=j:=by cases h;rfl
theorem V.inst_inj{c d:Nat}{a b:List (Nat×AV)}(h:V.inst c a=V.inst d b):c=d/\a=b:=by cases h;exact⟨rfl,rfl⟩
section
variable {α β γ:Type}{P:Prop}
noncomputable def iD(x:D)(k:Int->Option α):Option α:=match x with| .int n=>k n|_=>none
noncomputable def lD(x:D)(k:List D->Option α):Option α:=match x with| .list xs=>k xs|_=>none
noncomputable def tD(x:D)(k:List D->Option α):Option α:=match x with| .tuple xs=>k xs|_=>none
noncomputable def mD(x:D)(k:List (D×D)->Option α):Option α:=match x with| .dict xs=>k xs|_=>none
noncomputable def sD(x:D)(k:Str->Option α):Option α:=match x with| .str n=>k n|_=>none
noncomputable def b2(o:Option (α×β))(k:α->β->Option γ):Option γ:=match o with|some p=>k p.1 p.2|none=>none
noncomputable def boD(x:D)(k:Bool->Option α):Option α:=match x with| .bool n=>k n|_=>none
noncomputable def vD(v:V)(k:D->Option α):Option α:=match v with| .d x=>k x|_=>none
noncomputable def vC(v:V)(k:C->Option α):Option α:=match v with| .c x=>k x|_=>none
noncomputable def vI(v:V)(k:Nat->List (Nat×AV)->Option α):Option α:=match v with| .inst c a=>k c a|_=>none
def gD(o:Option V)(k:D->Option α):Option α:=match o with|some v=>vD v k|none=>none
def gC(o:Option V)(k:C->Option α):Option α:=match o with|some v=>vC v k|none=>none
def gI(o:Option V)(k:Nat->List (Nat×AV)->Option α):Option α:=match o with|some v=>vI v k|none=>none
def bD(o:Option (V×β))(k:D->β->Option α):Option α:=match o with|some p=>vD p.1 fun x=>k x p.2|none=>none
def bC(o:Option (V×β))(k:C->β->Option α):Option α:=match o with|some p=>vC p.1 fun x=>k x p.2|none=>none
def bI(o:Option (V×β))(k:Int->β->Option α):Option α:=bD o fun x s=>iD x fun n=>k n s
def bL(o:Option (V×β))(k:List D->β->Option α):Option α:=bD o fun x s=>lD x fun n=>k n s
noncomputable def cL(c:C)(k:List D->Option α):Option α:=match c with| .lst xs=>k xs|_=>none
def oL(o:Option C)(k:List D->Option α):Option α:=match o with|some c=>cL c k|none=>none
noncomputable def cI(c:C)(k:List (Int×D)->Option α):Option α:=match c with| .di xs=>k xs|_=>none
noncomputable def cT(c:C)(k:List (Int×Int)->Option α):Option α:=match c with| .dt xs=>k xs|_=>none
theorem nk{x:α}(h:none=some x):P:=nomatch h
theorem eZ{x:D}{k:Int->Option α}{r:α}(h:iD x k=some r)(f:∀n,x= .int n->k n=some r->P):P:=by cases x with|int n=>exact f n rfl h|_=>exact nk h
theorem Wv{x:D}{k:List D->Option α}{r:α}(h:lD x k=some r)(f:∀n,x= .list n->k n=some r->P):P:=by cases x with|list n=>exact f n rfl h|_=>exact nk h
theorem qG{x:D}{k:List D->Option α}{r:α}(h:tD x k=some r)(f:∀n,x= .tuple n->k n=some r->P):P:=by cases x with|tuple n=>exact f n rfl h|_=>exact nk h
theorem yA{x:D}{k:List (D×D)->Option α}{r:α}(h:mD x k=some r)(f:∀n,x= .dict n->k n=some r->P):P:=by cases x with|dict n=>exact f n rfl h|_=>exact nk h
theorem Ny{x:D}{k:Bool->Option α}{r:α}(h:boD x k=some r)(f:∀n,x= .bool n->k n=some r->P):P:=by cases x with|bool n=>exact f n rfl h|_=>exact nk h
theorem yB{x:D}{k:Str->Option α}{r:α}(h:sD x k=some r)(f:∀n,x= .str n->k n=some r->P):P:=by cases x with|str n=>exact f n rfl h|_=>exact nk h
theorem bG{o:Option (α×β)}{k:α->β->Option γ}{r:γ}(h:b2 o k=some r)(f:∀a b,o=some (a,b)->k a b=some r->P):P:=by cases o with|some p=>exact f p.1 p.2 rfl h|none=>exact nk h
theorem Hi{v:V}{k:D->Option α}{r:α}(h:vD v k=some r)(f:∀x,v= .d x->k x=some r->P):P:=by cases v with|d x=>exact f x rfl h|_=>exact nk h
theorem Hj{v:V}{k:C->Option α}{r:α}(h:vC v k=some r)(f:∀x,v= .c x->k x=some r->P):P:=by cases v with|c x=>exact f x rfl h|_=>exact nk h
theorem Ww{v:V}{k:Nat->List (Nat×AV)->Option α}{r:α}(h:vI v k=some r)(f:∀c a,v= .inst c a->k c a=some r->P):P:=by cases v with|inst c a=>exact f c a rfl h|_=>exact nk h
theorem Hk{o:Option V}{k:D->Option α}{r:α}(h:gD o k=some r)(f:∀x,o=some (.d x)->k x=some r->P):P:=by cases o with|some v=>exact Hi h fun x e=>f x (bU some e)|none=>exact nk h
theorem qH{o:Option V}{k:C->Option α}{r:α}(h:gC o k=some r)(f:∀x,o=some (.c x)->k x=some r->P):P:=by cases o with|some v=>exact Hj h fun x e=>f x (bU some e)|none=>exact nk h
theorem sZ{o:Option V}{k:Nat->List (Nat×AV)->Option α}{r:α}(h:gI o k=some r)(f:∀c a,o=some (.inst c a)->k c a=some r->P):P:=by cases o with|some v=>exact Ww h fun c a e=>f c a (bU some e)|none=>exact nk h
theorem bE{o:Option (V×β)}{k:D->β->Option α}{r:α}(h:bD o k=some r)(f:∀x s,o=some (.d x,s)->k x s=some r->P):P:=by cases o with|some p=>exact Hi h fun x e=>f x p.2 (bU (fun z=>some (z,p.2)) e)|none=>exact nk h
theorem yC{o:Option (V×β)}{k:C->β->Option α}{r:α}(h:bC o k=some r)(f:∀x s,o=some (.c x,s)->k x s=some r->P):P:=by cases o with|some p=>exact Hj h fun x e=>f x p.2 (bU (fun z=>some (z,p.2)) e)|none=>exact nk h
theorem eM{o:Option (V×β)}{k:Int->β->Option α}{r:α}(h:bI o k=some r)(f:∀x s,o=some (.d (.int x),s)->k x s=some r->P):P:=
 bE h fun _ s h1 h=>eZ h fun n e=>f n s (e▸h1)
theorem yD{o:Option (V×β)}{k:List D->β->Option α}{r:α}(h:bL o k=some r)(f:∀x s,o=some (.d (.list x),s)->k x s=some r->P):P:=
 bE h fun _ s h1 h=>Wv h fun n e=>f n s (e▸h1)
theorem yE{c:C}{k:List D->Option α}{r:α}(h:cL c k=some r)(f:∀x,c= .lst x->k x=some r->P):P:=by cases c with|lst x=>exact f x rfl h|_=>exact nk h
theorem jX{o:Option C}{k:List D->Option α}{r:α}(h:oL o k=some r)(f:∀x,o=some (.lst x)->k x=some r->P):P:=by cases o with|some c=>exact yE h fun x e=>f x (bU some e)|none=>exact nk h
theorem Wx{c:C}{k:List (Int×D)->Option α}{r:α}(h:cI c k=some r)(f:∀x,c= .di x->k x=some r->P):P:=by cases c with|di x=>exact f x rfl h|_=>exact nk h
theorem Wy{c:C}{k:List (Int×Int)->Option α}{r:α}(h:cT c k=some r)(f:∀x,c= .dt x->k x=some r->P):P:=by cases c with|dt x=>exact f x rfl h|_=>exact nk h
theorem Eb{p:Prop}[Decidable p]{x:Option α}{r:α}(h:(if p then x else none)=some r):p/\x=some r:=Option.ite_none_right_eq_some.mp h
theorem aQ{p:Prop}[Decidable p]{x:Option α}{r:α}(h:(if p then x else none)=some r)(f:p->x=some r->P):P:=(Eb h).elim f
theorem aO{o:Option α}{f:α->β}{r:β}(h:o.map f=some r)(g:∀a,o=some a->f a=r->P):P:=by cases o with|some a=>exact g a rfl (aK h)|none=>exact nk h
theorem bN{o:Option α}{f:α->Option β}{r:β}(h:o.bind f=some r)(g:∀a,o=some a->f a=some r->P):P:=by cases o with|some a=>exact g a rfl h|none=>exact nk h
theorem yF{a c:α}{b d:β}(h:some (a,b)=some (c,d)):a=c/\b=d:=eC (aK h)
theorem aU{a c:α}{b d:β}(h:some (a,b)=some (c,d))(f:a=c->b=d->P):P:=(yF h).elim f
theorem aAH{a b r:α}(h:(bif true then a else b)=r):a=r:=h
theorem nn{x:α}(h:none=some x):False:=nomatch h
end
def nG:List D->Option (List Int)
 |[]=>some []
 |x::r=>iD x fun i=>(nG r).map (i:: ·)
def eD:List (D×D)->Option (List (Int×D))
 |[]=>some []
 |p::r=>iD p.1 fun i=>(eD r).map ((i,p.2):: ·)
noncomputable def okD(d:D):Bool:=d.canLay0&&decide (d.depth<=64)
noncomputable def jW(k:Int):List (Int×D)->Option D
 |[]=>none
 |(j,d)::r=>if j=k then some d else jW k r
noncomputable def Ae(k:Str):List (Str×D)->Option D
 |[]=>none
 |(j,d)::r=>if j=k then some d else Ae k r
noncomputable def jO(k:Int)(x:D):List (Int×D)->List (Int×D)
 |[]=>[(k,x)]
 |(j,d)::r=>if j=k then(j,x)::r else(j,d)::jO k x r
noncomputable def Nz(k:Str)(x:D):List (Str×D)->List (Str×D)
 |[]=>[(k,x)]
 |(j,d)::r=>if j=k then(j,x)::r else(j,d)::Nz k x r
noncomputable def sY(k:Int×Int)(ks:List (Int×Int)):List (Int×Int):=if k∈ks then ks else ks++[k]
noncomputable def aI(l9:List (Int×D)):D:= .dict (l9.map fun p=>(.int p.1,p.2))
def Kc(b:List (Int×D))(p:Int×D):Bool:=match jW p.1 b with|some y=>PyData.eqv p.2 y|none=>false
def kZ(a b:List (Int×D)):Bool:=a.length==b.length&&a.all (Kc b)
def iB(a:List (Int×D)):Bool:=a.all fun p=>okD p.2
def dictKeys(x:D):Option (List (Int×D)):=match x with| .dict a=>eD a|_=>none
def eqD(x y:D):Option Bool:=match dictKeys x with
 |some a=>(dictKeys y).bind fun b=>if(iB a&&iB b)=true then some (kZ a b) else none
 |none=>if(okD x&&okD y)=true then some (PyData.eqv x y) else none
noncomputable def isNone(x:D):Bool:=match x with| .none=>true|_=>false
def isD(x y:D):Option Bool:=if isNone y=true then some (isNone x) else none
noncomputable def Oa(x:D):Option (List D):=match x with
 | .list xs=>some xs
 | .tuple xs=>some xs
 |_=>none
def inD(x y:D):Option Bool:=(Oa y).bind fun xs=>if(okD x&&xs.all okD)=true then some (xs.any fun y=>PyData.eqv y x) else none
def eL(o:CmpOp)(a b:D):Option Bool:=match o with
 | .Eq=>eqD a b
 | .NotEq=>(eqD a b).map (!·)
 | .Lt=>iD a fun a=>iD b fun b=>some (decide (a<b))
 | .LtE=>iD a fun a=>iD b fun b=>some (decide (a<=b))
 | .Gt=>iD a fun a=>iD b fun b=>some (decide (b<a))
 | .GtE=>iD a fun a=>iD b fun b=>some (decide (b<=a))
 | .Is=>isD a b
 | .IsNot=>(isD a b).map (!·)
 | .In=>inD a b
 | .NotIn=>(inD a b).map (!·)
noncomputable def aCy(x:D):Option D:=match x with
 | .list xs=>if xs.length<=1000000 then some (.tuple xs) else none
 | .tuple xs=>some (.tuple xs)
 |_=>none
def aCz(a b:D):Option D:=match a with
 | .int a=>iD b fun b=>some (.int (a+b))
 | .tuple a=>tD b fun b=>if a.length+b.length<=1000000 then some (.tuple (a++b)) else none
 |_=>none
def Af(o:BOp)(a b:D):Option D:=match o with
 | .add=>aCz a b
 | .sub=>iD a fun a=>iD b fun b=>some (.int (a-b))
 | .mul=>iD a fun a=>iD b fun b=>if a.natAbs<2^40/\b.natAbs<2^40 then some (.int (a*b)) else none
 | .fdiv=>iD a fun a=>iD b fun b=>if b≠0/\a.natAbs<2^40/\b.natAbs<2^40 then some (.int (Int.fdiv a b)) else none
 | .mod=>iD a fun a=>iD b fun b=>if b≠0 then some (.int (Int.fmod a b)) else none
 | .pow=>iD a fun a=>iD b fun b=>if a=2/\0<=b/\b<60 then some (.int (2^b.toNat)) else none
noncomputable def lW(xs:List D)(k:Int):Option D:=if 0<=k/\k<2^40 then xs[k.toNat]? else none
def nB(x y:D):Option D:=match x with
 | .list xs=>iD y fun k=>lW xs k
 | .tuple xs=>iD y fun k=>lW xs k
 | .dict l9=>iD y fun k=>(eD l9).bind fun a=>jW k a
 |_=>none
def aDW(c:C)(y:D):Option D:=match c with
 | .lst xs=>iD y fun k=>lW xs k
 | .di l9=>iD y fun k=>jW k l9
 | .ds l9=>sD y fun k=>Ae k l9
 |_=>none
def Ob(x:D):Option D:=(Oa x).bind fun xs=>if xs.length<=1000000 then some (.int xs.length) else none
noncomputable def qI(xs:List Int):List Int:=[0,1,2,3].filter fun k=>xs.contains k
noncomputable def nH(xs:List Int):Bool:=xs.all fun k=>decide (0<=k)&&decide (k<=3)
noncomputable def ltP(a b:Int×Int):Bool:=a.1<b.1||(a.1==b.1&&a.2<b.2)
noncomputable def yG{α:Type}(f:Nat->Nat->Bool):PySem.W.KasT α->α
 | .ret a=>a
 | .ask i j k=>yG f (k (f i j))
def nJ(ks:List (Int×Int)):List (Int×Int):=
 if ks.length<2 then ks else(yG (fun i j=>ltP (ks.getD i (0,0)) (ks.getD j (0,0))) (PySem.W.kas_sort ks.length)).toList.map fun i=>ks.getD i (0,0)
noncomputable def sNe:Str:=Str.ofString "!="
noncomputable def sEq:Str:=Str.ofString "="
noncomputable def sLe:Str:=Str.ofString "<="
noncomputable def sGe:Str:=Str.ofString ">="
noncomputable def cP:Str:=Str.ofString "stands"
noncomputable def kG:Str:=Str.ofString "wrong"
noncomputable def iY:Str:=Str.ofString "fails"
noncomputable def oK:Str:=Str.ofString "values"
noncomputable def lX:Str:=Str.ofString "told"
noncomputable def sK:Str:=Str.ofString "k"
def lP(k:Int×Int):D:= .tuple [.int k.1,.str sNe,.int k.2]
def Oc(x:D):Option (Int×Int):=tD x fun l=>match l with
 |[]=>none
 |a::l=>match l with
  |[]=>none
  |b::l=>match l with
   |[]=>none
   |c::l=>if l.length=0 then iD a fun x=>sD b fun s=>iD c fun n=>if s=sNe then some (x,n) else none else none
def mI:C->Option D
 | .lst xs=>some (.list xs)
 | .di l9=>some (aI l9)
 |_=>none
noncomputable def Sg.get(σ:Sg)(i:Nat):Option V:=(σ[i]?).join
noncomputable def Sg.put(σ:Sg)(i:Nat)(v:V):Sg:=σ.set i (some v)
noncomputable def jJ(n4:List (Nat×AV))(id:Nat):Option AV:=
 match n4 with
 |[]=>none
 |(j,x)::r=>if j=id then some x else jJ r id
noncomputable def gM(id:Nat)(x:AV):List (Nat×AV)->List (Nat×AV)
 |[]=>[(id,x)]
 |(j,y)::r=>if j=id then(j,x)::r else(j,y)::gM id x r
noncomputable def AV.toV(x:AV):V:=match x with| .d y=> .d y| .c cc=> .c cc
def Pl.get(σ:Sg)(p:Pl):Option V:=match p with
 | .v i=>σ.get i
 | .a i id=>gI (σ.get i) fun _ n4=>(jJ n4 id).map AV.toV
noncomputable def aC{α:Type}(x:AV)(k:Option α):Option α:=match x with| .c _=>k|_=>none
theorem Wz{α:Type}{x:AV}{k:Option α}{r:α}(h:aC x k=some r){P:Prop}(f:(∃c,x= .c c)->k=some r->P):P:=by cases x with|c c=>exact f ⟨c,rfl⟩ h|_=>exact nk h
def Pl.put(σ:Sg)(c:C)(p:Pl):Option Sg:=match p with
 | .v i=>gC (σ.get i) fun _=>some (σ.put i (.c c))
 | .a i id=>gI (σ.get i) fun cl n4=>(jJ n4 id).bind fun x=>aC x (some (σ.put i (.inst cl (gM id (.c c) n4))))
def Pl.cont(σ:Sg)(p:Pl):Option C:=gC (p.get σ) some
def Kd(v:V)(k:D):Option D:=match v with
 | .d x=>nB x k
 | .c c=>aDW c k
 |_=>none
noncomputable def tru(x:D):Bool:=match x with| .bool b=>b|_=>false
def yH(c:C)(k x:D):Option C:=match c with
 | .lst xs=>iD k fun k=>if 0<=k/\k<2^40/\k.toNat<xs.length then some (.lst (xs.set k.toNat x)) else none
 | .di l9=>iD k fun k=>if l9.length<=1000 then some (.di (jO k x l9)) else none
 | .ds l9=>sD k fun k=>if l9.length<=1000 then some (.ds (Nz k x l9)) else none
 | .dt ks=>if tru x=true/\ks.length<=1000 then(Oc k).map fun t=> .dt (sY t ks) else none
def Ec(o:CmpOp)(c:C)(x:D):Option Bool:=cI c fun a=>match o with
 | .Eq=>mD x fun b=>eqD (aI a) (.dict b)
 | .NotEq=>if isNone x=true then some true else mD x fun b=>(eqD (aI a) (.dict b)).map (!·)
 |_=>none
def inC(x:D)(c:C):Option Bool:=cL c fun xs=>inD x (.list xs)
def aAI(x:D):Option (Int×D):=tD x fun l=>match l with
 |[]=>none
 |a::l=>match l with
  |[]=>none
  |b::l=>if l.length=0 then iD a fun k=>some (k,b) else none
def lA:List D->Option (List (Int×D))
 |[]=>some []
 |p::r=>(aAI p).bind fun q=>(lA r).map (q:: ·)
def iS(σ:Sg)(t:Tgt)(x:D):Option Sg:=match t with
 | .n i=>some (σ.put i (.d x))
 | .t is=>tD x fun xs=>if is.length=xs.length then some ((is.zip xs).foldl (fun s p=>s.put p.1 (.d p.2)) σ) else none
def putAll(σ:Sg)(is:List Nat)(vs:List V):Option Sg:=match is with
 |[]=>if vs.length=0 then some σ else none
 |i::is=>match vs with
  |[]=>none
  |v::vs=>putAll (σ.put i v) is vs
inductive Flow where
 |next
 |ret (d:D)
noncomputable def nx(fl:Flow)(σ:Sg)(k:Sg->Option (Flow×Sg)):Option (Flow×Sg):=match fl with| .next=>k σ| .ret d=>some (.ret d,σ)
def mJ(x:D):Option (List D):=match x with
 | .list xs=>some xs
 | .tuple xs=>some xs
 | .dict l9=>(eD l9).map fun a=>a.map fun p=> .int p.1
 |_=>none
noncomputable def fA(a b:Int):List D:=(List.range (b-a).toNat).map fun(k:Nat)=> .int (a+(k:Int))
noncomputable def gU(a b:Int):List D:=(List.range (a-b).toNat).map fun(k:Nat)=> .int (a-(k:Int))
def lB(f:Sg->D->Option (Flow×Sg)):List D->Sg->Option (Flow×Sg)
 |[],σ=>some (.next,σ)
 |x::r,σ=>b2 (f σ x) fun fl d7=>nx fl d7 (lB f r)
def lY(f:Sg->D->List D->Option (List D×Sg)):List D->List D->Sg->Option (List D×Sg)
 |[],acc,σ=>some (acc,σ)
 |x::r,acc,σ=>b2 (f σ x acc) fun acc' d7=>lY f r acc' d7
def iZ(n:Nat)(t:Sg->Option (Bool×Sg))(f:Sg->Option (Flow×Sg))(σ:Sg):Option (Flow×Sg):=
 match n with
 |0=>none
 |n+1=>b2 (t σ) fun q d7=>bif q then b2 (f d7) fun fl σ''=>nx fl σ'' (iZ n t f) else some (.next,d7)
def sF(o:Option (V×Sg))(acc:List D):Option (List D×Sg):=bD o fun y s=>if acc.length<=1000000 then some (acc++[y],s) else none
structure Tab where
  gl:Nat->Option D
  fn:Nat->List V->Option (D×List V)
  me:Nat->Nat->Option Nat
  ini:Nat->Option Nat
def tW(as:List Arg)(vs m7:List V)(σ:Sg):Option Sg:=match as with
 |[]=>if vs.length=0/\m7.length=0 then some σ else none
 |x::r=>match vs with
  |[]=>none
  |_::vs=>match m7 with
   |[]=>none
   |v::m7=>tW r vs m7 (match x with| .e _=>σ| .r i=>σ.put i v)
def aCA(o:Option (D×List V)):Option V:=o.bind fun p=>if isNone p.1=true then p.2.head? else none
variable (T:Tab)
mutual
def evE:Ex->Sg->Option (V×Sg)
 | .k c,σ=>some (.d c,σ)
 | .neg i,σ=>some (.d (.int (-(i:Int))),σ)
 | .v i,σ=>gD (σ.get i) fun x=>some (.d x,σ)
 | .at i id,σ=>gD ((Pl.a i id).get σ) fun x=>some (.d x,σ)
 | .gl g,σ=>(T.gl g).map fun x=>(.d x,σ)
 | .sh i,σ=>gC (σ.get i) fun c=>(mI c).map fun x=>(.d x,σ.put i (.d x))
 | .bin o a b,σ=>bD (evE a σ) fun x b9=>bD (evE b b9) fun y c8=>(Af o x y).map fun z=>(.d z,c8)
 | .rep a b,σ=>bD (evE a σ) fun x b9=>bI (evE b b9) fun n c8=>if 0<=n/\n<1000 then some (.c (.lst (List.replicate n.toNat x)),c8) else none
 | .tup es,σ=>(pQ es σ).map fun r=>(.d (.tuple r.1),r.2)
 | .lst es,σ=>(pQ es σ).map fun r=>(.c (.lst r.1),r.2)
 | .dct ks es,σ=>(pQ es σ).map fun r=>(.c (.ds (ks.zip r.1)),r.2)
 | .emp k,σ=>some (.c (if k=0 then .di [] else .dt []),σ)
 | .sub a i,σ=>bD (evE a σ) fun x b9=>bD (evE i b9) fun y c8=>(nB x y).map fun z=>(.d z,c8)
 | .subP p i,σ=>if(p.get σ).isSome=true then bD (evE i σ) fun y b9=>(p.get b9).bind fun v=>(Kd v y).map fun z=>(.d z,b9) else none
 | .slTo a i,σ=>bL (evE a σ) fun xs b9=>bI (evE i b9) fun n c8=>if 0<=n/\n<2^40/\xs.length<=1000000 then some (.c (.lst (xs.take n.toNat)),c8) else none
 | .slToP p i,σ=>if(p.get σ).isSome=true then bI (evE i σ) fun n b9=>oL (p.cont b9) fun xs=>if 0<=n/\n<2^40/\xs.length<=1000000 then some (.c (.lst (xs.take n.toNat)),b9) else none else none
 | .slFromP p i,σ=>if(p.get σ).isSome=true then bI (evE i σ) fun n b9=>oL (p.cont b9) fun xs=>if 0<=n/\n<2^40/\xs.length<=1000000 then some (.c (.lst (xs.drop n.toNat)),b9) else none else none
 | .len a,σ=>bD (evE a σ) fun x b9=>(Ob x).map fun z=>(.d z,b9)
 | .lenP p,σ=>oL (p.cont σ) fun xs=>if xs.length<=1000000 then some (.d (.int xs.length),σ) else none
 | .ite t a b,σ=>b2 (evT t σ) fun q b9=>bif q then evE a b9 else evE b b9
 | .cmp o a b,σ=>bD (evE a σ) fun x b9=>bD (evE b b9) fun y c8=>(eL o x y).map fun z=>(.d (.bool z),c8)
 | .cmpP o p b,σ=>if(p.get σ).isSome=true then bD (evE b σ) fun y b9=>(p.cont b9).bind fun c=>(Ec o c y).map fun z=>(.d (.bool z),b9) else none
 | .inP a p,σ=>bD (evE a σ) fun x b9=>(p.cont b9).bind fun c=>(inC x c).map fun z=>(.d (.bool z),b9)
 | .comp n l8 t it ifs,σ=>b2 (evI it σ) fun xs b9=>b2 (lY (fun s x acc=>(iS s t x).bind fun c5=>b2 (gB ifs c5) fun q c9=>bif q then sF (evE l8 c9) acc else some (acc,c9)) xs [] (b9++List.replicate n none)) fun acc d7=>some (.c (.lst acc),d7.take b9.length)
 | .comp2 n l8 t it ifs t2 it2 m8,σ=>b2 (evI it σ) fun xs b9=>b2 (lY (fun s x acc=>(iS s t x).bind fun c5=>b2 (gB ifs c5) fun q c9=>bif q then
   b2 (evI it2 c9) fun ys g8=>lY (fun s x acc=>(iS s t2 x).bind fun c5=>b2 (gB m8 c5) fun q c9=>bif q then sF (evE l8 c9) acc else some (acc,c9)) ys acc g8
   else some (acc,c9)) xs [] (b9++List.replicate n none)) fun acc d7=>some (.c (.lst acc),d7.take b9.length)
 | .frz a,σ=>bC (evE a σ) fun c b9=>(mI c).map fun x=>(.d x,b9)
 | .call f as,σ=>b2 (pR as σ) fun vs b9=>b2 (T.fn f vs) fun r m7=>(tW as vs m7 b9).map fun c8=>(.d r,c8)
 | .meth m i as,σ=>gI (σ.get i) fun c _=>(T.me m c).bind fun f=>b2 (pR as σ) fun vs b9=>(b9.get i).bind fun v=>b2 (T.fn f (v::vs)) fun r m7=>(tW (.r i::as) (v::vs) m7 b9).map fun c8=>(.d r,c8)
 | .sup f i as,σ=>b2 (pR as σ) fun vs b9=>(b9.get i).bind fun v=>b2 (T.fn f (v::vs)) fun r m7=>(tW (.r i::as) (v::vs) m7 b9).map fun c8=>(.d r,c8)
 | .new c es,σ=>(T.ini c).bind fun f=>b2 (pQ es σ) fun ds b9=>(aCA (T.fn f (.inst c []::ds.map .d))).map fun x=>(x,b9)
 | .max2 a b,σ=>bI (evE a σ) fun x b9=>bI (evE b b9) fun y c8=>some (.d (.int (if x<y then y else x)),c8)
 | .min2 a b,σ=>bI (evE a σ) fun x b9=>bI (evE b b9) fun y c8=>some (.d (.int (if y<x then y else x)),c8)
 | .tupleOf a,σ=>bD (evE a σ) fun x b9=>(aCy x).map fun y=>(.d y,b9)
 | .intOf a,σ=>bI (evE a σ) fun x b9=>some (.d (.int x),b9)
 | .listOf a,σ=>bL (evE a σ) fun xs b9=>if xs.length<=1000000 then some (.c (.lst xs),b9) else none
 | .sortedSet a,σ=>bD (evE a σ) fun x b9=>(Oa x).bind fun xs=>(nG xs).bind fun ns=>if xs.length<=1000/\nH ns=true then some (.d (.list ((qI ns).map .int)),b9) else none
 | .sortedKeys i,σ=>gC (σ.get i) fun c=>cT c fun ks=>if ks.length<64 then some (.d (.list ((nJ ks).map lP)),σ) else none
 | .dictPairs a,σ=>bC (evE a σ) fun c b9=>cL c fun xs=>if xs.length<=1000 then(lA xs).map fun ps=>(.c (.di (ps.foldl (fun d p=>jO p.1 p.2 d) [])),b9) else none
 | .dictCopy a,σ=>bD (evE a σ) fun x b9=>mD x fun l9=>if l9.length<=1000 then(eD l9).map fun ps=>(.c (.di ps),b9) else none
 | .popP p,σ=>oL (p.cont σ) fun xs=>(xs.getLast?).bind fun x=>if xs.length<=1000000 then(p.put σ (.lst xs.dropLast)).map fun b9=>(.d x,b9) else none
def pQ:List Ex->Sg->Option (List D×Sg)
 |[],σ=>some ([],σ)
 |e::r,σ=>bD (evE e σ) fun x b9=>(pQ r b9).map fun q=>(x::q.1,q.2)
def yI:List Ex->Sg->Option (List V×Sg)
 |[],σ=>some ([],σ)
 |e::r,σ=>b2 (evE e σ) fun x b9=>(yI r b9).map fun q=>(x::q.1,q.2)
def pR:List Arg->Sg->Option (List V×Sg)
 |[],σ=>some ([],σ)
 | .e e::r,σ=>bD (evE e σ) fun x b9=>(pR r b9).map fun q=>(.d x::q.1,q.2)
 | .r i::r,σ=>if(σ.get i).isSome=true then b2 (pR r σ) fun vs b9=>(b9.get i).map fun v=>(v::vs,b9) else none
def evT:Tx->Sg->Option (Bool×Sg)
 | .not t,σ=>(evT t σ).map fun r=>(!r.1,r.2)
 | .and ts,σ=>gB ts σ
 | .or ts,σ=>Ag ts σ
 | .cmp o a b,σ=>bD (evE a σ) fun x b9=>bD (evE b b9) fun y c8=>(eL o x y).map fun z=>(z,c8)
 | .cmpP o p b,σ=>if(p.get σ).isSome=true then bD (evE b σ) fun y b9=>(p.cont b9).bind fun c=>(Ec o c y).map fun z=>(z,b9) else none
 | .chain a o b o' c,σ=>bD (evE a σ) fun x b9=>bD (evE b b9) fun y c8=>(eL o x y).bind fun q=>bif q then bD (evE c c8) fun z g6=>(eL o' y z).map fun q=>(q,g6) else some (false,c8)
 | .val e,σ=>bD (evE e σ) fun x b9=>boD x fun b=>some (b,b9)
def gB:List Tx->Sg->Option (Bool×Sg)
 |[],σ=>some (true,σ)
 |t::r,σ=>b2 (evT t σ) fun q b9=>bif q then gB r b9 else some (false,b9)
def Ag:List Tx->Sg->Option (Bool×Sg)
 |[],σ=>some (false,σ)
 |t::r,σ=>b2 (evT t σ) fun q b9=>bif q then some (true,b9) else Ag r b9
def evI:It->Sg->Option (List D×Sg)
 | .seq e,σ=>bD (evE e σ) fun x b9=>(mJ x).map fun q=>(q,b9)
 | .r1 a,σ=>bI (evE a σ) fun x b9=>if x.natAbs<2^40 then some (fA 0 x,b9) else none
 | .r2 a b,σ=>bI (evE a σ) fun x b9=>bI (evE b b9) fun y c8=>if x.natAbs<2^40/\y.natAbs<2^40 then some (fA x y,c8) else none
 | .rd a b,σ=>bI (evE a σ) fun x b9=>bI (evE b b9) fun y c8=>if x.natAbs<2^40/\y.natAbs<2^40 then some (gU x y,c8) else none
 | .rev e,σ=>bL (evE e σ) fun xs b9=>some (xs.reverse,b9)
end
variable (n:Nat)
noncomputable def aBg(x:V):Option AV:=match x with| .d y=>some (.d y)| .c c=>some (.c c)|_=>none
noncomputable def Hl:D->Bool
 | .none| .bool _| .int _=>true
 |_=>false
mutual
def evS:St->Sg->Option (Flow×Sg)
 | .asg i e,σ=>b2 (evE T e σ) fun x b9=>some (.next,b9.put i x)
 | .asgT is e,σ=>bD (evE T e σ) fun x b9=>(iS b9 (.t is) x).map fun s=>(.next,s)
 | .masg is es,σ=>b2 (yI T es σ) fun vs b9=>(putAll b9 is vs).map fun s=>(.next,s)
 | .setAt i id e,σ=>b2 (evE T e σ) fun x b9=>gI (b9.get i) fun c n4=>(aBg x).bind fun y=>if n4.length<=900 then some (.next,b9.put i (.inst c (gM id y n4))) else none
 | .setP p i e,σ=>bD (evE T e σ) fun x b9=>if(p.get b9).isSome=true then bD (evE T i b9) fun k c8=>(p.cont c8).bind fun c=>(yH c k x).bind fun c'=>(p.put c8 c').map fun s=>(.next,s) else none
 | .app p e,σ=>oL (p.cont σ) fun _=>bD (evE T e σ) fun x b9=>oL (p.cont b9) fun xs=>if xs.length<=1000000 then(p.put b9 (.lst (xs++[x]))).map fun s=>(.next,s) else none
 | .extR p a b,σ=>oL (p.cont σ) fun _=>bI (evE T a σ) fun x b9=>bI (evE T b b9) fun y c8=>oL (p.cont c8) fun xs=>if xs.length+(y-x).toNat<=1000000/\x.natAbs<2^40/\y.natAbs<2^40 then(p.put c8 (.lst (xs++fA x y))).map fun s=>(.next,s) else none
 | .rev p,σ=>oL (p.cont σ) fun xs=>if xs.length<=1000000 then(p.put σ (.lst xs.reverse)).map fun s=>(.next,s) else none
 | .expr e,σ=>bD (evE T e σ) fun x b9=>if Hl x=true then some (.next,b9) else none
 | .sh i,σ=>b2 (evE T (.sh i) σ) fun _ b9=>some (.next,b9)
 | .ite t a b,σ=>b2 (evT T t σ) fun q b9=>bif q then dC a b9 else dC b b9
 | .for_ t it body,σ=>b2 (evI T it σ) fun xs b9=>lB (fun s x=>(iS s t x).bind fun c5=>dC body c5) xs b9
 | .while_ t body,σ=>iZ n (evT T t) (dC body) σ
 | .ret e,σ=>bD (evE T e σ) fun x b9=>some (.ret x,b9)
def dC:List St->Sg->Option (Flow×Sg)
 |[],σ=>some (.next,σ)
 |s::r,σ=>b2 (evS s σ) fun fl b9=>nx fl b9 (dC r)
end
section
variable {T:Tab}{n:Nat}{σ:Sg}
theorem Od{i:Nat}{e:Ex}:evS T n (.asg i e) σ=b2 (evE T e σ) fun x b9=>some (.next,b9.put i x):=rfl
theorem Xa{is:List Nat}{e:Ex}:evS T n (.asgT is e) σ=bD (evE T e σ) fun x b9=>(iS b9 (.t is) x).map fun s=>(.next,s):=rfl
theorem Hm{is:List Nat}{es:List Ex}:evS T n (.masg is es) σ=b2 (yI T es σ) fun vs b9=>(putAll b9 is vs).map fun s=>(.next,s):=rfl
theorem tX{i id:Nat}{e:Ex}:evS T n (.setAt i id e) σ=b2 (evE T e σ) fun x b9=>gI (b9.get i) fun c n4=>(aBg x).bind fun y=>if n4.length<=900 then some (.next,b9.put i (.inst c (gM id y n4))) else none:=rfl
theorem Hn{p:Pl}{i e:Ex}:evS T n (.setP p i e) σ=bD (evE T e σ) fun x b9=>if(p.get b9).isSome=true then bD (evE T i b9) fun k c8=>(p.cont c8).bind fun c=>(yH c k x).bind fun c'=>(p.put c8 c').map fun s=>(.next,s) else none:=rfl
theorem Oe{p:Pl}{e:Ex}:evS T n (.app p e) σ=oL (p.cont σ) fun _=>bD (evE T e σ) fun x b9=>oL (p.cont b9) fun xs=>if xs.length<=1000000 then(p.put b9 (.lst (xs++[x]))).map fun s=>(.next,s) else none:=rfl
theorem Xb{p:Pl}{a b:Ex}:evS T n (.extR p a b) σ=oL (p.cont σ) fun _=>bI (evE T a σ) fun x b9=>bI (evE T b b9) fun y c8=>oL (p.cont c8) fun xs=>if xs.length+(y-x).toNat<=1000000/\x.natAbs<2^40/\y.natAbs<2^40 then(p.put c8 (.lst (xs++fA x y))).map fun s=>(.next,s) else none:=rfl
theorem Of{p:Pl}:evS T n (.rev p) σ=oL (p.cont σ) fun xs=>if xs.length<=1000000 then(p.put σ (.lst xs.reverse)).map fun s=>(.next,s) else none:=rfl
theorem yJ{e:Ex}:evS T n (.expr e) σ=bD (evE T e σ) fun x b9=>if Hl x=true then some (.next,b9) else none:=rfl
theorem aAJ{i:Nat}:evS T n (.sh i) σ=b2 (evE T (.sh i) σ) fun _ b9=>some (.next,b9):=rfl
theorem Og{t:Tx}{a b:List St}:evS T n (.ite t a b) σ=b2 (evT T t σ) fun q b9=>bif q then dC T n a b9 else dC T n b b9:=rfl
theorem Ho{t:Tgt}{it:It}{body:List St}:evS T n (.for_ t it body) σ=b2 (evI T it σ) fun xs b9=>lB (fun s x=>(iS s t x).bind fun c5=>dC T n body c5) xs b9:=rfl
theorem Ke{t:Tx}{body:List St}:evS T n (.while_ t body) σ=iZ n (evT T t) (dC T n body) σ:=rfl
theorem Ed{e:Ex}:evS T n (.ret e) σ=bD (evE T e σ) fun x b9=>some (.ret x,b9):=rfl
theorem aBh{e:Ex}:evI T (.seq e) σ=bD (evE T e σ) fun x b9=>(mJ x).map fun q=>(q,b9):=rfl
end
mutual
noncomputable def Ee:St->List Nat
 | .asg i _=>[i]
 | .asgT is _=>is
 | .masg is _=>is
 | .ite _ a b=>kI a++kI b
 | .for_ t _ b=>(match t with| .n i=>[i]| .t is=>is)++kI b
 | .while_ _ b=>kI b
 |_=>[]
noncomputable def kI:List St->List Nat
 |[]=>[]
 |s::r=>Ee s++kI r
end
structure Fn where
 np:Nat
 ns:Nat
 nm:List Str
 body:List St
noncomputable def V.isD:V->Bool
 | .d _=>true
 |_=>false
def Ah(vs:List V)(σ:Sg):Option (List V):=match vs with
 |[]=>some []
 |v::r=>match σ with
  |[]=>none
  |s::σ=>(if v.isD=true then some v else s).bind fun x=>(Ah r σ).map (x:: ·)
def gV(as:List Nat):List V->Nat->Bool
 |[],_=>true
 |v::r,i=>(v.isD|| !as.contains i)&&gV as r (i+1)
def cU(f:Fn)(vs:List V):Option (D×List V):=
 if vs.length=f.np/\gV (kI f.body) vs 0=true then
  b2 (dC T n f.body (vs.map some++List.replicate (f.ns-f.np) none)) fun fl σ=>(Ah vs σ).map fun m7=>((match fl with| .ret d=>d| .next=> .none),m7)
 else none
noncomputable def f0:Fn:={np:=2,ns:=4,nm:=["d","v","low","high"],body:=
 [.for_ (.t [2,3]) (.seq (.v 0)) [.ite (.cmp .LtE (.v 1) (.v 3)) [.ret (.max2 (.v 2) (.v 1))] []],.ret (.k .none)]}
noncomputable def f1:Fn:={np:=2,ns:=2,nm:=["d","v"],body:=
 [.ret (.cmp .Eq (.call 0 [.e (.v 0),.e (.v 1)]) (.v 1))]}
noncomputable def f2:Fn:={np:=1,ns:=4,nm:=["d","found","low","high"],body:=
 [.asg 1 (.lst []),.for_ (.t [2,3]) (.seq (.v 0)) [.extR (.v 1) (.v 2) (.bin .add (.v 3) (.k (.int 1)))],.ret (.sh 1)]}
noncomputable def f3:Fn:={np:=2,ns:=2,nm:=["d","k"],body:=
 [.ret (.tupleOf (.frz (.comp 3 (.tup [(.v 2),(.min2 (.v 3) (.v 1))]) (.t [2,3]) (.seq (.v 0)) [(.cmp .LtE (.v 2) (.v 1))])))]}
noncomputable def f4:Fn:={np:=2,ns:=2,nm:=["d","k"],body:=
 [.ret (.tupleOf (.frz (.comp 3 (.tup [(.max2 (.v 2) (.v 1)),(.v 3)]) (.t [2,3]) (.seq (.v 0)) [(.cmp .GtE (.v 3) (.v 1))])))]}
noncomputable def f5:Fn:={np:=2,ns:=2,nm:=["d","v"],body:=
 [.ret (.bin .add (.call 3 [.e (.v 0),.e (.bin .sub (.v 1) (.k (.int 1)))]) (.call 4 [.e (.v 0),.e (.bin .add (.v 1) (.k (.int 1)))]))]}
noncomputable def f6:Fn:={np:=2,ns:=7,nm:=["d","e","found","i","j","low","high"],body:=
 [.masg [2,3,4] [(.lst []),(.k (.int 0)),(.k (.int 0))],.while_ (.and [(.cmp .Lt (.v 3) (.len (.v 0))),(.cmp .Lt (.v 4) (.len (.v 1)))]) [.masg [5,6] [(.max2 (.sub (.sub (.v 0) (.v 3)) (.k (.int 0))) (.sub (.sub (.v 1) (.v 4)) (.k (.int 0)))),(.min2 (.sub (.sub (.v 0) (.v 3)) (.k (.int 1))) (.sub (.sub (.v 1) (.v 4)) (.k (.int 1))))],.ite (.cmp .LtE (.v 5) (.v 6)) [.app (.v 2) (.tup [(.v 5),(.v 6)])] [],.ite (.cmp .Lt (.sub (.sub (.v 0) (.v 3)) (.k (.int 1))) (.sub (.sub (.v 1) (.v 4)) (.k (.int 1)))) [.asg 3 (.bin .add (.v 3) (.k (.int 1)))] [.asg 4 (.bin .add (.v 4) (.k (.int 1)))]],.ret (.tupleOf (.sh 2))]}
def f7:Fn:={np:=1,ns:=4,nm:=["literal","x","sign","k"],body:=
 [.asgT [1,2,3] (.v 0),.ite (.cmp .Eq (.v 2) (.k (.str sLe))) [.ret (.tup [(.v 1),(.k (.str sGe)),(.bin .add (.v 3) (.k (.int 1)))])] [],.ite (.cmp .Eq (.v 2) (.k (.str sGe))) [.ret (.tup [(.v 1),(.k (.str sLe)),(.bin .sub (.v 3) (.k (.int 1)))])] [],.ret (.ite (.cmp .Eq (.v 2) (.k (.str sEq))) (.tup [(.v 1),(.k (.str sNe)),(.v 3)]) (.tup [(.v 1),(.k (.str sEq)),(.v 3)]))]}
def f8:Fn:={np:=2,ns:=4,nm:=["literal","d","sign","k"],body:=
 [.masg [2,3] [(.sub (.v 0) (.k (.int 1))),(.sub (.v 0) (.k (.int 2)))],.ite (.cmp .Eq (.v 2) (.k (.str sLe))) [.ret (.call 3 [.e (.v 1),.e (.v 3)])] [],.ite (.cmp .Eq (.v 2) (.k (.str sGe))) [.ret (.call 4 [.e (.v 1),.e (.v 3)])] [],.ret (.ite (.cmp .Eq (.v 2) (.k (.str sEq))) (.call 6 [.e (.v 1),.e (.tup [(.tup [(.v 3),(.v 3)])])]) (.call 5 [.e (.v 1),.e (.v 3)]))]}
noncomputable def f9:Fn:={np:=1,ns:=1,nm:=["self"],body:=
 [.setAt 0 0 (.lst []),.setAt 0 1 (.lst []),.setAt 0 2 (.lst []),.setAt 0 3 (.lst []),.setAt 0 4 (.emp 0),.setAt 0 5 (.neg 1),.setAt 0 6 (.k (.bool false)),.setAt 0 7 (.tup [])]}
noncomputable def f10:Fn:={np:=2,ns:=2,nm:=["self","reasons"],body:=
 [.setAt 0 6 (.k (.bool true)),.setAt 0 7 (.tupleOf (.v 1)),.ret (.k (.bool false))]}
noncomputable def f11:Fn:={np:=2,ns:=2,nm:=["self","domain"],body:=
 [.app (.a 0 0) (.v 1),.app (.a 0 1) (.v 1),.ite (.cmp .Eq (.v 1) (.tup [])) [.expr (.meth 8 0 [.e (.tup [])])] [],.ret (.bin .sub (.lenP (.a 0 0)) (.k (.int 1)))]}
noncomputable def f12:Fn:={np:=1,ns:=1,nm:=["self"],body:=
 [.ret (.lenP (.a 0 0))]}
noncomputable def f13:Fn:={np:=2,ns:=2,nm:=["self","x"],body:=
 [.ret (.subP (.a 0 0) (.v 1))]}
noncomputable def f14:Fn:={np:=2,ns:=2,nm:=["self","x"],body:=
 [.ret (.subP (.a 0 1) (.v 1))]}
noncomputable def f15:Fn:={np:=4,ns:=7,nm:=["self","literal","reasons","speaker","x","old","fresh"],body:=
 [.asg 4 (.sub (.v 1) (.k (.int 0))),.asg 5 (.subP (.a 0 0) (.v 4)),.asg 6 (.call 8 [.e (.v 1),.e (.v 5)]),.ite (.cmp .Eq (.v 6) (.tup [])) [.ret (.meth 8 0 [.e (.bin .add (.ite (.cmp .Is (.v 2) (.k .none)) (.tup []) (.v 2)) (.tup [(.call 7 [.e (.v 1)])]))])] [],.ite (.cmp .Eq (.v 6) (.v 5)) [.ret (.k (.bool true))] [],.app (.a 0 2) (.tup [(.v 4),(.v 5),(.v 1),(.v 2),(.v 3)]),.setP (.a 0 0) (.v 4) (.v 6),.setP (.a 0 4) (.v 4) (.k (.bool true)),.ret (.k (.bool true))]}
noncomputable def f16:Fn:={np:=3,ns:=3,nm:=["self","literal","reasons"],body:=
 [.ret (.meth 5 0 [.e (.v 1),.e (.tupleOf (.v 2)),.e (.at 0 5)])]}
noncomputable def f17:Fn:={np:=2,ns:=2,nm:=["self","literal"],body:=
 [.ret (.meth 5 0 [.e (.v 1),.e (.k .none),.e (.neg 1)])]}
noncomputable def f18:Fn:={np:=1,ns:=1,nm:=["self"],body:=
 [.app (.a 0 3) (.lenP (.a 0 2))]}
noncomputable def f19:Fn:={np:=2,ns:=4,nm:=["self","n","mark","entry"],body:=
 [.ite (.cmp .Lt (.v 1) (.k (.int 1))) [.ret (.k .none)] [],.asg 2 (.subP (.a 0 3) (.bin .sub (.lenP (.a 0 3)) (.v 1))),.setAt 0 3 (.slToP (.a 0 3) (.bin .sub (.lenP (.a 0 3)) (.v 1))),.while_ (.cmp .Gt (.lenP (.a 0 2)) (.v 2)) [.asg 3 (.popP (.a 0 2)),.setP (.a 0 0) (.sub (.v 3) (.k (.int 0))) (.sub (.v 3) (.k (.int 1)))],.setAt 0 4 (.emp 0),.setAt 0 6 (.inP (.tup []) (.a 0 1)),.setAt 0 7 (.tup [])]}
noncomputable def f20:Fn:={np:=3,ns:=3,nm:=["self","scope","strength"],body:=
 [.setAt 0 8 (.neg 1),.setAt 0 9 (.tupleOf (.v 1)),.setAt 0 10 (.v 2)]}
def f21:Fn:={np:=7,ns:=7,nm:=["self","xs","states","letters","rows","start","finals"],body:=
 [.expr (.sup 20 0 [.e (.tupleOf (.v 1)),.e (.k (.str oK))]),.setAt 0 11 (.v 2),.setAt 0 12 (.v 3),.setAt 0 13 (.v 4),.setAt 0 14 (.v 5),.setAt 0 15 (.v 6),.setAt 0 16 (.cmp .Lt (.len (.sortedSet (.v 1))) (.len (.v 1)))]}
noncomputable def f22:Fn:={np:=2,ns:=8,nm:=["self","kept","layer","found","letters","late","state","a"],body:=
 [.asg 2 (.frz (.comp 2 (.cmp .Eq (.v 8) (.at 0 14)) (.n 8) (.r1 (.bin .add (.at 0 11) (.k (.int 1)))) [])),.asg 3 (.lst [(.v 2)]),.for_ (.n 4) (.seq (.v 1)) [.asg 5 (.rep (.k (.bool false)) (.bin .add (.at 0 11) (.k (.int 1)))),.for_ (.n 6) (.r2 (.k (.int 1)) (.bin .add (.at 0 11) (.k (.int 1)))) [.for_ (.n 7) (.seq (.ite (.val (.sub (.v 2) (.v 6))) (.v 4) (.frz (.lst [])))) [.setP (.v 5) (.sub (.sub (.at 0 13) (.bin .sub (.v 6) (.k (.int 1)))) (.bin .sub (.v 7) (.k (.int 1)))) (.k (.bool true))]],.setP (.v 5) (.k (.int 0)) (.k (.bool false)),.asg 2 (.sh 5),.app (.v 3) (.v 2)],.ret (.sh 3)]}
noncomputable def f23:Fn:={np:=2,ns:=7,nm:=["self","kept","layer","found","letters","early","state"],body:=
 [.asg 2 (.comp 2 (.cmp .In (.v 7) (.at 0 15)) (.n 7) (.r1 (.bin .add (.at 0 11) (.k (.int 1)))) []),.setP (.v 2) (.k (.int 0)) (.k (.bool false)),.asg 3 (.lst [(.sh 2)]),.for_ (.n 4) (.rev (.v 1)) [.asg 5 (.rep (.k (.bool false)) (.bin .add (.at 0 11) (.k (.int 1)))),.for_ (.n 6) (.r2 (.k (.int 1)) (.bin .add (.at 0 11) (.k (.int 1)))) [.setP (.v 5) (.v 6) (.cmp .In (.k (.bool true)) (.frz (.comp 2 (.sub (.v 2) (.sub (.sub (.at 0 13) (.bin .sub (.v 6) (.k (.int 1)))) (.bin .sub (.v 7) (.k (.int 1))))) (.n 7) (.seq (.v 4)) [])))],.asg 2 (.sh 5),.app (.v 3) (.v 2)],.rev (.v 3),.ret (.sh 3)]}
def f24:Fn:={np:=6,ns:=11,nm:=["self","kept","alive","spot","some","noted","k","late","state","a","goal"],body:=
 [.for_ (.n 6) (.r2 (.v 3) (.len (.v 1))) [.asg 7 (.lst []),.for_ (.n 8) (.seq (.v 4)) [.for_ (.n 9) (.r2 (.k (.int 1)) (.bin .add (.at 0 12) (.k (.int 1)))) [.asg 10 (.sub (.sub (.at 0 13) (.bin .sub (.v 8) (.k (.int 1)))) (.bin .sub (.v 9) (.k (.int 1)))),.ite (.and [(.cmp .NotEq (.v 10) (.k (.int 0))),(.not (.val (.sub (.sub (.v 2) (.bin .add (.v 6) (.k (.int 1)))) (.v 10))))]) [.app (.v 7) (.v 10)] [.ite (.cmp .NotEq (.v 10) (.k (.int 0))) [.setP (.v 5) (.tup [(.sub (.at 0 9) (.v 6)),(.k (.str sNe)),(.v 9)]) (.k (.bool true))] []]]],.asg 4 (.sortedSet (.sh 7))]]}
def f25:Fn:={np:=5,ns:=9,nm:=["self","reached","spot","some","noted","k","early","state","a"],body:=
 [.for_ (.n 5) (.rd (.bin .sub (.v 2) (.k (.int 1))) (.neg 1)) [.asg 6 (.lst []),.for_ (.n 7) (.r2 (.k (.int 1)) (.bin .add (.at 0 11) (.k (.int 1)))) [.for_ (.n 8) (.r2 (.k (.int 1)) (.bin .add (.at 0 12) (.k (.int 1)))) [.ite (.cmp .In (.sub (.sub (.at 0 13) (.bin .sub (.v 7) (.k (.int 1)))) (.bin .sub (.v 8) (.k (.int 1)))) (.v 3)) [.ite (.val (.sub (.sub (.v 1) (.v 5)) (.v 7))) [.setP (.v 4) (.tup [(.sub (.at 0 9) (.v 5)),(.k (.str sNe)),(.v 8)]) (.k (.bool true))] [.app (.v 6) (.v 7)]] []]],.asg 3 (.sortedSet (.sh 6))]]}
noncomputable def f26:Fn:={np:=3,ns:=3,nm:=["self","store","noted"],body:=
 [.ret (.tupleOf (.frz (.comp 2 (.v 3) (.n 3) (.seq (.sortedKeys 2)) [(.val (.call 1 [.e (.meth 4 1 [.e (.sub (.v 3) (.k (.int 0)))]),.e (.sub (.v 3) (.k (.int 2)))]))])))]}
noncomputable def f27:Fn:={np:=7,ns:=12,nm:=["self","store","kept","reached","alive","spot","a","dead","unreached","noted","state","goal"],body:=
 [.masg [7,8,9] [(.lst []),(.lst []),(.emp 1)],.for_ (.n 10) (.r2 (.k (.int 1)) (.bin .add (.at 0 11) (.k (.int 1)))) [.asg 11 (.sub (.sub (.at 0 13) (.bin .sub (.v 10) (.k (.int 1)))) (.bin .sub (.v 6) (.k (.int 1)))),.ite (.and [(.cmp .NotEq (.v 11) (.k (.int 0))),(.not (.val (.sub (.sub (.v 4) (.bin .add (.v 5) (.k (.int 1)))) (.v 11))))]) [.app (.v 7) (.v 11)] [.ite (.cmp .NotEq (.v 11) (.k (.int 0))) [.app (.v 8) (.v 10)] []]],.expr (.meth 13 0 [.e (.v 2),.e (.v 4),.e (.bin .add (.v 5) (.k (.int 1))),.e (.sortedSet (.sh 7)),.r 9]),.expr (.meth 14 0 [.e (.v 3),.e (.v 5),.e (.sh 8),.r 9]),.ret (.meth 15 0 [.r 1,.r 9])]}
noncomputable def f28:Fn:={np:=5,ns:=6,nm:=["self","reached","alive","spot","a","state"],body:=
 [.for_ (.n 5) (.r2 (.k (.int 1)) (.bin .add (.at 0 11) (.k (.int 1)))) [.ite (.and [(.val (.sub (.sub (.v 1) (.v 3)) (.v 5))),(.val (.sub (.sub (.v 2) (.bin .add (.v 3) (.k (.int 1)))) (.sub (.sub (.at 0 13) (.bin .sub (.v 5) (.k (.int 1)))) (.bin .sub (.v 4) (.k (.int 1))))))]) [.ret (.k (.bool true))] []],.ret (.k (.bool false))]}
def f29:Fn:={np:=2,ns:=3,nm:=["self","store","x"],body:=
 [.for_ (.n 2) (.seq (.at 0 9)) [.ite (.or [(.not (.val (.meth 6 1 [.e (.tup [(.v 2),(.k (.str sGe)),(.k (.int 1))]),.e (.tup [])]))),(.not (.val (.meth 6 1 [.e (.tup [(.v 2),(.k (.str sLe)),(.at 0 12)]),.e (.tup [])])))]) [.ret (.k (.bool false))] []],.ret (.k (.bool true))]}
def f30:Fn:={np:=2,ns:=10,nm:=["self","store","kept","reached","alive","noted","found","spot","a","reasons"],body:=
 [.asg 2 (.frz (.comp 2 (.call 2 [.e (.meth 3 1 [.e (.v 10)])]) (.n 10) (.seq (.at 0 9)) [])),.masg [3,4] [(.meth 11 0 [.e (.v 2)]),(.meth 12 0 [.e (.v 2)])],.ite (.not (.val (.sub (.sub (.v 4) (.k (.int 0))) (.at 0 14)))) [.asg 5 (.emp 1),.expr (.meth 13 0 [.e (.v 2),.e (.v 4),.e (.k (.int 0)),.e (.frz (.lst [(.at 0 14)])),.r 5]),.expr (.meth 8 1 [.e (.meth 15 0 [.r 1,.r 5])]),.ret (.neg 1)] [],.asg 6 (.k (.int 0)),.for_ (.n 7) (.r1 (.len (.v 2))) [.for_ (.n 8) (.seq (.sub (.v 2) (.v 7))) [.ite (.not (.val (.meth 17 0 [.e (.v 3),.e (.v 4),.e (.v 7),.e (.v 8)]))) [.asg 9 (.meth 16 0 [.r 1,.e (.v 2),.e (.v 3),.e (.v 4),.e (.v 7),.e (.v 8)]),.ite (.not (.val (.meth 6 1 [.e (.tup [(.sub (.at 0 9) (.v 7)),(.k (.str sNe)),(.v 8)]),.e (.v 9)]))) [.ret (.neg 1)] [],.asg 6 (.k (.int 1))] []]],.ret (.v 6)]}
noncomputable def f31:Fn:={np:=2,ns:=3,nm:=["self","store","told"],body:=
 [.ite (.not (.val (.meth 18 0 [.r 1]))) [.ret (.k (.bool false))] [],.asg 2 (.meth 19 0 [.r 1]),.while_ (.and [(.cmp .Eq (.v 2) (.k (.int 1))),(.val (.at 0 16))]) [.asg 2 (.meth 19 0 [.r 1])],.ret (.cmp .GtE (.v 2) (.k (.int 0)))]}
def f32:Fn:={np:=2,ns:=4,nm:=["tape","most","k","number"],body:=
 [.asg 2 (.subP (.v 0) (.k (.str sK))),.setP (.v 0) (.k (.str sK)) (.bin .add (.v 2) (.k (.int 1))),.asg 3 (.ite (.cmp .Lt (.v 2) (.len (.subP (.v 0) (.k (.str lX))))) (.sub (.subP (.v 0) (.k (.str lX))) (.v 2)) (.bin .mod (.bin .add (.bin .add (.bin .add (.bin .mul (.bin .mul (.k (.int 6)) (.v 2)) (.v 2)) (.bin .mul (.k (.int 7)) (.v 2))) (.bin .mul (.k (.int 3)) (.len (.subP (.v 0) (.k (.str lX)))))) (.k (.int 6))) (.k (.int 97)))),.ret (.bin .mod (.intOf (.v 3)) (.v 1))]}
noncomputable def f33:Fn:={np:=4,ns:=7,nm:=["moves","finals","places","domains","lines","x","letters"],body:=
 [.asg 4 (.frz (.lst [(.tup [(.tup []),(.k (.int 1))])])),.for_ (.n 5) (.seq (.v 2)) [.asg 6 (.frz (.comp 2 (.v 7) (.n 7) (.seq (.tup [(.k (.int 1)),(.k (.int 2)),(.k (.int 3))])) [(.cmp .In (.v 7) (.call 2 [.e (.sub (.v 3) (.v 5))]))])),.asg 4 (.frz (.comp2 4 (.tup [(.bin .add (.v 7) (.tup [(.v 9)])),(.sub (.sub (.v 0) (.bin .sub (.v 8) (.k (.int 1)))) (.bin .sub (.v 9) (.k (.int 1))))]) (.t [7,8]) (.seq (.v 4)) [] (.n 9) (.seq (.v 6)) [(.cmp .Gt (.sub (.sub (.v 0) (.bin .sub (.v 8) (.k (.int 1)))) (.bin .sub (.v 9) (.k (.int 1)))) (.k (.int 0)))]))],.ret (.frz (.comp 3 (.v 7) (.t [7,8]) (.seq (.v 4)) [(.cmp .In (.v 8) (.v 1))]))]}
def f34:Fn:={np:=2,ns:=4,nm:=["literal","number","sign","bound"],body:=
 [.masg [2,3] [(.sub (.v 0) (.k (.int 1))),(.sub (.v 0) (.k (.int 2)))],.ite (.or [(.cmp .Eq (.v 2) (.k (.str sLe))),(.cmp .Eq (.v 2) (.k (.str sGe)))]) [.ret (.ite (.cmp .Eq (.v 2) (.k (.str sLe))) (.cmp .LtE (.v 1) (.v 3)) (.cmp .GtE (.v 1) (.v 3)))] [],.ret (.cmp .Eq (.cmp .Eq (.v 1) (.v 3)) (.cmp .Eq (.v 2) (.k (.str sEq))))]}
noncomputable def f35:Fn:={np:=2,ns:=2,nm:=["literals","stand_at"],body:=
 [.ret (.cmp .Eq (.frz (.comp2 3 (.k (.int 1)) (.n 2) (.seq (.v 0)) [] (.n 3) (.seq (.subP (.v 1) (.sub (.v 2) (.k (.int 0))))) [(.not (.val (.call 34 [.e (.v 2),.e (.v 3)])))])) (.frz (.lst [])))]}
noncomputable def f36:Fn:={np:=3,ns:=6,nm:=["words","literals","places","found","literal","spots"],body:=
 [.asg 3 (.v 0),.for_ (.n 4) (.seq (.v 1)) [.asg 5 (.frz (.comp 2 (.v 6) (.n 6) (.r1 (.len (.v 2))) [(.cmp .Eq (.sub (.v 2) (.v 6)) (.sub (.v 4) (.k (.int 0))))])),.asg 3 (.frz (.comp 2 (.v 6) (.n 6) (.seq (.v 3)) [(.cmp .Eq (.frz (.comp 2 (.v 8) (.n 8) (.seq (.v 5)) [(.not (.val (.call 34 [.e (.v 4),.e (.sub (.v 6) (.v 8))])))])) (.frz (.lst [])))]))],.ret (.v 3)]}
noncomputable def f37:Fn:={np:=3,ns:=8,nm:=["words","places","stand_at","left","x","before","some","seen"],body:=
 [.asg 3 (.emp 0),.for_ (.n 4) (.seq (.v 2)) [.setP (.v 3) (.v 4) (.frz (.comp 2 (.v 8) (.n 8) (.seq (.sub (.v 2) (.v 4))) [(.or [(.cmp .NotIn (.v 4) (.v 1)),(.chain (.k (.int 1)) .LtE (.v 8) .LtE (.k (.int 3)))])]))],.asg 5 (.k .none),.while_ (.cmpP .NotEq (.v 3) (.v 5)) [.sh 3,.masg [5,6] [(.v 3),(.frz (.comp 2 (.v 8) (.n 8) (.seq (.v 0)) [(.cmp .Eq (.frz (.comp 2 (.v 10) (.n 10) (.r1 (.len (.v 1))) [(.cmp .NotIn (.sub (.v 8) (.v 10)) (.sub (.v 3) (.sub (.v 1) (.v 10))))])) (.frz (.lst [])))]))],.masg [7,3] [(.frz (.comp 2 (.sortedSet (.frz (.comp 2 (.sub (.v 10) (.v 8)) (.n 10) (.seq (.v 6)) []))) (.n 8) (.r1 (.len (.v 1))) [])),(.emp 0)],.for_ (.n 4) (.seq (.v 5)) [.setP (.v 3) (.v 4) (.frz (.comp 2 (.v 8) (.n 8) (.seq (.sub (.v 5) (.v 4))) [(.cmp .Eq (.frz (.comp 2 (.v 10) (.n 10) (.r1 (.len (.v 1))) [(.and [(.cmp .Eq (.sub (.v 1) (.v 10)) (.v 4)),(.cmp .NotIn (.v 8) (.sub (.v 7) (.v 10)))])])) (.frz (.lst [])))]))]],.sh 3,.ret (.ite (.cmp .NotEq (.frz (.comp 2 (.v 8) (.n 8) (.seq (.v 3)) [(.cmp .Eq (.sub (.v 3) (.v 8)) (.frz (.lst [])))])) (.frz (.lst []))) (.k .none) (.v 3))]}
noncomputable def f38:Fn:={np:=1,ns:=1,nm:=["store"],body:=
 [.ret (.frz (.dictPairs (.comp 2 (.tup [(.v 1),(.call 2 [.e (.meth 3 0 [.e (.v 1)])])]) (.n 1) (.r1 (.meth 2 0 [])) [])))]}
noncomputable def f39:Fn:={np:=5,ns:=12,nm:=["store","mark","stand_at","words","places","x","old","literal","reasons","speaker","let","spots"],body:=
 [.asg 2 (.dictCopy (.v 2)),.for_ (.t [5,6,7,8,9]) (.seq (.frz (.slFromP (.a 0 2) (.v 1)))) [.ite (.or [(.cmp .NotEq (.sub (.v 7) (.k (.int 0))) (.v 5)),(.not (.val (.call 35 [.e (.v 8),.r 2])))]) [.ret (.k (.bool false))] [],.asg 10 (.call 36 [.e (.v 3),.e (.v 8),.e (.v 4)]),.asg 11 (.frz (.comp 2 (.v 12) (.n 12) (.r1 (.len (.v 4))) [(.cmp .Eq (.sub (.v 4) (.v 12)) (.v 5))])),.ite (.cmp .Eq (.frz (.comp 2 (.v 12) (.n 12) (.seq (.v 11)) [(.cmp .Eq (.frz (.comp 2 (.v 14) (.n 14) (.seq (.v 10)) [(.not (.val (.call 34 [.e (.v 7),.e (.sub (.v 14) (.v 12))])))])) (.frz (.lst [])))])) (.frz (.lst []))) [.ret (.k (.bool false))] [],.setP (.v 2) (.v 5) (.frz (.comp 2 (.v 12) (.n 12) (.seq (.subP (.v 2) (.v 5))) [(.val (.call 34 [.e (.v 7),.e (.v 12)]))]))],.ret (.cmpP .Eq (.v 2) (.call 38 [.r 0]))]}
def f40:Fn:={np:=4,ns:=9,nm:=["store","rule","words","places","early","mark","due","told","late"],body:=
 [.masg [4,5] [(.call 38 [.r 0]),(.lenP (.a 0 2))],.masg [6,7] [(.call 37 [.e (.v 2),.e (.v 3),.e (.v 4)]),(.meth 20 1 [.r 0])],.ite (.or [(.cmp .NotEq (.v 7) (.cmp .IsNot (.v 6) (.k .none))),(.cmp .Eq (.v 7) (.at 0 6)),(.not (.val (.call 39 [.r 0,.e (.v 5),.e (.v 4),.e (.v 2),.e (.v 3)])))]) [.ret (.k (.str kG))] [],.masg [8,5] [(.call 38 [.r 0]),(.lenP (.a 0 2))],.ite (.not (.val (.v 7))) [.ret (.ite (.and [(.val (.call 35 [.e (.at 0 7),.e (.v 8)])),(.cmp .Eq (.call 36 [.e (.v 2),.e (.at 0 7),.e (.v 3)]) (.frz (.lst [])))]) (.k (.str iY)) (.k (.str kG)))] [],.ret (.ite (.and [(.cmp .Eq (.v 8) (.v 6)),(.val (.meth 20 1 [.r 0])),(.cmp .Eq (.lenP (.a 0 2)) (.v 5))]) (.k (.str cP)) (.k (.str kG)))]}
def f41:Fn:={np:=2,ns:=6,nm:=["store","tape","x","left","v","sign"],body:=
 [.asg 2 (.call 32 [.r 1,.e (.meth 2 0 [])]),.asg 3 (.call 2 [.e (.meth 3 0 [.e (.v 2)])]),.masg [4,5] [(.sub (.v 3) (.call 32 [.r 1,.e (.len (.v 3))])),(.sub (.frz (.lst [(.k (.str sEq)),(.k (.str sNe)),(.k (.str sLe)),(.k (.str sGe))])) (.call 32 [.r 1,.e (.k (.int 4))]))],.expr (.meth 9 0 []),.ret (.meth 7 0 [.e (.tup [(.v 2),(.ite (.and [(.cmp .Eq (.v 5) (.k (.str sNe))),(.cmp .Eq (.len (.v 3)) (.k (.int 1)))]) (.k (.str sEq)) (.v 5)),(.v 4)])])]}
def f42:Fn:={np:=1,ns:=19,nm:=["script","tape","count","many","places","domains","moves","mask","finals","store","words","domain","rule","seen","lap","early","many_now","turn","late"],body:=
 [.asg 1 (.dct [lX,sK] [(.frz (.listOf (.frz (.slTo (.v 0) (.k (.int 40)))))),(.k (.int 0))]),.masg [2,3] [(.bin .add (.k (.int 3)) (.call 32 [.r 1,.e (.k (.int 2))])),(.bin .add (.k (.int 2)) (.call 32 [.r 1,.e (.k (.int 2))]))],.asg 4 (.tupleOf (.frz (.comp 2 (.call 32 [.r 1,.e (.v 3)]) (.n 19) (.r1 (.v 2)) []))),.asg 5 (.frz (.comp 2 (.sub (.gl 0) (.call 32 [.r 1,.e (.k (.int 4))])) (.n 19) (.r1 (.v 3)) [])),.asg 6 (.tupleOf (.frz (.comp 2 (.tupleOf (.frz (.comp 2 (.call 32 [.r 1,.e (.k (.int 4))]) (.n 21) (.r1 (.k (.int 3))) []))) (.n 19) (.r1 (.k (.int 3))) []))),.asg 7 (.bin .add (.k (.int 1)) (.call 32 [.r 1,.e (.k (.int 7))])),.asg 8 (.tupleOf (.frz (.comp 2 (.v 19) (.n 19) (.seq (.tup [(.k (.int 1)),(.k (.int 2)),(.k (.int 3))])) [(.cmp .Eq (.bin .mod (.bin .fdiv (.v 7) (.bin .pow (.k (.int 2)) (.bin .sub (.v 19) (.k (.int 1))))) (.k (.int 2))) (.k (.int 1)))]))),.masg [9,10] [(.new 0 []),(.call 33 [.e (.v 6),.e (.v 8),.e (.v 4),.e (.v 5)])],.for_ (.n 11) (.seq (.v 5)) [.expr (.meth 1 9 [.e (.v 11)])],.asg 12 (.new 1 [(.v 4),(.k (.int 3)),(.k (.int 3)),(.v 6),(.k (.int 1)),(.v 8)]),.asg 13 (.call 40 [.r 9,.r 12,.e (.v 10),.e (.v 4)]),.for_ (.n 14) (.r1 (.k (.int 2))) [.masg [15,16] [(.call 38 [.r 9]),(.bin .add (.k (.int 1)) (.call 32 [.r 1,.e (.k (.int 2))]))],.ite (.cmp .Eq (.v 13) (.k (.str cP))) [.for_ (.n 17) (.r1 (.v 16)) [.ite (.not (.val (.call 41 [.r 9,.r 1]))) [.ret (.k (.bool false))] []],.asg 18 (.call 40 [.r 9,.r 12,.e (.v 10),.e (.v 4)]),.ite (.cmp .Eq (.v 18) (.k (.str kG))) [.ret (.k (.bool false))] [],.ite (.cmp .Eq (.v 18) (.k (.str iY))) [.expr (.meth 10 9 [.e (.v 16)]),.ite (.or [(.cmp .NotEq (.call 38 [.r 9]) (.v 15)),(.val (.at 9 6)),(.cmp .NotEq (.call 40 [.r 9,.r 12,.e (.v 10),.e (.v 4)]) (.k (.str cP)))]) [.ret (.k (.bool false))] []] []] []],.ret (.cmp .NotEq (.v 13) (.k (.str kG)))]}
noncomputable def meL:List (Nat×Nat×Nat):=[(0,0,9),(1,0,11),(2,0,12),(3,0,13),(4,0,14),(5,0,15),(6,0,16),(7,0,17),(8,0,10),(9,0,18),(10,0,19),(0,1,21),(11,1,22),(12,1,23),(13,1,24),(14,1,25),(15,1,26),(16,1,27),(17,1,28),(18,1,29),(19,1,30),(20,1,31)]
def Hp(m c:Nat):Option Nat:=(meL.find? fun q=>Nat.beq q.1 m&&Nat.beq q.2.1 c).map fun q=>q.2.2
noncomputable def rI:Nat->Option Nat
 |0=>some 9
 |1=>some 21
 |_=>none
def aBi:List Fn:=[f0,f1,f2,f3,f4,f5,f6,f7,f8,f9,f10,f11,f12,f13,f14,f15,f16,f17,f18,f19,f20,f21,f22,f23,f24,f25,f26,f27,f28,f29,f30,f31,f32,f33,f34,f35,f36,f37,f38,f39,f40,f41,f42]
noncomputable def Kf:List Str:=["domains","firsts","trail","marks","news","speaker","is_failed","clash","number","scope","strength","states","letters","rows","start","finals","has_twins"]
noncomputable def Kg:List Str:=["__init__","new_var","size","dom","initial","enter","strike","decide","fail","push","pop","reached_of","alive_of","note_dead","note_unreached","reasons_of","why_not","has_support","keep_letters","strike_round","propagate"]
noncomputable def Hq:List (Str×Nat):=[(Str.ofString "next_from",0),(Str.ofString "has",1),(Str.ofString "values",2),(Str.ofString "up_to",3),(Str.ofString "from_on",4),(Str.ofString "without",5),(Str.ofString "meet",6),(Str.ofString "negation",7),(Str.ofString "struck",8),(Str.ofString "_law_dip",32),(Str.ofString "_law_words",33),(Str.ofString "_law_lets",34),(Str.ofString "_law_are_true",35),(Str.ofString "_law_let_by",36),(Str.ofString "_law_left",37),(Str.ofString "_law_seen",38),(Str.ofString "_law_are_followed",39),(Str.ofString "_law_asked",40),(Str.ofString "_law_decided",41),(Str.ofString "law",42),(Str.ofString "has_domains",1)]
noncomputable def Ai:List (Str×Nat):=[(Str.ofString "Store",0),(Str.ofString "Regular",1)]
end Mine
namespace Mine
open PySem PySem.W PyProof.Rows
abbrev Fz:=Addr->Option Obj
noncomputable def Oh(ks:List Int)(ds:List D):List (D×D):=(ks.zip ds).map fun p=>(.int p.1,p.2)
section
variable (prog:Program)(w:World)
mutual
inductive Rep(F:Fz):Value->D->Prop
 |none:Rep F .none .none
 |bool (b:Bool):Rep F (.bool b) (.bool b)
 |int (i:Int) (t:Tok):Rep F (.int i t) (.int i)
 |str (x:Str) (t:Tok):Rep F (.str x t) (.str x)
 |list {a:Addr} {o:Obj} {xs:Array Value} {n:Nat} {ds:List D}:F a=some o->o.cls= .type "list"->o.data= .seq xs n->aM F xs.toList ds->Rep F (.ref a) (.list ds)
 |tuple {a:Addr} {o:Obj} {xs:Array Value} {n:Nat} {ds:List D}:F a=some o->o.cls= .type "tuple"->o.data= .seq xs n->aM F xs.toList ds->Rep F (.ref a) (.tuple ds)
 |dict {a:Addr} {o:Obj} {l9:List (Int×Value)} {ds:List D}:F a=some o->(a==sysModules)=false->o.IsDictOf (intKind prog w) l9->aM F (l9.map (·.2)) ds->
   Rep F (.ref a) (.dict (Oh (l9.map (·.1)) ds))
inductive aM(F:Fz):List Value->List D->Prop
 |nil:aM F [] []
 |cons {v:Value} {vs:List Value} {d:D} {ds:List D}:Rep F v d->aM F vs ds->aM F (v::vs) (d::ds)
end
end
section
variable {prog:Program}{w:World}{F F':Fz}{v:Value}{d:D}{vs us:List Value}{ds es:List D}
def Fz.Le(F F':Fz):Prop:=∀a o,F a=some o->F' a=some o
theorem Fz.Le.refl(F:Fz):F.Le F:=fun _ _ e=>e
theorem Fz.Le.trans{F F' F'':Fz}(x:F.Le F')(y:F'.Le F''):F.Le F'':=fun a o e=>y a o (x a o e)
theorem Rep.mono(h:F.Le F'){v:Value}{d:D}(r:Rep prog w F v d):Rep prog w F' v d:=
 Rep.rec (motive_1:=fun v d _=>Rep prog w F' v d) (motive_2:=fun vs ds _=>aM prog w F' vs ds)
  .none .bool .int .str (fun a b c _ r=> .list (h _ _ a) b c r) (fun a b c _ r=> .tuple (h _ _ a) b c r) (fun a b c _ r=> .dict (h _ _ a) b c r) .nil (fun _ _ a r=> .cons a r) r
theorem aM.mono(h:F.Le F'){vs:List Value}{ds:List D}(r:aM prog w F vs ds):aM prog w F' vs ds:=
 aM.rec (motive_1:=fun v d _=>Rep prog w F' v d) (motive_2:=fun vs ds _=>aM prog w F' vs ds)
  .none .bool .int .str (fun a b c _ r=> .list (h _ _ a) b c r) (fun a b c _ r=> .tuple (h _ _ a) b c r) (fun a b c _ r=> .dict (h _ _ a) b c r) .nil (fun _ _ a r=> .cons a r) r
inductive Oi(prog:Program)(w:World)(F:Fz)(T:String)(ds:List D)(v:Value):Prop
 |mk (a:Addr) (o:Obj) (xs:Array Value) (n:Nat):v= .ref a->F a=some o->o.cls= .type T->o.data= .seq xs n->aM prog w F xs.toList ds->Oi prog w F T ds v
inductive aAK(prog:Program)(w:World)(F:Fz)(l9:List (D×D))(v:Value):Prop
 |mk (a:Addr) (o:Obj) (l:List (Int×Value)) (ds:List D):v= .ref a->F a=some o->(a==sysModules)=false->o.IsDictOf (intKind prog w) l->aM prog w F (l.map (·.2)) ds->l9=Oh (l.map (·.1)) ds->aAK prog w F l9 v
def aCB(prog:Program)(w:World)(F:Fz)(v:Value)(d:D):Prop:=match d with
 | .none=>v= .none
 | .bool b=>v= .bool b
 | .int i=>∃t,v= .int i t
 | .str x=>∃t,v= .str x t
 | .list ds=>Oi prog w F "list" ds v
 | .tuple ds=>Oi prog w F "tuple" ds v
 | .dict l9=>aAK prog w F l9 v
theorem Rep.inv(r:Rep prog w F v d):aCB prog w F v d:=
 Rep.casesOn (motive_1:=fun v d _=>aCB prog w F v d) r rfl (fun _=>rfl) (fun _ t=>⟨t,rfl⟩) (fun _ t=>⟨t,rfl⟩) (.mk _ _ _ _ rfl) (.mk _ _ _ _ rfl) fun a b c d=> .mk _ _ _ _ rfl a b c d rfl
def aAL(prog:Program)(w:World)(F:Fz)(vs:List Value)(ds:List D):Prop:=match ds with
 |[]=>vs=[]
 |d::ds=>∃v us,Rep prog w F v d/\aM prog w F us ds/\vs=v::us
theorem Rep.tuple_inv{ds:List D}(r:Rep prog w F v (.tuple ds)):Oi prog w F "tuple" ds v:=r.inv
theorem Rep.list_inv{ds:List D}(r:Rep prog w F v (.list ds)):Oi prog w F "list" ds v:=r.inv
theorem aM.inv(r:aM prog w F vs ds):aAL prog w F vs ds:=
 aM.casesOn (motive_2:=fun vs ds _=>aAL prog w F vs ds) r rfl fun a b=>(dW _ _ a b rfl)
theorem aM.length(h:aM prog w F vs ds):vs.length=ds.length:=by
 induction ds generalizing vs with
 |nil=>rw[h.inv];rfl
 |cons d ds ih=>refine cJ h.inv fun v us _ r Q4=>?_;clear h;subst Q4;exact bU (· +1) (ih r)
theorem aM.append(h:aM prog w F vs ds)(k:aM prog w F us es):aM prog w F (vs++us) (ds++es):=by
 induction ds generalizing vs with
 |nil=>rw[h.inv];exact k
 |cons d ds ih=>refine cJ h.inv fun v us a r Q4=>?_;clear h;subst Q4;exact .cons a (ih r)
theorem aM.one(h:Rep prog w F v d):aM prog w F [v] [d]:= .cons h .nil
theorem aM.get(h:aM prog w F vs ds){k:Nat}{d:D}(e:ds[k]?=some d):∃v,vs[k]?=some v/\Rep prog w F v d:=by
 induction ds generalizing vs k with
 |nil=>exact(nn e).elim
 |cons x ds ih=>
  refine cJ h.inv fun v us a r Q4=>?_;clear h;subst Q4
  cases k with
  |zero=>cases e;exact(aH v rfl a)
  |succ k=>exact ih r e
theorem aM.get'(h:aM prog w F vs ds){k:Nat}{v:Value}(e:vs[k]?=some v):∃d,ds[k]?=some d/\Rep prog w F v d:=by
 induction ds generalizing vs k with
 |nil=>rw[h.inv] at e;exact(nn e).elim
 |cons x ds ih=>
  apply bc;intro Z;refine cJ h.inv fun v us a r Q4=>?_;clear h;subst Q4;apply Z;clear Z
  cases k with
  |zero=>cases e;exact(aH _ rfl a)
  |succ k=>exact ih r e
theorem aM.set(h:aM prog w F vs ds)(hv:Rep prog w F v d)(k:Nat):aM prog w F (vs.set k v) (ds.set k d):=by
 induction ds generalizing vs k with
 |nil=>rw[h.inv];exact .nil
 |cons x ds ih=>
  refine cJ h.inv fun v us a r Q4=>?_;clear h;subst Q4
  cases k with
  |zero=>exact .cons hv r
  |succ k=>exact .cons a (ih r k)
theorem aM.take(h:aM prog w F vs ds)(k:Nat):aM prog w F (vs.take k) (ds.take k):=by
 induction ds generalizing vs k with
 |nil=>rw[h.inv,List.take_nil,List.take_nil];exact .nil
 |cons x ds ih=>
  refine cJ h.inv fun v us a r Q4=>?_;clear h;subst Q4
  cases k with
  |zero=>exact .nil
  |succ k=>exact .cons a (ih r k)
theorem aM.drop(h:aM prog w F vs ds)(k:Nat):aM prog w F (vs.drop k) (ds.drop k):=by
 induction ds generalizing vs k with
 |nil=>rw[h.inv,List.drop_nil,List.drop_nil];exact .nil
 |cons x ds ih=>
  refine cJ h.inv fun v us a r Q4=>?_;clear h;subst Q4
  cases k with
  |zero=>exact .cons a r
  |succ k=>exact ih r k
theorem aM.replicate(h:Rep prog w F v d)(k:Nat):aM prog w F (List.replicate k v) (List.replicate k d):=by
 induction k with
 |zero=>exact .nil
 |succ k ih=>exact .cons h ih
theorem aM.reverse(h:aM prog w F vs ds):aM prog w F vs.reverse ds.reverse:=by
 induction ds generalizing vs with
 |nil=>rw[h.inv];exact .nil
 |cons x ds ih=>refine cJ h.inv fun v us a r Q4=>?_;clear h;subst Q4;rw[List.reverse_cons,List.reverse_cons];exact(ih r).append (.one a)
theorem Rep.reads{h:Heap}(hF:∀a o,F a=some o->h.get? a=some o){v:Value}{d:D}(r:Rep prog w F v d):d.canLay0=true->∃as,Reads h v d as:=
 Rep.rec (motive_1:=fun v d _=>d.canLay0=true->∃as,Reads h v d as) (motive_2:=fun vs ds _=>PyData.canLayAll0 ds=true->∃as,ReadsAll h vs ds as)
  (fun _=>⟨_,.none⟩) (fun b _=>⟨_,.bool b⟩) (fun i t _=>⟨_,.int i t⟩) (fun x t _=>⟨_,.str x t⟩)
  (fun a b c _ r e=>(r e).elim fun _ q=>⟨_,.list (hF _ _ a) b c q⟩) (fun a b c _ r e=>(r e).elim fun _ q=>⟨_,.tuple (hF _ _ a) b c q⟩) (fun _ _ _ _ _ e=>nomatch e)
  (fun _=>⟨_,.nil⟩) (fun _ _ a r e=>(a (Bool.and_eq_true_iff.mp e).1).elim fun _ p=>(r (Bool.and_eq_true_iff.mp e).2).elim fun _ q=>⟨_,.cons p q⟩) r
theorem Rep.handed(h:Rep prog w F v d):handedIn v=true:=
 Rep.casesOn (motive_1:=fun v _ _=>handedIn v=true) h rfl (fun _=>rfl) (fun _ _=>rfl) (fun _ _=>rfl) (fun _ _ _ _=>rfl) (fun _ _ _ _=>rfl) fun _ _ _ _=>rfl
end
structure PS where
 fnAddr:Nat->Addr
 clsAddr:Nat->Addr
 attrName:Nat->Str
 na:Nat
 methName:Nat->Str
 fnName:List (Str×Nat)
 clsName:List (Str×Nat)
 glName:List (Str×Nat)
 me:Nat->Nat->Option Nat
 ini:Nat->Option Nat
class inductive RepKV (prog:Program) (w:World) (F:Fz) {K:Type}:List (K×Value)->List (K×D)->Prop
 |nil:RepKV prog w F [] []
 |cons {k:K} {v:Value} {d:D} {r:List (K×Value)} {r':List (K×D)}:Rep prog w F v d->RepKV prog w F r r'->RepKV prog w F ((k,v)::r) ((k,d)::r')
abbrev IS:=Int ⊕ Str
noncomputable def IS.is:IS->Value->Bool
 | .inl k,v=>Value.isInt k v
 | .inr x,v=>Value.isStrOf x v
noncomputable def IS.hash(w:World):IS->Int
 | .inl k=>hashInt k
 | .inr x=>hashStr w x
section
variable {prog:Program}{w:World}{A:Around}{E:Value->Shared->Prop}{s:Shared}
theorem tY{a:Int}{t u:Tok}{x:Str}{Q:Bool->Shared->Prop}(h:Q false s):wpAny (model prog w) A (eqBool (.int a t) (.str x u)) Q E s:=
 (SeqAt.EqAt.int_str a t x u:SeqAt.EqAt A s _ _ _) prog w E Q h
theorem tZ{a:Int}{t u:Tok}{x:Str}{Q:Bool->Shared->Prop}(h:Q false s):wpAny (model prog w) A (eqBool (.str x u) (.int a t)) Q E s:=
 (SeqAt.EqAt.str_int x u a t:SeqAt.EqAt A s _ _ _) prog w E Q h
end
def tA(prog:Program)(w:World):PySem.KeyKind prog w IS where
 is:=IS.is
 hash:=IS.hash w
 inj:=fun v a b ha hb=>by
  cases a with
  |inl a=>
   cases b with
   |inl b=>exact bU _ (Value.isInt_inj v a b ha hb)
   |inr b=>
    obtain⟨t,rfl⟩:=Value.isInt_shape ha;exact absurd hb (by simp[IS.is,Value.isStrOf])
  |inr a=>
   cases b with
   |inl b=>
    obtain⟨t,rfl⟩:=Value.isInt_shape hb;exact absurd ha (by simp[IS.is,Value.isStrOf])
   |inr b=>exact bU _ (Value.isStrOf_inj v a b ha hb)
 byValue:=fun k v h=>by
  cases k with
  |inl k=>exact(intKind prog w).byValue k v h
  |inr x=>exact(strKind prog w).byValue x v h
 pyHash:=fun{_ _ _ k _ _} hv h=>by
  cases k with
  |inl k=>exact(intKind prog w).pyHash (k:=k) hv h
  |inr x=>exact(strKind prog w).pyHash (k:=x) hv h
 eqBool:=fun{_ _ _ a b _ _ _} hu hv h=>by
  cases a with
  |inl a=>
   cases b with
   |inl b=>exact(intKind prog w).eqBool (a:=a) (b:=b) hu hv (by simpa using h)
   |inr b=>
    obtain⟨t,rfl⟩:=Value.isInt_shape hu;obtain⟨u,rfl⟩:=Value.isStrOf_shape hv;exact tY (by simpa using h)
  |inr a=>
   cases b with
   |inl b=>
    obtain⟨t,rfl⟩:=Value.isInt_shape hv;obtain⟨u,rfl⟩:=Value.isStrOf_shape hu;exact tZ (by simpa using h)
   |inr b=>exact(strKind prog w).eqBool (a:=a) (b:=b) hu hv (by simpa using h)
 «strs»:=fun k x t v h=>by
  cases k with
  |inl k=>exact absurd h (by simp[IS.is,Value.isInt])
  |inr y=>exact PySem.KeyKind.«strs» (strKind prog w) y x t v h
def nK(k:Int×Int):List IS:=[.inl k.1,.inr sNe,.inl k.2]
section
variable (prog:Program)(w:World)(P:PS)
inductive aCC(F:Fz)(ds:List D)(o:Obj):Prop
 |mk (xs:Array Value) (n:Nat):o=listOf xs n->aM prog w F xs.toList ds->aCC F ds o
inductive Xc{α:Type}[DecidableEq α](knd:PySem.KeyKind prog w α)(F:Fz)(l9:List (α×D))(o:Obj):Prop
 |mk (l:List (α×Value)):o.IsDictOf knd l->RepKV prog w F l l9->Xc knd F l9 o
inductive CDt(F:Fz)(ks:List (Int×Int))(o:Obj):Prop
 |mk (xs:List (List IS×Addr×Value)) (es:Array DictEntry) (ep:Nat):o.ExactDict->o.data= .dict es ep->es.toList=xs.map (entryOfKey (tupleKind (tA prog w)))->
   (xs.map (·.1)).Nodup->xs.map (·.1)=ks.map nK->(∀x∈xs,x.2.2= .bool true/\∃k,x.1=nK k/\Rep prog w F (.ref x.2.1) (lP k))->CDt F ks o
def Xd(F:Fz)(o:Obj)(c:C):Prop:=match c with
 | .lst ds=>aCC prog w F ds o
 | .di l9=>Xc prog w (intKind prog w) F l9 o
 | .ds l9=>Xc prog w (strKind prog w) F l9 o
 | .dt ks=>CDt prog w F ks o
inductive pS(F:Fz)(h:Heap)(a:Addr)(c:C):Prop
 |mk (o:Obj):h.get? a=some o->Xd prog w F o c->pS F h a c
inductive IsC(F:Fz)(h:Heap)(c:C)(v:Value)(fp:List Addr):Prop
 |mk (a:Addr):v= .ref a->(a==sysModules)=false->pS prog w F h a c->fp=[a]->IsC F h c v fp
def mW(F:Fz)(h:Heap)(v:Value)(x:AV)(fp:List Addr):Prop:=match x with
 | .d y=>Rep prog w F v y/\fp=[]
 | .c c=>IsC prog w F h c v fp
class inductive AttrsRep (F:Fz) (h:Heap):List DictEntry->List (Nat×AV)->List Addr->Prop
 |nil:AttrsRep F h [] [] []
 |cons {e:DictEntry} {es:List DictEntry} {id:Nat} {x:AV} {r:List (Nat×AV)} {t:Tok} {fp n5:List Addr}:e.key= .str (P.attrName id) t->id<P.na->mW prog w F h e.val x fp->AttrsRep F h es r n5->
   AttrsRep F h (e::es) ((id,x)::r) (fp++n5)
inductive IsI(F:Fz)(h:Heap)(cl:Nat)(n4:List (Nat×AV))(v:Value)(fp:List Addr):Prop
 |mk (y dd:Addr) (es:List DictEntry) (n:Nat) (n5:List Addr):P.ini cl≠none->v= .ref y->F y=some (instObj (P.clsAddr cl) dd)->h.get? dd=some (dictOf es n)->AttrsRep prog w P F h es n4 n5->fp=dd::n5->fp.Nodup->IsI F h cl n4 v fp
def hO(F:Fz)(h:Heap)(v:Value)(x:V)(fp:List Addr):Prop:=match x with
 | .d y=>Rep prog w F v y/\fp=[]
 | .c c=>IsC prog w F h c v fp
 | .inst cl n4=>IsI prog w P F h cl n4 v fp
end
section
variable {prog:Program}{w:World}{P:PS}{F F':Fz}{h h':Heap}
theorem RepKV.mono{K:Type}(hF:F.Le F'){l:List (K×Value)}{l':List (K×D)}(r:RepKV prog w F l l'):RepKV prog w F' l l':=by
 induction r with
 |nil=>exact .nil
 |cons a _ ih=>exact .cons (a.mono hF) ih
theorem Xd.mono(hF:F.Le F'){o:Obj}{c:C}(x:Xd prog w F o c):Xd prog w F' o c:=by
 cases c with
 |lst ds=>obtain⟨xs,n,e,r⟩:=x;exact⟨xs,n,e,r.mono hF⟩
 |di l9=>obtain⟨k,a,r⟩:=x;exact⟨k,a,r.mono hF⟩
 |ds l9=>obtain⟨k,a,r⟩:=x;exact⟨k,a,r.mono hF⟩
 |dt ks=>
  obtain⟨xs,es,ep,a,b,c,d,e,r⟩:=x;exact⟨xs,es,ep,a,b,c,d,e,fun x hx=>⟨(r x hx).1,(r x hx).2.imp fun k e=>⟨e.1,e.2.mono hF⟩⟩⟩
theorem pS.mono(hF:F.Le F'){a:Addr}(hk:∀o,h.get? a=some o->h'.get? a=some o){c:C}(x:pS prog w F h a c):pS prog w F' h' a c:=by obtain⟨o,ho,r⟩:=x;exact⟨o,hk o ho,r.mono hF⟩
theorem IsC.mono(hF:F.Le F'){v:Value}{c:C}{fp:List Addr}(r:IsC prog w F h c v fp)(hk:∀a∈fp,∀o,h.get? a=some o->h'.get? a=some o):IsC prog w F' h' c v fp:=by obtain⟨a,e,n,r,rfl⟩:=r;exact⟨a,e,n,r.mono hF (hk a (.head _)),rfl⟩
theorem mW.mono(hF:F.Le F'){v:Value}{x:AV}{fp:List Addr}(hk:∀a∈fp,∀o,h.get? a=some o->h'.get? a=some o)(r:mW prog w F h v x fp):mW prog w F' h' v x fp:=by
 cases x with
 |d y=>exact⟨r.1.mono hF,r.2⟩
 |c c=>exact IsC.mono hF r hk
theorem AttrsRep.mono(hF:F.Le F'){es:List DictEntry}{at_:List (Nat×AV)}{fp:List Addr}(r:AttrsRep prog w P F h es at_ fp)(hk:∀a∈fp,∀o,h.get? a=some o->h'.get? a=some o):AttrsRep prog w P F' h' es at_ fp:=by
 induction r with
 |nil=>exact .nil
 |cons a a' b _ ih=>exact .cons a a' (b.mono hF fun x hx=>hk x (List.mem_append_left _ hx)) (ih fun x hx=>hk x (List.mem_append_right _ hx))
theorem hO.mono(hF:F.Le F'){v:Value}{x:V}{fp:List Addr}(r:hO prog w P F h v x fp)(hk:∀a∈fp,∀o,h.get? a=some o->h'.get? a=some o):hO prog w P F' h' v x fp:=by
 cases x with
 |d y=>exact⟨r.1.mono hF,r.2⟩
 |c c=>exact IsC.mono hF r hk
 |inst cl n4=>
  obtain⟨y,dd,es,n,n5,e0,e,hy,hd,r,rfl,nd⟩:=r;exact⟨y,dd,es,n,n5,e0,e,hF _ _ hy,hk dd (.head _) _ hd,r.mono hF fun a ha=>hk a (.tail _ ha),rfl,nd⟩
theorem IsC.there{v:Value}{c:C}{fp:List Addr}(r:IsC prog w F h c v fp)(a:Addr)(ha:a∈fp):∃o,h.get? a=some o:=by obtain⟨b,_,_,⟨o,ho,_⟩,rfl⟩:=r;rw[dJ.mp ha];exact⟨o,ho⟩
theorem AttrsRep.there{es:List DictEntry}{at_:List (Nat×AV)}{n5:List Addr}(r:AttrsRep prog w P F h es at_ n5)(a:Addr)(ha:a∈n5):∃o,h.get? a=some o:=by
 induction r with
 |nil=>cases ha
 | @cons e es id x r t fp n5 _ _ b _ ih=>
  refine(dF.mp ha).elim (fun ha=>?_) ih
  cases x with
  |d y=>rw[b.2] at ha;cases ha
  |c c=>exact IsC.there b a ha
theorem hO.there{v:Value}{x:V}{fp:List Addr}(r:hO prog w P F h v x fp)(a:Addr)(ha:a∈fp):∃o,h.get? a=some o:=by
 cases x with
 |d y=>rw[r.2] at ha;cases ha
 |c c=>exact IsC.there r a ha
 |inst cl n4=>
  obtain⟨y,dd,es,n,n5,e0,e,hy,hd,r,rfl,nd⟩:=r;exact(iA.mp ha).elim (fun e=>⟨_,e▸hd⟩) (r.there a)
end
theorem dL{α:Type}{o:Option α}{x:α}{p:Prop}(h1:o=some x)(h2:o=none):p:=(nn (h2.symm.trans h1)).elim
theorem kA{h h':Heap}(hk:∀a o,h.get? a=some o->h'.get? a=some o)(a:Addr)(e:h'.get? a=none):h.get? a=none:=by
 cases e':h.get? a with
 |none=>rfl
 |some o=>exact dL (hk a o e') e
theorem rJ{h h':Heap}{D:Addr}(hk:∀a o,a≠D->h.get? a=some o->h'.get? a=some o)(ht:∃o,h'.get? D=some o)(a:Addr)(e:h'.get? a=none):h.get? a=none:=by
 by_cases q:a=D
 ·obtain⟨o,ho⟩:=ht;exact dL (q▸ho) e
 ·cases e':h.get? a with
  |none=>rfl
  |some o=>exact dL (hk a o q e') e
theorem fS{c:Prop}[Decidable c]{x y:List Addr}{a:Addr}(h:a∈(if c then x else y)):(c/\a∈x)\/(¬c/\a∈y):=by
 by_cases q:c
 ·rw[aJ q] at h;exact .inl ⟨q,h⟩
 ·rw[aR q] at h;exact .inr ⟨q,h⟩
inductive bF where
 |ns (L:Addr) (x:Str)
 |cell (c:Addr)
 deriving DecidableEq
noncomputable def bF.addr:bF->Addr
 | .ns L _=>L
 | .cell c=>c
def bF.At(h:Heap):bF->Value->Prop
 | .ns L x,v=>∃m,h.Ns L m/\m x=some v
 | .cell c,v=>h.IsCell c (some v)
def bF.There(h:Heap):bF->Prop
 | .ns L _=>∃m,h.Ns L m
 | .cell c=>∃v,h.IsCell c v
theorem bF.At.keep{h h':Heap}{l:bF}{v:Value}(x:l.At h v)(hk:∀o,h.get? l.addr=some o->h'.get? l.addr=some o):l.At h' v:=by
 cases l with
 |ns L y=>refine aP x fun m Q1 e=>?_;obtain⟨o,es,ep,ho,r⟩:=Q1;exact(aH m (nA o es ep (hk o ho) r) e)
 |cell c=>refine aP x fun o ho r=>?_;exact(aH o (hk o ho) r)
theorem bF.There.keep{h h':Heap}{l:bF}(x:l.There h)(hk:∀o,h.get? l.addr=some o->h'.get? l.addr=some o):l.There h':=by
 cases l with
 |ns L y=>refine X1 x fun m Q1=>?_;obtain⟨o,es,ep,ho,r⟩:=Q1;exact⟨m,(nA o es ep (hk o ho) r)⟩
 |cell c=>refine fG x fun v o ho r=>?_;exact(hN v o (hk o ho) r)
theorem bF.There.some{h:Heap}{l:bF}(x:l.There h):∃o,h.get? l.addr= .some o:=by
 cases l with
 |ns L y=>refine X1 x fun m Q1=>?_;obtain⟨o,es,ep,ho,r⟩:=Q1;exact⟨o,ho⟩
 |cell c=>refine fG x fun v o ho r=>?_;exact⟨o,ho⟩
theorem bF.At.unique{h:Heap}{l:bF}{v v':Value}(x:l.At h v)(y:l.At h v'):v=v':=by
 cases l with
 |ns L z=>
  apply bc;intro Z;refine aP x fun m Q1 e=>?_;obtain⟨o,es,ep,ho,hd,_,hm⟩:=Q1;refine aP y fun m' Q1 e'=>?_;obtain⟨o',es',ep',ho',hd',_,hm'⟩:=Q1;rw[ho] at ho';cases ho';rw[hd] at hd';cases hd';apply Z;clear Z;rw[<-hm] at e;rw[<-hm',e] at e';cases e';rfl
 |cell c=>
  apply bc;intro Z;refine aP x fun o ho hd=>aP y fun o' ho' hd'=>?_;rw[ho] at ho';cases ho';apply Z;clear Z;rw[hd] at hd';cases hd';rfl
def Oj(env:Env)(x:Str):bF->Prop
 | .ns L y=>y=x/\env.locals=L/\env.kindOf x=some .local
 | .cell c=>env.cells.lookup x=some c/\(env.kindOf x=some .cell\/env.kindOf x=some .free)
structure Fm(env:Env)(res:List (Str×Nat))(b8:List bF):Prop where
 kind:env.scope.kind= .function
 glob:env.globals=mainGlobals
 blt:env.builtins=builtinsNs
 res:∀x i,res.lookup x=some i->∃l,b8[i]?=some l/\Oj env x l
 apart:b8.Nodup
structure Fi(prog:Program)(w:World)(P:PS)(h:Heap)(F:Fz)(b8:List bF)(σ:Sg)(fp:Nat->List Addr):Prop where
 len:σ.length=b8.length
 there:∀l∈b8,l.There h
 sl:∀i v,σ.get i=some v->∃l x,b8[i]?=some l/\l.At h x/\hO prog w P F h x v (fp i)
 emp:∀i,σ.get i=none->fp i=[]
 dj:∀i j a,a∈fp i->a∈fp j->i=j
 off:∀i a,a∈fp i->F a=none/\∀l∈b8,l.addr≠a
 offL:∀l∈b8,F l.addr=none
def Own(fp:Nat->List Addr)(a:Addr):Prop:=∃i,a∈fp i
structure Tr(b:Bool)(F:Fz)(s:Shared)(W:Addr->Prop)(F':Fz)(s':Shared):Prop where
 mono:F.Le F'
 kept:∀a o,s.heap.get? a=some o->(b=true-> ¬W a)->s'.heap.get? a=some o
 alive:∀a,s'.heap.get? a=none->s.heap.get? a=none
 fz:∀a o,F' a=some o->s'.heap.get? a=some o
 fresh:∀a,F' a≠none->F a≠none\/W a\/s.heap.get? a=none
 rest:s'={s with heap:=s'.heap,toks:=s'.toks}
theorem Tr.refl{F:Fz}{s:Shared}(b:Bool)(W:Addr->Prop)(hF:∀a o,F a=some o->s.heap.get? a=some o):Tr b F s W F s:=⟨.refl F,fun _ _ e _=>e,fun _ e=>e,hF,fun _ h=> .inl h,rfl⟩
theorem Tr.trans{b:Bool}{F c6 d5:Fz}{s c5 c9:Shared}{W W₁:Addr->Prop}(x:Tr b F s W c6 c5)(y:Tr b c6 c5 W₁ d5 c9)
  (hW:∀a,W₁ a->W a\/s.heap.get? a=none):Tr b F s W d5 c9 where
 mono:=x.mono.trans y.mono
 kept:=fun a o e n=>y.kept a o (x.kept a o e n) fun hb m=>(hW a m).elim (n hb) fun e'=>by rw[e'] at e;cases e
 alive:=fun a e=>x.alive a (y.alive a e)
 fz:=y.fz
 fresh:=fun a h=>by
  rcases y.fresh a h with h|h|h
  ·exact x.fresh a h
  ·rcases hW a h with h|h
   ·exact .inr (.inl h)
   ·exact .inr (.inr h)
  ·exact .inr (.inr (x.alive a h))
 rest:=by rw[y.rest,x.rest]
theorem Tr.up{b b':Bool}{F F':Fz}{s s':Shared}{W W':Addr->Prop}(x:Tr b F s W F' s')(hb:b=true->b'=true)(hW:∀a,W a->W' a\/s.heap.get? a=none):Tr b' F s W' F' s' where
 mono:=x.mono
 kept:=fun a o e n=>x.kept a o e fun h m=>(hW a m).elim (n (hb h)) fun e'=>by rw[e'] at e;cases e
 alive:=x.alive
 fz:=x.fz
 fresh:=fun a h=>by
  rcases x.fresh a h with h|h|h
  ·exact .inl h
  ·rcases hW a h with h|h
   ·exact .inr (.inl h)
   ·exact .inr (.inr h)
  ·exact .inr (.inr h)
 rest:=x.rest
structure Good(k:Nat)(A:Around):Prop where
 handled:A.handled=none
 depth:A.depth+k<=500
 units:A.units+4*k<=5000
theorem Good.le{k k':Nat}{A:Around}(g:Good k A)(h:k'<=k):Good k' A:=⟨g.handled,by have:=g.depth;lia,by have:=g.units;lia⟩
structure Gl(prog:Program)(w:World)(K:Frag)(b5:Heap)(mg mb:Str->Option Value):Prop where
 inK:K.In b5
 g:b5.Ns mainGlobals mg
 b:b5.Ns builtinsNs mb
 nolimit:b5.NoLimit
 far:∃a o,b5.get? a=some o/\sysModules<=a
 builtins:∀x:Str,x≠"__name__"->mb x=bootBuiltins x
abbrev NoE:Value->Shared->Prop:=fun _ _=>False
noncomputable def Fz.add(F:Fz)(a:Addr)(o:Obj):Fz:=fun b=>if b=a then some o else F b
section
variable {prog:Program}{w:World}{P:PS}{b5:Heap}
structure Go(prog:Program)(w:World)(P:PS)(b8:List bF)(b:Bool)(F:Fz)(fp:Nat->List Addr)(s:Shared)(F':Fz)(e9:Nat->List Addr)(s':Shared)(d7:Sg):Prop where
 tr:Tr b F s (Own fp) F' s'
 fi:Fi prog w P s'.heap F' b8 d7 e9
 sub:∀i a,a∈e9 i->a∈fp i\/s.heap.get? a=none
variable {b8:List bF}{b b':Bool}{F c6 d5:Fz}{fp c7 d4:Nat->List Addr}{s c5 c9:Shared}{σ b9 c8:Sg}
theorem Go.refl(b:Bool)(hF:∀a o,F a=some o->s.heap.get? a=some o)(fi:Fi prog w P s.heap F b8 σ fp):Go prog w P b8 b F fp s F fp s σ:=⟨.refl b _ hF,fi,fun _ _ h=> .inl h⟩
theorem Go.trans(x:Go prog w P b8 b F fp s c6 c7 c5 b9)(y:Go prog w P b8 b c6 c7 c5 d5 d4 c9 c8):Go prog w P b8 b F fp s d5 d4 c9 c8 where
 tr:=x.tr.trans y.tr fun a ⟨i,h⟩=>(x.sub i a h).imp (fun h=>⟨i,h⟩) id
 fi:=y.fi
 sub:=fun i a h=>(y.sub i a h).elim (x.sub i a) fun e=> .inr (x.tr.alive a e)
theorem Go.up(x:Go prog w P b8 b F fp s c6 c7 c5 b9)(h:b=true->b'=true):Go prog w P b8 b' F fp s c6 c7 c5 b9:=⟨x.tr.up h fun _ h=> .inl h,x.fi,x.sub⟩
theorem Fi.keep{h h':Heap}(x:Fi prog w P h F b8 σ fp)(hF:F.Le c6)(hk:∀a o,h.get? a=some o->h'.get? a=some o)(hn:∀a,c6 a≠none->F a≠none\/h.get? a=none):Fi prog w P h' c6 b8 σ fp where
 len:=x.len
 there:=fun l hl=>(x.there l hl).keep fun o e=>hk _ o e
 sl:=fun i v e=>cJ (x.sl i v e) fun l y h1 h2 h3=>dW l y h1 (h2.keep fun o e=>hk _ o e) (h3.mono hF fun a _ o e=>hk a o e)
 emp:=x.emp
 dj:=x.dj
 off:=fun i a ha=>⟨(by
  refine Classical.byContradiction fun n=>?_;rcases hn a n with h1|h1
  ·exact h1 (x.off i a ha).1
  ·have:σ.get i≠none:=fun e=>by rw[x.emp i e] at ha;cases ha
   cases e:σ.get i with
   |none=>exact this e
   |some v=>
    refine cJ (x.sl i v e) fun l y _ _ r=>X1 (r.there a ha) fun o ho=>?_;rw[ho] at h1;(cases h1)),(x.off i a ha).2⟩
 offL:=fun l hl=>by
  refine Classical.byContradiction fun n=>?_;rcases hn _ n with h1|h1
  ·exact h1 (x.offL l hl)
  ·refine X1 ((x.there l hl).some) fun o ho=>?_;rw[ho] at h1;cases h1
theorem Fi.own_there{h:Heap}(x:Fi prog w P h F b8 σ fp){i:Nat}{a:Addr}(ha:a∈fp i):∃o,h.get? a=some o:=by
 cases e:σ.get i with
 |none=>rw[x.emp i e] at ha;cases ha
 |some v=>refine cJ (x.sl i v e) fun l y _ _ r=>?_;exact r.there a ha
theorem Go.keep{h':Heap}{tk:Nat}(hF:∀a o,F a=some o->s.heap.get? a=some o)(fi:Fi prog w P s.heap F b8 σ fp)(hk:∀a o,s.heap.get? a=some o->h'.get? a=some o):
  Go prog w P b8 b F fp s F fp {s with heap:=h',toks:=tk} σ where
 tr:=⟨.refl F,fun a o e _=>hk a o e,(fun a e=>by
   cases e':s.heap.get? a with
   |none=>rfl
   |some o=>rw[hk a o e'] at e;cases e),fun a o e=>hk a o (hF a o e),fun a h=> .inl h,rfl⟩
 fi:=fi.keep (.refl F) hk fun a h=> .inl h
 sub:=fun _ _ h=> .inl h
theorem Fz.add_le(F:Fz){a:Addr}{o:Obj}(h:F a=none):F.Le (F.add a o):=fun b o' e=>by
 unfold Fz.add
 split
 ·rename_i h1;rw[h1,h] at e;cases e
 ·exact e
theorem Fz.add_self(F:Fz)(a:Addr)(o:Obj):F.add a o a=some o:=by simp[Fz.add]
theorem Go.made{h':Heap}{tk:Nat}{a:Addr}{o:Obj}(hF:∀a o,F a=some o->s.heap.get? a=some o)(fi:Fi prog w P s.heap F b8 σ fp)(hk:∀a o,s.heap.get? a=some o->h'.get? a=some o)
  (hn:s.heap.get? a=none) (ho:h'.get? a=some o):Go prog w P b8 b F fp s (F.add a o) fp {s with heap:=h',toks:=tk} σ:=by
 have fn:F a=none:=by
  cases e:F a with
  |none=>rfl
  |some o'=>rw[hF a o' e] at hn;cases hn
 refine⟨⟨F.add_le fn,fun a o e _=>hk a o e,fun a e=>?_,fun c o' e=>?_,fun c h=>?_,rfl⟩,fi.keep (F.add_le fn) hk fun c h=>?_,fun _ _ h=> .inl h⟩
 ·cases e':s.heap.get? a with
  |none=>rfl
  |some o=>rw[hk a o e'] at e;cases e
 ·unfold Fz.add at e
  split at e
  ·rename_i h1;cases e;rw[h1];exact ho
  ·exact hk c o' (hF c o' e)
 ·unfold Fz.add at h
  split at h
  ·rename_i h1;rw[h1];exact .inr (.inr hn)
  ·exact .inl h
 ·unfold Fz.add at h
  split at h
  ·rename_i h1;rw[h1];exact .inr hn
  ·exact .inl h
end
section
variable (prog:Program)(w:World)(P:PS)(b8:List bF)(b:Bool)(F:Fz)(fp:Nat->List Addr)(s:Shared)
inductive Aj(d7:Sg)(d:D)(x:Value)(s':Shared):Prop
 |mk (F':Fz) (e9:Nat->List Addr):Go prog w P b8 b F fp s F' e9 s' d7->Rep prog w F' x d->Aj d7 d x s'
inductive Ol(d7:Sg)(ds:List D)(xs:List Value)(s':Shared):Prop
 |mk (F':Fz) (e9:Nat->List Addr):Go prog w P b8 b F fp s F' e9 s' d7->aM prog w F' xs ds->Ol d7 ds xs s'
inductive eH(d7:Sg)(v:V)(x:Value)(s':Shared):Prop
 |mk (F':Fz) (e9:Nat->List Addr) (fx:List Addr):Go prog w P b8 b F fp s F' e9 s' d7->hO prog w P F' s'.heap x v fx->(∀a∈fx,s.heap.get? a=none/\F' a=none/\∀i,a∉e9 i)->eH d7 v x s'
inductive qJ(d7:Sg)(t:Bool)(x:Bool)(s':Shared):Prop
 |mk (F':Fz) (e9:Nat->List Addr):Go prog w P b8 b F fp s F' e9 s' d7->x=t->qJ d7 t x s'
end
section
variable {prog:Program}{w:World}{P:PS}{b8:List bF}{b b':Bool}{F F':Fz}{fp e9:Nat->List Addr}{s s':Shared}{σ d7:Sg}{d:D}{x:Value}
theorem eH.toD(h:eH prog w P b8 b F fp s d7 (.d d) x s'):Aj prog w P b8 b F fp s d7 d x s':=by obtain⟨F',e9,fx,g,r,_⟩:=h;exact⟨F',e9,g,r.1⟩
theorem Aj.toE(h:Aj prog w P b8 b F fp s d7 d x s'):eH prog w P b8 b F fp s d7 (.d d) x s':=by obtain⟨F',e9,g,r⟩:=h;exact⟨F',e9,[],g,⟨r,rfl⟩,fun _ h=>by cases h⟩
end
end Mine
namespace Mine
open PySem PySem.W
noncomputable def aCD:Option Stmt->Arguments×List Stmt×Scope
 |some (.FunctionDef _ a b _ _ _ sc _ _ _)=>(a,b,sc)
 |_=>(default,[],default)
noncomputable abbrev pw:Program:=PySem.Challenge.pw_pc0048_01
def bB(i:Nat):Arguments×List Stmt×Scope:=aCD (pw.main.body[i]?)
noncomputable def Xe:Option Stmt->List Stmt
 |some (.ClassDef _ _ _ b _ _ _ _ _ _ _)=>b
 |_=>[]
def aX(c i:Nat):Arguments×List Stmt×Scope:=aCD ((Xe (pw.main.body[c]?))[i]?)
noncomputable def st(x:String)(t:Nat):Value:= .str (.ofString x) t
noncomputable def dO(P:Params)(c:Value)(ep:Nat)(l:List (String×Nat×Value)):Obj:={cls:=c,data:= .dict (l.map fun x=>⟨PyData.keyHash P (.ofString x.1),.str (.ofString x.1) x.2.1,x.2.2⟩).toArray ep}
noncomputable def sO(c:Value)(l:List Value)(ep:Nat):Obj:={cls:=c,data:= .seq l.toArray ep}
noncomputable def cO(l:List Value):Obj:={cls:= .type "code",data:= .fields l.toArray}
noncomputable def fD(d:Arguments×List Stmt×Scope)(name qual:String)(clo:List (Str×Addr))(ct:Value)(md:String)(mt cd:Nat):FuncData:=
 {name:= .ofString name,qualname:= .ofString qual,params:=d.1,body:= .stmts d.2.1,scope:=d.2.2,globals:=3,closure:=clo,defaults:= .none,kwdefaults:= .none,pyModule:= .str (.ofString md) mt,code:= .ref cd,closureTuple:=ct}
noncomputable def fO(fd:FuncData):Obj:={cls:= .type "function",data:= .func fd}
def KK(P:Params):Frag:=[
 (2,dO P .none 0 []),
 (3,dO P (.type "dict") 38 [("__name__",165,(st "law_pc0048_01" 708)),("__doc__",166,.none),("__package__",167,.none),("__loader__",168,(.builtin "__main__.__loader__#opaque")),("__spec__",169,.none),("__annotations__",170,(.ref 6)),("__builtins__",171,(.ref 4)),("__file__",173,(st "/claim/cut.py" 172)),("__cached__",174,.none),("_wall",193,(.ref 21)),("least",202,(.ref 28)),("greatest",209,(.ref 35)),("next_from",219,(.ref 42)),("has",227,(.ref 49)),("has_domains",228,(.ref 49)),("values",238,(.ref 56)),("up_to",244,(.ref 61)),("from_on",250,(.ref 66)),("without",258,(.ref 73)),("meet",271,(.ref 80)),("negation",281,(.ref 87)),("struck",291,(.ref 94)),("said_of",300,(.ref 101)),("Store",494,(.ref 251)),("Propagator",549,(.ref 293)),("Regular",707,(.ref 392)),("_law_firsts",720,(.ref 404)),("_law_dip",730,(.ref 411)),("_law_words",736,(.ref 416)),("_law_lets",746,(.ref 423)),("_law_are_true",752,(.ref 428)),("_law_let_by",758,(.ref 433)),("_law_left",764,(.ref 438)),("_law_seen",770,(.ref 443)),("_law_are_followed",776,(.ref 448)),("_law_asked",791,(.ref 455)),("_law_decided",803,(.ref 462)),("law",809,(.ref 467))]),
 (250,dO P (.type "dict") 4 [("__module__",310,(st "fdsolve.store" 301)),("__firstlineno__",314,(.int 59 313)),("__init__",321,(.ref 115)),("new_var",329,(.ref 122)),("size",336,(.ref 129)),("dom",344,(.ref 136)),("initial",352,(.ref 143)),("low",360,(.ref 150)),("high",368,(.ref 157)),("has",377,(.ref 164)),("is_fixed",385,(.ref 171)),("value",393,(.ref 178)),("width",401,(.ref 185)),("holds",409,(.ref 192)),("enter",422,(.ref 199)),("strike",431,(.ref 206)),("decide",439,(.ref 213)),("fail",447,(.ref 220)),("push",454,(.ref 227)),("pop",464,(.ref 234)),("depth",471,(.ref 241)),("changed",478,(.ref 248)),("__static_attributes__",487,(.ref 249)),("__dict__",489,(.ref 252)),("__weakref__",491,(.ref 253)),("__doc__",492,.none)]),
 (251,{cls:=(.type "type"),data:= .cls {name:= .ofString "Store",bases:=[(.type "object")],mro:=[(.ref 251),(.type "object")],ns:=250,qualname:= .ofString "Store",subclasses:=[],hasDict:=true,hasDel:=false,abstract:=false,collection:=none},slots:= #[none,none,some (st "Store" 303),some (st "Store" 311),some (.builtin "object.__new__"),some (.bool true)]}),
 (292,dO P (.type "dict") 4 [("__module__",502,(st "fdsolve.store" 301)),("__firstlineno__",506,(.int 152 505)),("__init__",515,(.ref 269)),("propagate",523,(.ref 276)),("check",531,(.ref 283)),("told",538,(.ref 290)),("__static_attributes__",542,(.ref 291)),("__dict__",544,(.ref 294)),("__weakref__",546,(.ref 295)),("__doc__",547,.none)]),
 (293,{cls:=(.type "type"),data:= .cls {name:= .ofString "Propagator",bases:=[(.type "object")],mro:=[(.ref 293),(.type "object")],ns:=292,qualname:= .ofString "Propagator",subclasses:=[(.ref 392)],hasDict:=true,hasDel:=false,abstract:=false,collection:=none},slots:= #[none,none,some (st "Propagator" 495),some (st "Propagator" 503),some (.builtin "object.__new__"),some (.bool true)]}),
 (391,dO P (.type "dict") 3 [("__module__",559,(st "fdsolve.regular" 550)),("__firstlineno__",563,(.int 168 562)),("__init__",577,(.ref 313)),("told",584,(.ref 320)),("check",592,(.ref 327)),("reached_of",598,(.ref 332)),("alive_of",604,(.ref 337)),("note_dead",621,(.ref 344)),("note_unreached",636,(.ref 351)),("reasons_of",642,(.ref 356)),("why_not",660,(.ref 363)),("has_support",672,(.ref 370)),("keep_letters",681,(.ref 377)),("strike_round",687,(.ref 382)),("propagate",696,(.ref 389)),("__static_attributes__",703,(.ref 390)),("__doc__",705,.none)]),
 (392,{cls:=(.type "type"),data:= .cls {name:= .ofString "Regular",bases:=[(.ref 293)],mro:=[(.ref 392),(.ref 293),(.type "object")],ns:=391,qualname:= .ofString "Regular",subclasses:=[],hasDict:=true,hasDel:=false,abstract:=false,collection:=none},slots:= #[some (.ref 298),none,some (st "Regular" 552),some (st "Regular" 560),some (.builtin "object.__new__"),some (.bool true)]}),
 (301,{cls:=(.type "cell"),data:= .cell (some (.ref 392))}),
 (404,sO (.type "list") [(.ref 396),(.ref 398),(.ref 400),(.ref 403)] 0),
 (395,sO (.type "tuple") [(.int 1 710),(.int 3 711)] 0),
 (396,sO (.type "tuple") [(.ref 395)] 0),
 (397,sO (.type "tuple") [(.int 0 712),(.int 3 713)] 0),
 (398,sO (.type "tuple") [(.ref 397)] 0),
 (399,sO (.type "tuple") [(.int 1 714),(.int 4 715)] 0),
 (400,sO (.type "tuple") [(.ref 399)] 0),
 (401,sO (.type "tuple") [(.int 1 716),(.int 1 717)] 0),
 (402,sO (.type "tuple") [(.int 3 718),(.int 3 719)] 0),
 (403,sO (.type "tuple") [(.ref 401),(.ref 402)] 0),
 (42,fO (fD (bB 4) "next_from" "next_from" [] .none "fdsolve.domains" 194 41)),
 (49,fO (fD (bB 5) "has" "has" [] .none "fdsolve.domains" 194 48)),
 (56,fO (fD (bB 7) "values" "values" [] .none "fdsolve.domains" 194 55)),
 (61,fO (fD (bB 8) "up_to" "up_to" [] .none "fdsolve.domains" 194 60)),
 (66,fO (fD (bB 9) "from_on" "from_on" [] .none "fdsolve.domains" 194 65)),
 (73,fO (fD (bB 10) "without" "without" [] .none "fdsolve.domains" 194 72)),
 (80,fO (fD (bB 11) "meet" "meet" [] .none "fdsolve.domains" 194 79)),
 (87,fO (fD (bB 12) "negation" "negation" [] .none "fdsolve.domains" 194 86)),
 (94,fO (fD (bB 13) "struck" "struck" [] .none "fdsolve.domains" 194 93)),
 (115,fO (fD (aX 16 0) "__init__" "Store.__init__" [] .none "fdsolve.store" 301 114)),
 (220,fO (fD (aX 16 15) "fail" "Store.fail" [] .none "fdsolve.store" 301 219)),
 (122,fO (fD (aX 16 1) "new_var" "Store.new_var" [] .none "fdsolve.store" 301 121)),
 (129,fO (fD (aX 16 2) "size" "Store.size" [] .none "fdsolve.store" 301 128)),
 (136,fO (fD (aX 16 3) "dom" "Store.dom" [] .none "fdsolve.store" 301 135)),
 (143,fO (fD (aX 16 4) "initial" "Store.initial" [] .none "fdsolve.store" 301 142)),
 (199,fO (fD (aX 16 12) "enter" "Store.enter" [] .none "fdsolve.store" 301 198)),
 (206,fO (fD (aX 16 13) "strike" "Store.strike" [] .none "fdsolve.store" 301 205)),
 (213,fO (fD (aX 16 14) "decide" "Store.decide" [] .none "fdsolve.store" 301 212)),
 (227,fO (fD (aX 16 16) "push" "Store.push" [] .none "fdsolve.store" 301 226)),
 (234,fO (fD (aX 16 17) "pop" "Store.pop" [] .none "fdsolve.store" 301 233)),
 (269,fO (fD (aX 17 0) "__init__" "Propagator.__init__" [] .none "fdsolve.store" 301 268)),
 (313,fO (fD (aX 19 0) "__init__" "Regular.__init__" [(.ofString "__class__",301)] (.ref 306) "fdsolve.regular" 550 312)),
 (332,fO (fD (aX 19 3) "reached_of" "Regular.reached_of" [] .none "fdsolve.regular" 550 331)),
 (337,fO (fD (aX 19 4) "alive_of" "Regular.alive_of" [] .none "fdsolve.regular" 550 336)),
 (344,fO (fD (aX 19 5) "note_dead" "Regular.note_dead" [] .none "fdsolve.regular" 550 343)),
 (351,fO (fD (aX 19 6) "note_unreached" "Regular.note_unreached" [] .none "fdsolve.regular" 550 350)),
 (356,fO (fD (aX 19 7) "reasons_of" "Regular.reasons_of" [] .none "fdsolve.regular" 550 355)),
 (363,fO (fD (aX 19 8) "why_not" "Regular.why_not" [] .none "fdsolve.regular" 550 362)),
 (370,fO (fD (aX 19 9) "has_support" "Regular.has_support" [] .none "fdsolve.regular" 550 369)),
 (377,fO (fD (aX 19 10) "keep_letters" "Regular.keep_letters" [] .none "fdsolve.regular" 550 376)),
 (382,fO (fD (aX 19 11) "strike_round" "Regular.strike_round" [] .none "fdsolve.regular" 550 381)),
 (389,fO (fD (aX 19 12) "propagate" "Regular.propagate" [] .none "fdsolve.regular" 550 388)),
 (411,fO (fD (bB 22) "_law_dip" "_law_dip" [] .none "law_pc0048_01" 708 410)),
 (416,fO (fD (bB 23) "_law_words" "_law_words" [] .none "law_pc0048_01" 708 415)),
 (423,fO (fD (bB 24) "_law_lets" "_law_lets" [] .none "law_pc0048_01" 708 422)),
 (428,fO (fD (bB 25) "_law_are_true" "_law_are_true" [] .none "law_pc0048_01" 708 427)),
 (433,fO (fD (bB 26) "_law_let_by" "_law_let_by" [] .none "law_pc0048_01" 708 432)),
 (438,fO (fD (bB 27) "_law_left" "_law_left" [] .none "law_pc0048_01" 708 437)),
 (443,fO (fD (bB 28) "_law_seen" "_law_seen" [] .none "law_pc0048_01" 708 442)),
 (448,fO (fD (bB 29) "_law_are_followed" "_law_are_followed" [] .none "law_pc0048_01" 708 447)),
 (455,fO (fD (bB 30) "_law_asked" "_law_asked" [] .none "law_pc0048_01" 708 454)),
 (462,fO (fD (bB 31) "_law_decided" "_law_decided" [] .none "law_pc0048_01" 708 461)),
 (467,fO (fD (bB 32) "law" "law" [] .none "law_pc0048_01" 708 466)),
 (41,cO [(st "next_from" 210),(st "next_from" 211),(st "/claim/cut.py" 212),(.int 9 0),(.int 2 0),(.int 0 0),(.int 0 0),(.int 3 0),(.ref 36),(.bool true),(.int 181 0),(.ref 37),.none,(.ref 38),(.ref 39),(.ref 40),(.int 217 0),(.int 9 0),(st "/claim/cut.py" 218)]),
 (48,cO [(st "has" 220),(st "has" 221),(st "/claim/cut.py" 222),(.int 14 0),(.int 2 0),(.int 0 0),(.int 0 0),(.int 3 0),(.ref 43),(.bool true),(.int 181 0),(.ref 44),.none,(.ref 45),(.ref 46),(.ref 47),(.int 225 0),(.int 14 0),(st "/claim/cut.py" 226)]),
 (55,cO [(st "values" 229),(st "values" 230),(st "/claim/cut.py" 231),(.int 17 0),(.int 1 0),(.int 0 0),(.int 0 0),(.int 3 0),(.ref 50),(.bool true),(.int 181 0),(.ref 51),.none,(.ref 52),(.ref 53),(.ref 54),(.int 236 0),(.int 17 0),(st "/claim/cut.py" 237)]),
 (60,cO [(st "up_to" 239),(st "up_to" 240),(st "/claim/cut.py" 241),(.int 22 0),(.int 2 0),(.int 0 0),(.int 0 0),(.int 3 0),(.ref 57),(.bool true),(.int 181 0),(.ref 58),.none,.none,.none,(.ref 59),(.int 242 0),(.int 22 0),(st "/claim/cut.py" 243)]),
 (65,cO [(st "from_on" 245),(st "from_on" 246),(st "/claim/cut.py" 247),(.int 24 0),(.int 2 0),(.int 0 0),(.int 0 0),(.int 3 0),(.ref 62),(.bool true),(.int 181 0),(.ref 63),.none,.none,.none,(.ref 64),(.int 248 0),(.int 24 0),(st "/claim/cut.py" 249)]),
 (72,cO [(st "without" 251),(st "without" 252),(st "/claim/cut.py" 253),(.int 26 0),(.int 2 0),(.int 0 0),(.int 0 0),(.int 3 0),(.ref 67),(.bool true),(.int 181 0),(.ref 68),.none,(.ref 69),(.ref 70),(.ref 71),(.int 256 0),(.int 26 0),(st "/claim/cut.py" 257)]),
 (79,cO [(st "meet" 259),(st "meet" 260),(st "/claim/cut.py" 261),(.int 28 0),(.int 2 0),(.int 0 0),(.int 0 0),(.int 3 0),(.ref 74),(.bool true),(.int 181 0),(.ref 75),.none,(.ref 76),(.ref 77),(.ref 78),(.int 269 0),(.int 28 0),(st "/claim/cut.py" 270)]),
 (86,cO [(st "negation" 272),(st "negation" 273),(st "/claim/cut.py" 274),(.int 39 0),(.int 1 0),(.int 0 0),(.int 0 0),(.int 3 0),(.ref 81),(.bool true),(.int 181 0),(.ref 82),.none,(.ref 83),(.ref 84),(.ref 85),(.int 279 0),(.int 39 0),(st "/claim/cut.py" 280)]),
 (93,cO [(st "struck" 282),(st "struck" 283),(st "/claim/cut.py" 284),(.int 46 0),(.int 2 0),(.int 0 0),(.int 0 0),(.int 3 0),(.ref 88),(.bool true),(.int 181 0),(.ref 89),.none,(.ref 90),(.ref 91),(.ref 92),(.int 289 0),(.int 46 0),(st "/claim/cut.py" 290)]),
 (114,cO [(st "__init__" 315),(st "Store.__init__" 316),(st "/claim/cut.py" 317),(.int 61 0),(.int 1 0),(.int 0 0),(.int 0 0),(.int 3 0),(.ref 109),(.bool true),(.int 181 0),(.ref 110),.none,(.ref 111),(.ref 112),(.ref 113),(.int 319 0),(.int 61 0),(st "/claim/cut.py" 320)]),
 (219,cO [(st "fail" 440),(st "Store.fail" 441),(st "/claim/cut.py" 442),(.int 127 0),(.int 2 0),(.int 0 0),(.int 0 0),(.int 3 0),(.ref 214),(.bool true),(.int 181 0),(.ref 215),.none,(.ref 216),(.ref 217),(.ref 218),(.int 445 0),(.int 127 0),(st "/claim/cut.py" 446)]),
 (121,cO [(st "new_var" 322),(st "Store.new_var" 323),(st "/claim/cut.py" 324),(.int 71 0),(.int 2 0),(.int 0 0),(.int 0 0),(.int 3 0),(.ref 116),(.bool true),(.int 181 0),(.ref 117),.none,(.ref 118),(.ref 119),(.ref 120),(.int 327 0),(.int 71 0),(st "/claim/cut.py" 328)]),
 (128,cO [(st "size" 330),(st "Store.size" 331),(st "/claim/cut.py" 332),(.int 78 0),(.int 1 0),(.int 0 0),(.int 0 0),(.int 3 0),(.ref 123),(.bool true),(.int 181 0),(.ref 124),.none,(.ref 125),(.ref 126),(.ref 127),(.int 334 0),(.int 78 0),(st "/claim/cut.py" 335)]),
 (135,cO [(st "dom" 337),(st "Store.dom" 338),(st "/claim/cut.py" 339),(.int 81 0),(.int 2 0),(.int 0 0),(.int 0 0),(.int 3 0),(.ref 130),(.bool true),(.int 181 0),(.ref 131),.none,(.ref 132),(.ref 133),(.ref 134),(.int 342 0),(.int 81 0),(st "/claim/cut.py" 343)]),
 (142,cO [(st "initial" 345),(st "Store.initial" 346),(st "/claim/cut.py" 347),(.int 84 0),(.int 2 0),(.int 0 0),(.int 0 0),(.int 3 0),(.ref 137),(.bool true),(.int 181 0),(.ref 138),.none,(.ref 139),(.ref 140),(.ref 141),(.int 350 0),(.int 84 0),(st "/claim/cut.py" 351)]),
 (198,cO [(st "enter" 410),(st "Store.enter" 411),(st "/claim/cut.py" 412),(.int 108 0),(.int 4 0),(.int 0 0),(.int 0 0),(.int 3 0),(.ref 193),(.bool true),(.int 181 0),(.ref 194),.none,(.ref 195),(.ref 196),(.ref 197),(.int 420 0),(.int 108 0),(st "/claim/cut.py" 421)]),
 (205,cO [(st "strike" 423),(st "Store.strike" 424),(st "/claim/cut.py" 425),(.int 121 0),(.int 3 0),(.int 0 0),(.int 0 0),(.int 3 0),(.ref 200),(.bool true),(.int 181 0),(.ref 201),.none,(.ref 202),(.ref 203),(.ref 204),(.int 429 0),(.int 121 0),(st "/claim/cut.py" 430)]),
 (212,cO [(st "decide" 432),(st "Store.decide" 433),(st "/claim/cut.py" 434),(.int 124 0),(.int 2 0),(.int 0 0),(.int 0 0),(.int 3 0),(.ref 207),(.bool true),(.int 181 0),(.ref 208),.none,(.ref 209),(.ref 210),(.ref 211),(.int 437 0),(.int 124 0),(st "/claim/cut.py" 438)]),
 (226,cO [(st "push" 448),(st "Store.push" 449),(st "/claim/cut.py" 450),(.int 132 0),(.int 1 0),(.int 0 0),(.int 0 0),(.int 3 0),(.ref 221),(.bool true),(.int 181 0),(.ref 222),.none,(.ref 223),(.ref 224),(.ref 225),(.int 452 0),(.int 132 0),(st "/claim/cut.py" 453)]),
 (233,cO [(st "pop" 455),(st "Store.pop" 456),(st "/claim/cut.py" 457),(.int 135 0),(.int 2 0),(.int 0 0),(.int 0 0),(.int 3 0),(.ref 228),(.bool true),(.int 181 0),(.ref 229),.none,(.ref 230),(.ref 231),(.ref 232),(.int 462 0),(.int 135 0),(st "/claim/cut.py" 463)]),
 (268,cO [(st "__init__" 507),(st "Propagator.__init__" 508),(st "/claim/cut.py" 509),(.int 154 0),(.int 3 0),(.int 0 0),(.int 0 0),(.int 3 0),(.ref 263),(.bool true),(.int 181 0),(.ref 264),.none,(.ref 265),(.ref 266),(.ref 267),(.int 513 0),(.int 154 0),(st "/claim/cut.py" 514)]),
 (312,cO [(st "__init__" 564),(st "Regular.__init__" 565),(st "/claim/cut.py" 566),(.int 170 0),(.int 7 0),(.int 0 0),(.int 0 0),(.int 3 0),(.ref 307),(.bool true),(.int 181 0),(.ref 308),.none,(.ref 309),(.ref 310),(.ref 311),(.int 575 0),(.int 170 0),(st "/claim/cut.py" 576)]),
 (331,cO [(st "reached_of" 593),(st "Regular.reached_of" 594),(st "/claim/cut.py" 595),(.int 185 0),(.int 2 0),(.int 0 0),(.int 0 0),(.int 3 0),(.ref 328),(.bool true),(.int 181 0),(.ref 329),.none,.none,.none,(.ref 330),(.int 596 0),(.int 185 0),(st "/claim/cut.py" 597)]),
 (336,cO [(st "alive_of" 599),(st "Regular.alive_of" 600),(st "/claim/cut.py" 601),(.int 198 0),(.int 2 0),(.int 0 0),(.int 0 0),(.int 3 0),(.ref 333),(.bool true),(.int 181 0),(.ref 334),.none,.none,.none,(.ref 335),(.int 602 0),(.int 198 0),(st "/claim/cut.py" 603)]),
 (343,cO [(st "note_dead" 605),(st "Regular.note_dead" 606),(st "/claim/cut.py" 607),(.int 211 0),(.int 6 0),(.int 0 0),(.int 0 0),(.int 3 0),(.ref 338),(.bool true),(.int 181 0),(.ref 339),.none,(.ref 340),(.ref 341),(.ref 342),(.int 619 0),(.int 211 0),(st "/claim/cut.py" 620)]),
 (350,cO [(st "note_unreached" 622),(st "Regular.note_unreached" 623),(st "/claim/cut.py" 624),(.int 223 0),(.int 5 0),(.int 0 0),(.int 0 0),(.int 3 0),(.ref 345),(.bool true),(.int 181 0),(.ref 346),.none,(.ref 347),(.ref 348),(.ref 349),(.int 634 0),(.int 223 0),(st "/claim/cut.py" 635)]),
 (355,cO [(st "reasons_of" 637),(st "Regular.reasons_of" 638),(st "/claim/cut.py" 639),(.int 235 0),(.int 3 0),(.int 0 0),(.int 0 0),(.int 3 0),(.ref 352),(.bool true),(.int 181 0),(.ref 353),.none,.none,.none,(.ref 354),(.int 640 0),(.int 235 0),(st "/claim/cut.py" 641)]),
 (362,cO [(st "why_not" 643),(st "Regular.why_not" 644),(st "/claim/cut.py" 645),(.int 238 0),(.int 7 0),(.int 0 0),(.int 0 0),(.int 3 0),(.ref 357),(.bool true),(.int 181 0),(.ref 358),.none,(.ref 359),(.ref 360),(.ref 361),(.int 658 0),(.int 238 0),(st "/claim/cut.py" 659)]),
 (369,cO [(st "has_support" 661),(st "Regular.has_support" 662),(st "/claim/cut.py" 663),(.int 250 0),(.int 5 0),(.int 0 0),(.int 0 0),(.int 3 0),(.ref 364),(.bool true),(.int 181 0),(.ref 365),.none,(.ref 366),(.ref 367),(.ref 368),(.int 670 0),(.int 250 0),(st "/claim/cut.py" 671)]),
 (376,cO [(st "keep_letters" 673),(st "Regular.keep_letters" 674),(st "/claim/cut.py" 675),(.int 256 0),(.int 2 0),(.int 0 0),(.int 0 0),(.int 3 0),(.ref 371),(.bool true),(.int 181 0),(.ref 372),.none,(.ref 373),(.ref 374),(.ref 375),(.int 679 0),(.int 256 0),(st "/claim/cut.py" 680)]),
 (381,cO [(st "strike_round" 682),(st "Regular.strike_round" 683),(st "/claim/cut.py" 684),(.int 262 0),(.int 2 0),(.int 0 0),(.int 0 0),(.int 3 0),(.ref 378),(.bool true),(.int 181 0),(.ref 379),.none,.none,.none,(.ref 380),(.int 685 0),(.int 262 0),(st "/claim/cut.py" 686)]),
 (388,cO [(st "propagate" 688),(st "Regular.propagate" 689),(st "/claim/cut.py" 690),(.int 280 0),(.int 2 0),(.int 0 0),(.int 0 0),(.int 3 0),(.ref 383),(.bool true),(.int 181 0),(.ref 384),.none,(.ref 385),(.ref 386),(.ref 387),(.int 694 0),(.int 280 0),(st "/claim/cut.py" 695)]),
 (410,cO [(st "_law_dip" 721),(st "_law_dip" 722),(st "/claim/cut.py" 723),(.int 289 0),(.int 2 0),(.int 0 0),(.int 0 0),(.int 3 0),(.ref 405),(.bool true),(.int 181 0),(.ref 406),.none,(.ref 407),(.ref 408),(.ref 409),(.int 728 0),(.int 289 0),(st "/claim/cut.py" 729)]),
 (415,cO [(st "_law_words" 731),(st "_law_words" 732),(st "/claim/cut.py" 733),(.int 294 0),(.int 4 0),(.int 0 0),(.int 0 0),(.int 3 0),(.ref 412),(.bool true),(.int 181 0),(.ref 413),.none,.none,.none,(.ref 414),(.int 734 0),(.int 294 0),(st "/claim/cut.py" 735)]),
 (422,cO [(st "_law_lets" 737),(st "_law_lets" 738),(st "/claim/cut.py" 739),(.int 300 0),(.int 2 0),(.int 0 0),(.int 0 0),(.int 3 0),(.ref 417),(.bool true),(.int 181 0),(.ref 418),.none,(.ref 419),(.ref 420),(.ref 421),(.int 744 0),(.int 300 0),(st "/claim/cut.py" 745)]),
 (427,cO [(st "_law_are_true" 747),(st "_law_are_true" 748),(st "/claim/cut.py" 749),(.int 305 0),(.int 2 0),(.int 0 0),(.int 0 0),(.int 3 0),(.ref 424),(.bool true),(.int 181 0),(.ref 425),.none,.none,.none,(.ref 426),(.int 750 0),(.int 305 0),(st "/claim/cut.py" 751)]),
 (432,cO [(st "_law_let_by" 753),(st "_law_let_by" 754),(st "/claim/cut.py" 755),(.int 307 0),(.int 3 0),(.int 0 0),(.int 0 0),(.int 3 0),(.ref 429),(.bool true),(.int 181 0),(.ref 430),.none,.none,.none,(.ref 431),(.int 756 0),(.int 307 0),(st "/claim/cut.py" 757)]),
 (437,cO [(st "_law_left" 759),(st "_law_left" 760),(st "/claim/cut.py" 761),(.int 313 0),(.int 3 0),(.int 0 0),(.int 0 0),(.int 3 0),(.ref 434),(.bool true),(.int 181 0),(.ref 435),.none,.none,.none,(.ref 436),(.int 762 0),(.int 313 0),(st "/claim/cut.py" 763)]),
 (442,cO [(st "_law_seen" 765),(st "_law_seen" 766),(st "/claim/cut.py" 767),(.int 324 0),(.int 1 0),(.int 0 0),(.int 0 0),(.int 3 0),(.ref 439),(.bool true),(.int 181 0),(.ref 440),.none,.none,.none,(.ref 441),(.int 768 0),(.int 324 0),(st "/claim/cut.py" 769)]),
 (447,cO [(st "_law_are_followed" 771),(st "_law_are_followed" 772),(st "/claim/cut.py" 773),(.int 326 0),(.int 5 0),(.int 0 0),(.int 0 0),(.int 3 0),(.ref 444),(.bool true),(.int 181 0),(.ref 445),.none,.none,.none,(.ref 446),(.int 774 0),(.int 326 0),(st "/claim/cut.py" 775)]),
 (454,cO [(st "_law_asked" 777),(st "_law_asked" 778),(st "/claim/cut.py" 779),(.int 337 0),(.int 4 0),(.int 0 0),(.int 0 0),(.int 3 0),(.ref 449),(.bool true),(.int 181 0),(.ref 450),.none,(.ref 451),(.ref 452),(.ref 453),(.int 789 0),(.int 337 0),(st "/claim/cut.py" 790)]),
 (461,cO [(st "_law_decided" 792),(st "_law_decided" 793),(st "/claim/cut.py" 794),(.int 346 0),(.int 2 0),(.int 0 0),(.int 0 0),(.int 3 0),(.ref 456),(.bool true),(.int 181 0),(.ref 457),.none,(.ref 458),(.ref 459),(.ref 460),(.int 801 0),(.int 346 0),(st "/claim/cut.py" 802)]),
 (466,cO [(st "law" 804),(st "law" 805),(st "/claim/cut.py" 806),(.int 352 0),(.int 1 0),(.int 0 0),(.int 0 0),(.int 3 0),(.ref 463),(.bool true),(.int 181 0),(.ref 464),.none,.none,.none,(.ref 465),(.int 807 0),(.int 352 0),(st "/claim/cut.py" 808)])]
noncomputable def KAs:List Addr:=[2,3,250,251,292,293,391,392,301,404,395,396,397,398,399,400,401,402,403,42,49,56,61,66,73,80,87,94,115,220,122,129,136,143,199,206,213,227,234,269,313,332,337,344,351,356,363,370,377,382,389,411,416,423,428,433,438,443,448,455,462,467,41,48,55,60,65,72,79,86,93,114,219,121,128,135,142,198,205,212,226,233,268,312,331,336,343,350,355,362,369,376,381,388,410,415,422,427,432,437,442,447,454,461,466]
noncomputable def aDX:List Addr:=[42,49,56,61,66,73,80,87,94,115,220,122,129,136,143,199,206,213,227,234,269,313,332,337,344,351,356,363,370,377,382,389,411,416,423,428,433,438,443,448,455,462,467]
theorem aBj(P:Params):KAs=(KK P).map (·.1):=by rfl
end Mine
set_option maxHeartbeats 0
namespace Mine
open PySem PySem.W PyProof.Rows
noncomputable def Xf(p:Program)(w:World)(n₀:Nat)(ann:Option Value):Nat->SharedT->Thread->Option SharedT
 |0,_,_=>none
 |n+1,s,t=>match through t with
  |true=>some s
  |false=>match PySem.W.Fast.tw6613529449190102663 n₀ ann t with
   |false=>none
   |true=>match PySem.W.Fast.tw10156331382660048174 (PySem.W.Fast.tw11892475500146522536 PySem.W.Fast.tw14364793385576792824) p w s t with
    |some (s',t')=>Xf p w n₀ ann n s' t'
    |none=>none
theorem wV{p:Program}{w:World}{n₀:Nat}{ann:Option Value}:∀(n:Nat) (s s':SharedT) (t:Thread),Xf p w n₀ ann n s t=some s'->topRun treeTable p w n₀ ann n s.abs t=some s'.abs
 |0,_,_,_,h=>by cases h
 |n+1,s,s',t,h=>by
  unfold Xf at h;unfold topRun;rw[<-PySem.W.Fast.te6613529449190102663,<-PySem.W.Fast.te10156331382660048174,<-PySem.W.Fast.te11892475500146522536,<-PySem.W.Fast.te14364793385576792824] at h
  cases ht:through t with
  |true=>rw[ht] at h;cases h;rfl
  |false=>
   rw[ht] at h
   cases hk:stepOk n₀ ann t with
   |false=>rw[hk] at h;cases h
   |true=>
    rw[hk] at h
    cases hs:stepT (denote treeTable) p w s t with
    |none=>rw[hs] at h;cases h
    |some r=>obtain⟨c9,t₂⟩:=r;rw[hs] at h;rw[stepT_spec hs];exact wV n c9 s' t₂ h
noncomputable def Om:List Obj->Nat->BT->BT
 |[],_,t=>t
 |o::r,n,t=>Om r (n+1) (t.ins n o)
noncomputable def aCE:List Nat:=[0,2,3,4,5,6,7,8,9,10,11,12,13,14,16,17,19,21,22,23,24,25,26,27,28,29,30,31,32]
def qq:Program:=view pw aCE
noncomputable def rK:List Str:=["has_domains","_law_firsts"]
def s0T(P:Params)(os:OsState):SharedT:=⟨Om (boot_heap P).objs.toList 0 .nil,(boot_heap P).objs.size,(boot_heap P).life,#[],boot_drawn,boot_toks,os⟩
theorem Xg(P:Params)(os:OsState):(s0T P os).abs=⟨boot_heap P,#[],boot_drawn,boot_toks,os⟩:=by kernel_rfl
def aBk(P:Params)(S:SharedT):=
 (staticsOk (PySem.W.Fast.tw5923862056798008813 pw.main.body) (boot_heap P) S.abs.heap&&namesBound pw S.abs.heap&&gensDone S.abs&&laidKept (boot_heap P) S.abs.heap,
  PySem.W.Fast.tw4187177175401517315 qq rK (PySem.W.Fast.tw5923862056798008813 pw.main.body) (fun _=>true) true S.abs,KAs.map S.abs.heap.get?)
theorem Kh(w:World):(fun os=>(Xf pw w (boot_heap w.params).objs.size (some (.ref 6)) 2700 (s0T w.params os) (topStub pw)).map (aBk w.params))=fun _=>some (true,openGood qq rK,(KK w.params).map fun p=>some p.2):=by kernel_rfl
set_option maxHeartbeats 0
theorem Oo:opening pw=plainProg pw.main.scope.names:=by kernel_rfl
theorem Ki(s:Shared):fenceModules? pw s=some s:=by kernel_rfl
theorem Kj(P:Params):((boot_heap P).isNs mainGlobals&&(Array.mk ([]:List GenState)).size==0,(boot_heap P).nsMap mainGlobals "__annotations__")=(true,some (.ref 6)):=by kernel_rfl
theorem left:LeftO pw qq rK (fun _=>true) (fun s=>KAs.map s.heap.get?) (fun w=>(KK w.params).map fun p=>some p.2) 2700:=fun w=>by
 obtain⟨⟨h,gs,d,k,os⟩,e,e'⟩:=Option.map_eq_some_iff.mp (boot_open (p:=pw) (N:=2700) Oo (by decide) Ki w);obtain⟨rfl,rfl,rfl,rfl⟩:h=boot_heap w.params/\gs=Array.mk []/\d=boot_drawn/\k=boot_toks:=by simpa using e'
 obtain⟨z1,z3⟩:=eC (Kj w.params);obtain⟨S,l0,l1⟩:=Option.map_eq_some_iff.mp (mV (Kh w) os);have r:=wV _ _ _ _ l0;rw[Xg] at r;obtain⟨l1,l2⟩:=eC l1;obtain⟨l2,l3⟩:=eC l2;rw[<-PySem.W.Fast.te5923862056798008813] at l1 l2;rw[<-PySem.W.Fast.te4187177175401517315] at l2;have t:topFrom treeTable pw w 2700 ⟨boot_heap w.params,Array.mk [],boot_drawn,boot_toks,os⟩=some S.abs:=by unfold topFrom;dsimp only;rw[z1,z3,show topRun treeTable pw w (boot_heap w.params).objs.size (some (.ref 6)) 2700 ⟨boot_heap w.params,Array.mk [],boot_drawn,boot_toks,os⟩ (topStub pw)=some S.abs from r];show(match staticsOk (importedModules pw.main.body) (boot_heap w.params) S.abs.heap&&namesBound pw S.abs.heap&&gensDone S.abs&&laidKept (boot_heap w.params) S.abs.heap with|true=>_|false=>_)=_;rw[l1]
 unfold openEnds;rw[e];rw[Option.bind_some];rw[t];show some (openSeen qq rK (importedModules pw.main.body) (fun _=>true) true S.abs,List.map S.abs.heap.get? KAs)=some (openGood qq rK,List.map (fun p=>some p.snd) (KK w.params));rw[l2,l3]
noncomputable def on1(k:Const->Bool)(e:Expr):Bool:=if h:e.ctorIdx=19 then Expr.Constant.elim (motive_1:=fun _=>Bool) e h fun c _ _=>k c else false
noncomputable def oUn(k:UnaryOp->Expr->Bool)(e:Expr):Bool:=if h:e.ctorIdx=3 then Expr.UnaryOp.elim (motive_1:=fun _=>Bool) e h fun o x _=>k o x else false
noncomputable def Op(o:UnaryOp):Bool:=o.ctorIdx==UnaryOp.USub.ctorIdx
noncomputable def aAM(o:UnaryOp):Bool:=o.ctorIdx==UnaryOp.Not.ctorIdx
noncomputable def aCF(k:Int->Bool)(c:Const):Bool:=match c with
 | .int j=>k j
 |_=>false
noncomputable def aCG(k:Str->Bool)(c:Const):Bool:=match c with
 | .str j=>k j
 |_=>false
def on2(k:Int->Bool)(e:Expr):Bool:=oUn (fun o x=>Op o&&on1 (aCF k) x) e
noncomputable def on3(k:Str->Bool)(e:Expr):Bool:=if h:e.ctorIdx=23 then Expr.Name.elim (motive_1:=fun _=>Bool) e h fun x _=>k x else false
noncomputable def uA(k:Expr->Str->Pos->Bool)(e:Expr):Bool:=if h:e.ctorIdx=20 then Expr.Attribute.elim (motive_1:=fun _=>Bool) e h fun x n p=>k x n p else false
def on4(k:Str->Str->Bool)(e:Expr):Bool:=uA (fun x n _=>on3 (fun x=>k x n) x) e
noncomputable def on5(k:Expr->Operator->Expr->Bool)(e:Expr):Bool:=if h:e.ctorIdx=2 then Expr.BinOp.elim (motive_1:=fun _=>Bool) e h fun l o r _=>k l o r else false
noncomputable def Oq(o:Operator):Bool:=o.ctorIdx==Operator.Mult.ctorIdx
noncomputable def yK{α:Type}(k:α->Bool)(l:List α):Bool:=match l with
 |[]=>false
 |x::l=>l.isEmpty&&k x
def Xh{α:Type}(k:α->α->Bool)(l:List α):Bool:=match l with
 |[]=>false
 |x::l=>yK (k x) l
noncomputable def on8(k:List Expr->Bool)(e:Expr):Bool:=if h:e.ctorIdx=24 then Expr.List.elim (motive_1:=fun _=>Bool) e h fun x _=>k x else false
def on6(k:Expr->Expr->Bool)(e:Expr):Bool:=on5 (fun l o r=>Oq o&&on8 (yK fun l=>k l r) l) e
noncomputable def on7(k:List Expr->Bool)(e:Expr):Bool:=if h:e.ctorIdx=25 then Expr.Tuple.elim (motive_1:=fun _=>Bool) e h fun x _ _=>k x else false
noncomputable def on9(k:List (Option Expr)->List Expr->Bool)(e:Expr):Bool:=if h:e.ctorIdx=6 then Expr.Dict.elim (motive_1:=fun _=>Bool) e h fun ks x _=>k ks x else false
def aCH(e:Expr):Bool:=on9 (fun ks xs=>ks.isEmpty&&xs.isEmpty) e
noncomputable def Ef(k:Expr->Expr->Bool)(e:Expr):Bool:=if h:e.ctorIdx=21 then Expr.Subscript.elim (motive_1:=fun _=>Bool) e h fun x y _=>k x y else false
noncomputable def oSl(k:Option Expr->Option Expr->Option Expr->Bool)(e:Expr):Bool:=if h:e.ctorIdx=26 then Expr.Slice.elim (motive_1:=fun _=>Bool) e h fun a b c _=>k a b c else false
noncomputable def oNo(o:Option Expr):Bool:=o.isNone
noncomputable def cQ{α:Type}(o:Option α)(k:α->Bool):Bool:=match o with
 |some x=>k x
 |none=>false
def aBl(k:Expr->Expr->Bool)(e:Expr):Bool:=Ef (fun x y=>oSl (fun a b c=>oNo a&&oNo c&&cQ b (k x)) y) e
def aCI(k:Expr->Expr->Bool)(e:Expr):Bool:=Ef (fun x y=>oSl (fun a b c=>oNo b&&oNo c&&cQ a (k x)) y) e
noncomputable def aBm(k:Expr->Expr->Expr->Bool)(e:Expr):Bool:=if h:e.ctorIdx=5 then Expr.IfExp.elim (motive_1:=fun _=>Bool) e h fun c x y _=>k c x y else false
noncomputable def Xi(k:Expr->List CmpOp->List Expr->Bool)(e:Expr):Bool:=if h:e.ctorIdx=15 then Expr.Compare.elim (motive_1:=fun _=>Bool) e h fun x o y _=>k x o y else false
def Eg(k:Expr->CmpOp->Expr->Bool)(e:Expr):Bool:=Xi (fun x o y=>yK (fun o=>yK (fun y=>k x o y) y) o) e
def aCJ(k:Expr->CmpOp->CmpOp->Expr->Expr->Bool)(e:Expr):Bool:=Xi (fun x o y=>Xh (fun o o'=>Xh (fun y z=>k x o o' y z) y) o) e
noncomputable def oLC(k:Expr->List Comprehension->Scope->Bool)(e:Expr):Bool:=if h:e.ctorIdx=8 then Expr.ListComp.elim (motive_1:=fun _=>Bool) e h fun x g sc _=>k x g sc else false
def aCK(k:Expr->Expr->Expr->List Expr->Int->Scope->Bool)(e:Expr):Bool:=oLC (fun x g sc=>yK (fun c=>k x c.target c.iter c.ifs c.is_async sc) g) e
def aCL(k:Expr->Expr->Expr->List Expr->Int->Expr->Expr->List Expr->Int->Scope->Bool)(e:Expr):Bool:=oLC (fun x g sc=>Xh (fun c d=>k x c.target c.iter c.ifs c.is_async d.target d.iter d.ifs d.is_async sc) g) e
noncomputable def sG(k:Expr->List Expr->List Keyword->Pos->Bool)(e:Expr):Bool:=if h:e.ctorIdx=16 then Expr.Call.elim (motive_1:=fun _=>Bool) e h fun f xs kw p=>k f xs kw p else false
def aBn(k:Str->List Expr->Bool)(e:Expr):Bool:=sG (fun f xs kw _=>kw.isEmpty&&on3 (fun x=>k x xs) f) e
def aCM(k:Str->Str->Pos->List Expr->Pos->Bool)(e:Expr):Bool:=sG (fun f xs kw cp=>kw.isEmpty&&uA (fun x n ap=>on3 (fun x=>k x n ap xs cp) x) f) e
def aBo(k:Expr->Str->Pos->Pos->Bool)(e:Expr):Bool:=sG (fun f xs kw cp=>kw.isEmpty&&xs.isEmpty&&uA (fun x n ap=>k x n ap cp) f) e
def aCN(k:Expr->Bool)(e:Expr):Bool:=oUn (fun o x=>aAM o&&k x) e
noncomputable def oBo(k:BoolOp->List Expr->Bool)(e:Expr):Bool:=if h:e.ctorIdx=0 then Expr.BoolOp.elim (motive_1:=fun _=>Bool) e h fun o x _=>k o x else false
noncomputable def Hr(o:BoolOp):Bool:=o.ctorIdx==BoolOp.And.ctorIdx
def aCO(k:List Expr->Bool)(e:Expr):Bool:=oBo (fun o x=>Hr o&&k x) e
def aCP(k:List Expr->Bool)(e:Expr):Bool:=oBo (fun o x=> !Hr o&&k x) e
def qK(o:Option (Expr×Expr))(k:Expr->Expr->Bool):Bool:=cQ o fun p=>k p.1 p.2
def Hs(o:Option (Expr×Expr×Expr))(k:Expr->Expr->Bool):Bool:=cQ o fun p=>on2 (fun j=>j==1) p.2.2&&k p.1 p.2.1
def tg1(o:Option (List Str))(k:List Str->Bool):Bool:=cQ o k
def tg2(o o2:Option (List Str))(k:List Str->List Str->Bool):Bool:=cQ o fun a=>cQ o2 fun b=>k a b
def ltB(o:Option Nat)(k:Nat->Bool):Bool:=cQ o k
structure Bk where
 sc:Scope
 res:List (Str×Nat)
 ns:Nat
 lt:Nat
noncomputable def okN(B:Bk)(i:Nat)(x:Str):Bool:=B.res.lookup x==some i&&x != ("__debug__":Str)&&x != ("__classdict__":Str)
def okW(B:Bk)(i:Nat)(x:Str):Bool:=okN B i x&&(B.sc.names.lookup x==some .local||B.sc.names.lookup x==some .cell)
noncomputable def okG(B:Bk)(x:Str):Bool:=B.sc.names.lookup x==some .globalImplicit&&x != ("__debug__":Str)
def nM(B:Bk)(is:List Nat)(es:List Expr):Bool:=match is with
 |[]=>es.isEmpty
 |i::is=>match es with
  |[]=>false
  |e::es=>on3 (okW B i) e&&nM B is es
noncomputable def aCQ(k:Int->Bool)(x:D):Bool:=match x with| .int n=>k n|_=>false
noncomputable def aCR(k:Str->Bool)(x:D):Bool:=match x with| .str n=>k n|_=>false
noncomputable def boB(k:Bool->Bool)(x:D):Bool:=match x with| .bool n=>k n|_=>false
def okK(d:D)(c:Const):Bool:=match c with
 | .none=>isNone d
 | .bool b=>boB (fun a=>a==b) d
 | .int b=>aCQ (fun a=>a==b) d
 | .str b=>aCR (fun a=>a==b) d
 |_=>false
noncomputable def aBp(o:BOp):Operator:=match o with| .add=> .Add| .sub=> .Sub| .mul=> .Mult| .fdiv=> .FloorDiv| .mod=> .Mod| .pow=> .Pow
def Xj(o:BOp)(op:Operator):Bool:=op.ctorIdx==(aBp o).ctorIdx
noncomputable def fE(e:Expr):Bool:=e.ctorIdx != 26&&e.ctorIdx != 22
noncomputable def Expr.plain(e:Expr):Bool:=e.ctorIdx != 22
def Eh{α:Type}(B:Bk)(f:Str)(o:List Expr->Option α)(e:Expr):Option α:=if h:e.ctorIdx=16 then Expr.Call.elim (motive_1:=fun _=>Option α) e h fun g xs kw _=>if(kw.isEmpty&&on3 (fun x=>x==f) g&&okG B f&&xs.all Expr.plain)=true then o xs else none else none
noncomputable def aBq(l:List Expr):Option Expr:=match l with|[]=>none|x::l=>if l.isEmpty=true then some x else none
def aBr(l:List Expr):Option (Expr×Expr):=match l with|[]=>none|x::l=>(aBq l).map fun y=>(x,y)
def Ot(l:List Expr):Option (Expr×Expr×Expr):=match l with|[]=>none|x::l=>(aBr l).map fun y=>(x,y)
def jA(B:Bk)(f:Str)(e:Expr):Option Expr:=Eh B f aBq e
def pA(B:Bk)(f:Str)(e:Expr):Option (Expr×Expr):=Eh B f aBr e
def Ou(B:Bk)(f:Str)(e:Expr):Option (Expr×Expr×Expr):=Eh B f Ot e
noncomputable def lE(f:Nat):Bool:=[12,13,14,26,38].contains f
noncomputable def Ak(m:Nat):Bool:=[2,3,4,15].contains m
noncomputable def refsOf:List Arg->List Nat
 |[]=>[]
 | .e _::r=>refsOf r
 | .r i::r=>i::refsOf r
variable (P:PS)
def iC(B:Bk)(p:Pl)(e:Expr):Bool:=match p with
 | .v i=>on3 (okN B i) e
 | .a i id=>on4 (fun x n=>okN B i x&&P.attrName id==n&&decide (id<P.na)) e
noncomputable def jB(B:Bk)(ts:List Str)(sc:Scope):Bk:=
 {sc:=sc,res:=(ts.zipIdx B.ns)++(sc.names.filterMap fun p=>if p.2== .free then(B.res.lookup p.1).map fun i=>(p.1,i) else none),ns:=B.ns+ts.length+1,lt:=B.lt}
noncomputable def tB(B:Bk)(ts:List Str)(sc:Scope):Bool:=
 sc.kind== .function&& !ts.contains (".0":Str)&&decide ts.Nodup&&ts.all (fun x=>sc.names.lookup x==some .local||sc.names.lookup x==some .cell)&&
 sc.names.all (fun p=>sc.names.lookup p.1==some p.2)&&decide (sc.names.map (·.1)).Nodup&&
 sc.names.all (fun p=>p.2 != .free||((B.sc.names.lookup p.1==some .cell||B.sc.names.lookup p.1==some .free)&&(B.res.lookup p.1).isSome&& !ts.contains p.1))
noncomputable def yL(e:Expr):Option Str:=if h:e.ctorIdx=23 then Expr.Name.elim (motive_1:=fun _=>Option Str) e h fun x _=>some x else none
def qL(e:Expr):Option (List Str):=if h:e.ctorIdx=25 then Expr.Tuple.elim (motive_1:=fun _=>Option (List Str)) e h fun es _ _=>es.mapM yL else(yL e).map fun x=>[x]
def mX(B:Bk)(t:Tgt)(e:Expr):Bool:=match t with
 | .n i=>on3 (okW B i) e
 | .t is=>on7 (nM B is) e
def pT(ks:List Str)(es:List (Option Expr)):Bool:=match ks with
 |[]=>es.isEmpty
 |k::ks=>match es with
  |[]=>false
  |e::es=>cQ e (on1 (aCG fun x=>k==x))&&pT ks es
noncomputable def wW(e:Expr):Bool:=e.ctorIdx != 3&&e.ctorIdx != 0&&e.ctorIdx != 5&&e.ctorIdx != 15&&e.ctorIdx != 22
noncomputable def fU(e:Expr):Bool:=e.ctorIdx != 7&&e.ctorIdx != 22
mutual
def pureE:Ex->Bool
 | .k _| .neg _| .v _| .at _ _| .gl _| .sh _| .emp _| .lenP _| .sortedKeys _=>true
 | .bin _ a b| .rep a b| .sub a b| .slTo a b| .cmp _ a b| .max2 a b| .min2 a b=>pureE a&&pureE b
 | .tup es| .lst es| .dct _ es=>pureEs es
 | .subP _ a| .slToP _ a| .slFromP _ a| .len a| .cmpP _ _ a| .inP a _| .frz a| .tupleOf a| .intOf a| .listOf a| .sortedSet a| .dictPairs a| .dictCopy a=>pureE a
 | .ite t a b=>wX t&&pureE a&&pureE b
 | .comp _ a _ it ts=>pureE a&&Al it&&mL ts
 | .comp2 _ a _ it ts _ it2 ts2=>pureE a&&Al it&&mL ts&&Al it2&&mL ts2
 | .call f as=>(lE f||(refsOf as).isEmpty)&&mK as
 | .meth m _ as=>Ak m&&mK as
 | .sup .. | .new .. | .popP _=>false
def pureEs:List Ex->Bool
 |[]=>true
 |a::r=>pureE a&&pureEs r
def mK:List Arg->Bool
 |[]=>true
 | .e a::r=>pureE a&&mK r
 | .r _::r=>mK r
def wX:Tx->Bool
 | .not t=>wX t
 | .and ts| .or ts=>mL ts
 | .cmp _ a b=>pureE a&&pureE b
 | .cmpP _ _ b=>pureE b
 | .chain a _ b _ c=>pureE a&&pureE b&&pureE c
 | .val a=>pureE a
def mL:List Tx->Bool
 |[]=>true
 |a::r=>wX a&&mL r
def Al:It->Bool
 | .seq a| .r1 a| .rev a=>pureE a
 | .r2 a b| .rd a b=>pureE a&&pureE b
end
noncomputable def hdB{α:Type}(k:α->Bool)(l:List α->Bool)(es:List α):Bool:=match es with
 |[]=>false
 |x::es=>k x&&l es
mutual
def okE(B:Bk):Ex->Expr->Bool
 | .k c=>on1 (okK c)
 | .neg i=>on2 fun j=>(i:Int)==j
 | .v i=>on3 (okN B i)
 | .at i id=>on4 fun x n=>okN B i x&&P.attrName id==n&&decide (id<P.na)
 | .gl g=>on3 fun x=>okG B x&&P.glName.lookup x==some g
 | .sh i=>on3 (okN B i)
 | .bin o a b=>on5 fun l op r=>Xj o op&&okE B a l&&okE B b r
 | .rep a b=>on6 fun l r=>Expr.plain l&&okE B a l&&okE B b r
 | .tup es=>on7 fun xs=>Am B es xs&&decide (es.length<=100)
 | .lst es=>on8 fun xs=>Am B es xs&&decide (es.length<=100)
 | .dct ks es=>on9 fun keys xs=>pT ks keys&&Am B es xs&&ks.length==es.length&&decide ks.Nodup&&decide (0<es.length/\es.length<=15)
 | .emp _=>aCH
 | .sub a i=>Ef fun x y=>fE y&&okE B a x&&okE B i y
 | .subP p i=>Ef fun x y=>fE y&&iC P B p x&&pureE i&&okE B i y
 | .slTo a i=>aBl fun x y=>okE B a x&&okE B i y
 | .slToP p i=>aBl fun x y=>iC P B p x&&pureE i&&okE B i y
 | .slFromP p i=>aCI fun x y=>iC P B p x&&pureE i&&okE B i y
 | .len a=>fun e=>cQ (jA B "len" e) fun x=>okE B a x
 | .lenP p=>fun e=>cQ (jA B "len" e) fun x=>iC P B p x
 | .ite t a b=>aBm fun c x y=>okT B t c&&okE B a x&&okE B b y
 | .cmp o a b=>Eg fun x op y=>o==op&& !behindInMarks op y&&okE B a x&&okE B b y
 | .cmpP o p b=>Eg fun x op y=>o==op&& !behindInMarks op y&&iC P B p x&&pureE b&&okE B b y
 | .inP a p=>Eg fun x op y=>op== .In&& !behindInMarks op y&&okE B a x&&iC P B p y
 | .comp n l8 t it ifs=>aCK fun x y iter cs a sc=>a==0&&tg1 (qL y) fun ts=>ts.length+1==n&&tB B ts sc&&mX (jB B ts sc) t y&&Kl B it iter&&Ej (jB B ts sc) ifs cs&&okE (jB B ts sc) l8 x&&Expr.plain x
 | .comp2 n l8 t it ifs t2 it2 m8=>aCL fun x y iter cs a y2 m9 cs2 a2 sc=>a==0&&a2==0&&tg2 (qL y) (qL y2) fun t1 t2'=>(t1++t2').length+1==n&&tB B (t1++t2') sc&&mX (jB B (t1++t2') sc) t y&&Kl B it iter&&Ej (jB B (t1++t2') sc) ifs cs&&
     mX (jB B (t1++t2') sc) t2 y2&&Kl (jB B (t1++t2') sc) it2 m9&&Ej (jB B (t1++t2') sc) m8 cs2&&okE (jB B (t1++t2') sc) l8 x&&Expr.plain x
 | .frz a=>okE B a
 | .call f as=>aBn fun x xs=>okG B x&&P.fnName.lookup x==some f&&decide (4*(f+1)<=B.lt)&&Ei B as xs&&decide (refsOf as).Nodup&&decide (0<xs.length)
 | .meth m i as=>aCM fun x n ap xs cp=>okN B i x&&P.methName m==n&&Ei B as xs&&ap.endLine==cp.line&&decide (xs.length<25)&&decide (i::refsOf as).Nodup&&
   [0,1].all (fun c=>match P.me m c with|some f=>decide (4*(f+1)<=B.lt)|none=>true)
 | .sup .. =>fun _=>false
 | .new c es=>aBn fun x xs=>okG B x&&P.clsName.lookup x==some c&&Am B es xs&&ltB (P.ini c) fun f=>decide (4*(f+2)<=B.lt)
 | .max2 a b=>fun e=>qK (pA B "max" e) fun x y=>okE B a x&&okE B b y
 | .min2 a b=>fun e=>qK (pA B "min" e) fun x y=>okE B a x&&okE B b y
 | .tupleOf a=>fun e=>cQ (jA B "tuple" e) fun x=>okE B a x
 | .intOf a=>fun e=>cQ (jA B "int" e) fun x=>okE B a x
 | .listOf a=>fun e=>cQ (jA B "list" e) fun x=>okE B a x
 | .sortedSet a=>fun e=>cQ (jA B "sorted" e) fun x=>cQ (jA B "set" x) fun y=>okE B a y
 | .sortedKeys i=>fun e=>cQ (jA B "sorted" e) (on3 (okN B i))
 | .dictPairs a=>fun e=>cQ (jA B "dict" e) fun x=>okE B a x
 | .dictCopy a=>fun e=>cQ (jA B "dict" e) fun x=>okE B a x
 | .popP p=>aBo fun x n ap cp=>n==("pop":Str)&&iC P B p x&&ap.endLine==cp.line
def Am(B:Bk):List Ex->List Expr->Bool
 |[]=>fun es=>es.isEmpty
 |a::r=>fun es=>hdB (fun x=>Expr.plain x&&okE B a x) (Am B r) es
def okA(B:Bk):Arg->Expr->Bool
 | .e a=>fun x=>Expr.plain x&&pureE a&&okE B a x
 | .r i=>on3 (okN B i)
def Ei(B:Bk):List Arg->List Expr->Bool
 |[]=>fun es=>es.isEmpty
 |a::r=>fun es=>hdB (fun x=>okA B a x) (Ei B r) es
def okT(B:Bk):Tx->Expr->Bool
 | .not t=>aCN fun x=>okT B t x
 | .and ts=>aCO fun xs=>Ej B ts xs
 | .or ts=>aCP fun xs=>Ej B ts xs
 | .cmp o a b=>Eg fun x op y=>o==op&& !behindInMarks op y&&okE B a x&&okE B b y
 | .cmpP o p b=>Eg fun x op y=>o==op&& !behindInMarks op y&&iC P B p x&&pureE b&&okE B b y
 | .chain a o b o' c=>aCJ fun x op op' y z=>o==op&&o'==op'&& !behindInMarks op' z&&okE B a x&&okE B b y&&okE B c z
 | .val a=>fun e=>wW e&&okE B a e
def Ej(B:Bk):List Tx->List Expr->Bool
 |[]=>fun es=>es.isEmpty
 |a::r=>fun es=>hdB (fun x=>okT B a x) (Ej B r) es
def Kl(B:Bk):It->Expr->Bool
 | .seq a=>fun e=>fU e&&okE B a e
 | .r1 a=>fun e=>cQ (jA B "range" e) fun x=>okE B a x
 | .r2 a b=>fun e=>qK (pA B "range" e) fun x y=>okE B a x&&okE B b y
 | .rd a b=>fun e=>Hs (Ou B "range" e) fun x y=>okE B a x&&okE B b y
 | .rev a=>fun e=>cQ (jA B "reversed" e) fun x=>okE B a x
end
noncomputable def Ek(e:Expr):Bool:=e.ctorIdx==16
noncomputable def An(e:Expr):Bool:=e.ctorIdx==25
noncomputable def aBs(k:List Expr->Expr->Bool)(e:Stmt):Bool:=if h:e.ctorIdx=5 then Stmt.Assign.elim (motive_2:=fun _=>Bool) e h fun x v _=>k x v else false
def os1(k:Expr->Expr->Bool)(s:Stmt):Bool:=aBs (fun xs v=>yK (fun x=>k x v) xs) s
noncomputable def os4(k:Expr->Bool)(e:Stmt):Bool:=if h:e.ctorIdx=24 then Stmt.Expr.elim (motive_2:=fun _=>Bool) e h fun v _=>k v else false
def os2(k:Expr->Str->Pos->Expr->Pos->Bool)(s:Stmt):Bool:=os4 (sG fun f xs kw cp=>kw.isEmpty&&uA (fun x n ap=>yK (fun y=>k x n ap y cp) xs) f) s
def os3(k:Expr->Str->Pos->Pos->Bool)(s:Stmt):Bool:=os4 (aBo k) s
noncomputable def os5(k:Expr->List Stmt->List Stmt->Bool)(e:Stmt):Bool:=if h:e.ctorIdx=12 then Stmt.If.elim (motive_2:=fun _=>Bool) e h fun c x y _=>k c x y else false
noncomputable def aBt(k:Expr->Expr->List Stmt->List Stmt->Bool)(e:Stmt):Bool:=if h:e.ctorIdx=9 then Stmt.For.elim (motive_2:=fun _=>Bool) e h fun t i b e _=>k t i b e else false
def os6(k:Expr->Expr->List Stmt->Bool)(s:Stmt):Bool:=aBt (fun t i b e=>e.isEmpty&&k t i b) s
noncomputable def oWh(k:Expr->List Stmt->List Stmt->Bool)(e:Stmt):Bool:=if h:e.ctorIdx=11 then Stmt.While.elim (motive_2:=fun _=>Bool) e h fun c b e _=>k c b e else false
def os7(k:Expr->List Stmt->Bool)(s:Stmt):Bool:=oWh (fun c b e=>e.isEmpty&&k c b) s
noncomputable def aBu(k:Option Expr->Bool)(e:Stmt):Bool:=if h:e.ctorIdx=3 then Stmt.Return.elim (motive_2:=fun _=>Bool) e h fun o _=>k o else false
def yM(e:Ex):Bool:=if h:e.ctorIdx=0 then Ex.k.elim (motive_1:=fun _=>Bool) e h isNone else false
def os8(e:Ex)(k:Expr->Bool)(s:Stmt):Bool:=aBu (fun o=>match o with
 |some v=>k v
 |none=>yM e) s
noncomputable def aBv(s:St):Bool:=s.ctorIdx==(St.sh 0).ctorIdx
mutual
def okS(B:Bk):St->Stmt->Bool
 | .asg i e=>os1 fun x v=>on3 (okW B i) x&&Expr.plain v&&okE P B e v
 | .asgT is e=>os1 fun x v=>on7 (nM B is) x&&Expr.plain v&& !An v&&okE P B e v
 | .masg is es=>os1 fun x v=>on7 (fun ts=>on7 (fun vs=>nM B is ts&&Am P B es vs&&is.length==es.length&&decide is.Nodup&&decide (es.length<=10)&&(vs.all (foldedForSure 8)|| !vs.all (constantsAlone 8))) v) x
 | .setAt i id e=>os1 fun x v=>on4 (fun x n=>okN B i x&&P.attrName id==n&&decide (id<P.na)&&Expr.plain v&&okE P B e v) x
 | .setP p i e=>os1 fun x v=>Ef (fun x y=>iC P B p x&&fE y&&pureE i&&okE P B i y&&Expr.plain v&&okE P B e v) x
 | .app p e=>os2 fun x n ap y cp=>n==("append":Str)&&iC P B p x&&pureE e&&Expr.plain y&&okE P B e y&&ap.endLine==cp.line
 | .extR p a b=>os2 fun x n ap y cp=>n==("extend":Str)&&iC P B p x&&ap.endLine==cp.line&&qK (pA B "range" y) fun u v=>pureE a&&pureE b&&okE P B a u&&okE P B b v
 | .rev p=>os3 fun x n ap cp=>n==("reverse":Str)&&iC P B p x&&ap.endLine==cp.line
 | .expr e=>os4 fun v=>Ek v&&okE P B e v
 | .sh _=>fun _=>false
 | .ite t a b=>os5 fun c x y=>okT P B t c&&dE B a x&&dE B b y
 | .for_ t it body=>os6 fun tgt iter b=>mX B t tgt&&Kl P B it iter&&dE B body b
 | .while_ t body=>os7 fun c b=>okT P B t c&&dE B body b
 | .ret e=>os8 e fun v=>Expr.plain v&&okE P B e v
def dE(B:Bk):List St->List Stmt->Bool
 |[]=>fun xs=>xs.isEmpty
 |s::r=>fun xs=>bif aBv s then dE B r xs else hdB (okS B s) (dE B r) xs
end
theorem fB{a b:Bool}(h:(a&&b)=true):a=true/\b=true:=Bool.and_eq_true_iff.mp h
theorem aS{a b:Bool}(h:(a&&b)=true){P:Prop}(f:a=true->b=true->P):P:=cK (fB h) f
theorem gE{a b c:Bool}(h:(a&&b&&c)=true){P:Prop}(f:a=true->b=true->c=true->P):P:=aS h fun h h3=>aS h fun h1 h2=>f h1 h2 h3
theorem nN{a b c d:Bool}(h:(a&&b&&c&&d)=true){P:Prop}(f:a=true->b=true->c=true->d=true->P):P:=aS h fun h h4=>gE h fun h1 h2 h3=>f h1 h2 h3 h4
theorem lZ{a b c d e:Bool}(h:(a&&b&&c&&d&&e)=true){P:Prop}(f:a=true->b=true->c=true->d=true->e=true->P):P:=aS h fun h h5=>nN h fun h1 h2 h3 h4=>f h1 h2 h3 h4 h5
theorem jP{α:Type}{o:Option α}{k:α->Bool}(h:cQ o k=true){P:Prop}(f:∀x,o=some x->k x=true->P):P:=by
 cases o with
 |none=>cases h
 |some x=>exact f x rfl h
theorem Ov{o:Option (Expr×Expr)}{k:Expr->Expr->Bool}(h:qK o k=true){P:Prop}(f:∀x y,o=some (x,y)->k x y=true->P):P:=jP h fun x=>f x.1 x.2
theorem aCS{o:Option (List Str)}{k:List Str->Bool}(h:tg1 o k=true):∃x,o=some x/\k x=true:=jP h fun x e h=>aH x e h
theorem aCT{o o2:Option (List Str)}{k:List Str->List Str->Bool}(h:tg2 o o2 k=true):∃x y,o=some x/\o2=some y/\k x y=true:=by refine jP h fun x e h=>jP h fun y e2 h=>?_;exact(dW x y e e2 h)
theorem aDY{o:Option Nat}{k:Nat->Bool}(h:ltB o k=true):∃x,o=some x/\k x=true:=jP h fun x e h=>aH x e h
theorem El{α:Type}{k:α->Bool}{l:List α->Bool}{es:List α}(h:hdB k l es=true){P:Prop}(f:∀x r,es=x::r->k x=true->l r=true->P):P:=by
 cases es with
 |nil=>cases h
 |cons x r=>exact aS h (f x r rfl)
theorem w1{α:Type}{k:α->Bool}{l:List α}(h:yK k l=true):∃x,l=[x]/\k x=true:=by
 obtain⟨x,r,rfl,h⟩:∃x r,l=x::r/\(r.isEmpty&&k x)=true:=by cases l with|nil=>cases h|cons x r=>exact(hN x r rfl h)
 refine aS h fun h1 h2=>?_;rw[List.isEmpty_iff.mp h1];exact(aH x rfl h2)
theorem w2{α:Type}{k:α->α->Bool}{l:List α}(h:Xh k l=true):∃x y,l=[x,y]/\k x y=true:=by
 obtain⟨x,r,rfl,h⟩:∃x r,l=x::r/\yK (k x) r=true:=by cases l with|nil=>cases h|cons x r=>exact(hN x r rfl h)
 refine aP (w1 h) fun y Q1 h=>?_;rename_i y0 y1;clear y0 y1;subst Q1;exact(hN x y rfl h)
theorem w0{α:Type}{l:List α}(h:l.isEmpty=true):l=[]:=List.isEmpty_iff.mp h
theorem wn{o:Option Expr}(h:oNo o=true):o=none:=Option.isNone_iff_eq_none.mp h
theorem aDZ{o:UnaryOp}(h:Op o=true):o= .USub:=UnaryOp.USub.elim (motive:=fun o=>o= .USub) o (cX.mp h) rfl
theorem aD0{o:UnaryOp}(h:aAM o=true):o= .Not:=UnaryOp.Not.elim (motive:=fun o=>o= .Not) o (cX.mp h) rfl
theorem aD1{o:Operator}(h:Oq o=true):o= .Mult:=Operator.Mult.elim (motive:=fun o=>o= .Mult) o (cX.mp h) rfl
theorem aD2{o:BoolOp}(h:Hr o=true):o= .And:=BoolOp.And.elim (motive:=fun o=>o= .And) o (cX.mp h) rfl
theorem uor{o:BoolOp}(h:(!Hr o)=true):o= .Or:=by cases o;cases h;rfl
theorem oIn{k:Int->Bool}{c:Const}(h:aCF k c=true):∃j,c= .int j/\k j=true:=by cases c<;>first|exact(eX h).elim|exact(aH _ rfl h)
theorem oSt{k:Str->Bool}{c:Const}(h:aCG k c=true):∃j,c= .str j/\k j=true:=by cases c<;>first|exact(eX h).elim|exact(aH _ rfl h)
theorem kU{c:Prop}[Decidable c]{f:c->Bool}(h:(if h:c then f h else false)=true):c:=by
 by_cases q:c
 ·exact q
 ·rw[dif_neg q] at h;cases h
theorem v1k{e:Expr}{k:Const->Bool}(h:on1 k e=true){P:Prop}(f:∀c n p,e= .Constant c n p->k c=true->P):P:=
 Expr.Constant.elim (motive_1:=fun e=>on1 k e=true->(∀c n p,e= .Constant c n p->k c=true->P)->P) e (kU h) (fun c n p h f=>f c n p rfl h) h f
theorem aCU{e:Expr}{k:UnaryOp->Expr->Bool}(h:oUn k e=true){P:Prop}(f:∀o x p,e= .UnaryOp o x p->k o x=true->P):P:=
 Expr.UnaryOp.elim (motive_1:=fun e=>oUn k e=true->(∀o x p,e= .UnaryOp o x p->k o x=true->P)->P) e (kU h) (fun o x p h f=>f o x p rfl h) h f
theorem v3k{e:Expr}{k:Str->Bool}(h:on3 k e=true){P:Prop}(f:∀x p,e= .Name x p->k x=true->P):P:=
 Expr.Name.elim (motive_1:=fun e=>on3 k e=true->(∀x p,e= .Name x p->k x=true->P)->P) e (kU h) (fun x p h f=>f x p rfl h) h f
theorem Ow{e:Expr}{k:Expr->Str->Pos->Bool}(h:uA k e=true){P:Prop}(f:∀x n p,e= .Attribute x n p->k x n p=true->P):P:=
 Expr.Attribute.elim (motive_1:=fun e=>uA k e=true->(∀x n p,e= .Attribute x n p->k x n p=true->P)->P) e (kU h) (fun x n p h f=>f x n p rfl h) h f
theorem v5k{e:Expr}{k:Expr->Operator->Expr->Bool}(h:on5 k e=true){P:Prop}(f:∀l o r p,e= .BinOp l o r p->k l o r=true->P):P:=
 Expr.BinOp.elim (motive_1:=fun e=>on5 k e=true->(∀l o r p,e= .BinOp l o r p->k l o r=true->P)->P) e (kU h) (fun l o r p h f=>f l o r p rfl h) h f
theorem v8k{e:Expr}{k:List Expr->Bool}(h:on8 k e=true){P:Prop}(f:∀x p,e= .List x p->k x=true->P):P:=
 Expr.List.elim (motive_1:=fun e=>on8 k e=true->(∀x p,e= .List x p->k x=true->P)->P) e (kU h) (fun x p h f=>f x p rfl h) h f
theorem v7k{e:Expr}{k:List Expr->Bool}(h:on7 k e=true){P:Prop}(f:∀x c p,e= .Tuple x c p->k x=true->P):P:=
 Expr.Tuple.elim (motive_1:=fun e=>on7 k e=true->(∀x c p,e= .Tuple x c p->k x=true->P)->P) e (kU h) (fun x c p h f=>f x c p rfl h) h f
theorem v9k{e:Expr}{k:List (Option Expr)->List Expr->Bool}(h:on9 k e=true){P:Prop}(f:∀ks x p,e= .Dict ks x p->k ks x=true->P):P:=
 Expr.Dict.elim (motive_1:=fun e=>on9 k e=true->(∀ks x p,e= .Dict ks x p->k ks x=true->P)->P) e (kU h) (fun ks x p h f=>f ks x p rfl h) h f
theorem Ox{e:Expr}{k:Expr->Expr->Bool}(h:Ef k e=true){P:Prop}(f:∀x y p,e= .Subscript x y p->k x y=true->P):P:=
 Expr.Subscript.elim (motive_1:=fun e=>Ef k e=true->(∀x y p,e= .Subscript x y p->k x y=true->P)->P) e (kU h) (fun x y p h f=>f x y p rfl h) h f
theorem aCV{e:Expr}{k:Option Expr->Option Expr->Option Expr->Bool}(h:oSl k e=true){P:Prop}(f:∀a b c p,e= .Slice a b c p->k a b c=true->P):P:=
 Expr.Slice.elim (motive_1:=fun e=>oSl k e=true->(∀a b c p,e= .Slice a b c p->k a b c=true->P)->P) e (kU h) (fun a b c p h f=>f a b c p rfl h) h f
theorem aD3{e:Expr}{k:Expr->Expr->Expr->Bool}(h:aBm k e=true){P:Prop}(f:∀c x y p,e= .IfExp c x y p->k c x y=true->P):P:=
 Expr.IfExp.elim (motive_1:=fun e=>aBm k e=true->(∀c x y p,e= .IfExp c x y p->k c x y=true->P)->P) e (kU h) (fun c x y p h f=>f c x y p rfl h) h f
theorem aCW{e:Expr}{k:Expr->List CmpOp->List Expr->Bool}(h:Xi k e=true){P:Prop}(f:∀x o y p,e= .Compare x o y p->k x o y=true->P):P:=
 Expr.Compare.elim (motive_1:=fun e=>Xi k e=true->(∀x o y p,e= .Compare x o y p->k x o y=true->P)->P) e (kU h) (fun x o y p h f=>f x o y p rfl h) h f
theorem aCX{e:Expr}{k:Expr->List Comprehension->Scope->Bool}(h:oLC k e=true){P:Prop}(f:∀x g sc p,e= .ListComp x g sc p->k x g sc=true->P):P:=
 Expr.ListComp.elim (motive_1:=fun e=>oLC k e=true->(∀x g sc p,e= .ListComp x g sc p->k x g sc=true->P)->P) e (kU h) (fun x g sc p h f=>f x g sc p rfl h) h f
theorem Km{e:Expr}{k:Expr->List Expr->List Keyword->Pos->Bool}(h:sG k e=true){P:Prop}(g:∀f xs kw p,e= .Call f xs kw p->k f xs kw p=true->P):P:=
 Expr.Call.elim (motive_1:=fun e=>sG k e=true->(∀f xs kw p,e= .Call f xs kw p->k f xs kw p=true->P)->P) e (kU h) (fun f xs kw p h g=>g f xs kw p rfl h) h g
theorem aCY{e:Expr}{k:BoolOp->List Expr->Bool}(h:oBo k e=true){P:Prop}(f:∀o x p,e= .BoolOp o x p->k o x=true->P):P:=
 Expr.BoolOp.elim (motive_1:=fun e=>oBo k e=true->(∀o x p,e= .BoolOp o x p->k o x=true->P)->P) e (kU h) (fun o x p h f=>f o x p rfl h) h f
theorem aCZ{e:Stmt}{k:List Expr->Expr->Bool}(h:aBs k e=true){P:Prop}(f:∀x v p,e= .Assign x v p->k x v=true->P):P:=
 Stmt.Assign.elim (motive_2:=fun e=>aBs k e=true->(∀x v p,e= .Assign x v p->k x v=true->P)->P) e (kU h) (fun x v p h f=>f x v p rfl h) h f
theorem Xk{e:Stmt}{k:Expr->Bool}(h:os4 k e=true){P:Prop}(f:∀v p,e= .Expr v p->k v=true->P):P:=
 Stmt.Expr.elim (motive_2:=fun e=>os4 k e=true->(∀v p,e= .Expr v p->k v=true->P)->P) e (kU h) (fun v p h f=>f v p rfl h) h f
theorem aD4{e:Stmt}{k:Expr->List Stmt->List Stmt->Bool}(h:os5 k e=true){P:Prop}(f:∀c x y p,e= .If c x y p->k c x y=true->P):P:=
 Stmt.If.elim (motive_2:=fun e=>os5 k e=true->(∀c x y p,e= .If c x y p->k c x y=true->P)->P) e (kU h) (fun c x y p h f=>f c x y p rfl h) h f
theorem aC0{S:Stmt}{k:Expr->Expr->List Stmt->List Stmt->Bool}(h:aBt k S=true){P:Prop}(f:∀t i b e p,S= .For t i b e p->k t i b e=true->P):P:=
 Stmt.For.elim (motive_2:=fun S=>aBt k S=true->(∀t i b e p,S= .For t i b e p->k t i b e=true->P)->P) S (kU h) (fun t i b e p h f=>f t i b e p rfl h) h f
theorem aD5{S:Stmt}{k:Expr->List Stmt->List Stmt->Bool}(h:oWh k S=true){P:Prop}(f:∀c b e p,S= .While c b e p->k c b e=true->P):P:=
 Stmt.While.elim (motive_2:=fun S=>oWh k S=true->(∀c b e p,S= .While c b e p->k c b e=true->P)->P) S (kU h) (fun c b e p h f=>f c b e p rfl h) h f
theorem aC1{e:Stmt}{k:Option Expr->Bool}(h:aBu k e=true){P:Prop}(f:∀o p,e= .Return o p->k o=true->P):P:=
 Stmt.Return.elim (motive_2:=fun e=>aBu k e=true->(∀o p,e= .Return o p->k o=true->P)->P) e (kU h) (fun o p h f=>f o p rfl h) h f
section
variable {e:Expr}
inductive Iv2(k:Int->Bool)(e:Expr):Prop
 |mk (j:Int) (n:Nat) (p:Pos) (q:Pos):e= .UnaryOp .USub (.Constant (.int j) n p) q->k j=true->Iv2 k e
theorem v2{k:Int->Bool}(h:on2 k e=true):Iv2 k e:=by refine aCU h fun o x q Q3 h=>?_;rename_i y0;clear y0;subst Q3;refine aS h fun h1 h2=>v1k h2 fun c n p Q3 h3=>?_;subst Q3;refine aP (oIn h3) fun j Q1 h3=>?_;subst Q1;rw[aDZ h1];exact⟨_,_,_,_,rfl,h3⟩
inductive aC2(k:Expr->Expr->Bool)(o:Option (Expr×Expr×Expr)):Prop
 |mk (x:Expr) (y:Expr) (kk:Nat) (p1:Pos) (p2:Pos):o=some (x,y,.UnaryOp .USub (.Constant (.int 1) kk p1) p2)->k x y=true->aC2 k o
theorem is3{o:Option (Expr×Expr×Expr)}{k:Expr->Expr->Bool}(h:Hs o k=true):aC2 k o:=by refine jP h fun Q0 e h=>?_;obtain⟨x,y,z⟩:=Q0;refine aS h fun h1 h2=>?_;obtain⟨j,n,p,q,rfl,h3⟩:=v2 h1;clear h h1;obtain rfl:=cX.mp h3;exact⟨_,_,_,_,_,e,h2⟩
theorem v4{k:Str->Str->Bool}(h:on4 k e=true):∃x q n p,e= .Attribute (.Name x q) n p/\k x n=true:=by refine Ow h fun _ n p Q3 h=>?_;rename_i y0 y1;clear y0;subst Q3;refine v3k h fun x q Q2 h=>?_;subst Q2;exact(xZ _ _ _ _ rfl h)
theorem v4k{k:Str->Str->Bool}(h:on4 k e=true){P:Prop}(f:∀x q n p,e= .Attribute (.Name x q) n p->k x n=true->P):P:=Nw (v4 h) f
inductive Iv6(k:Expr->Expr->Bool)(e:Expr):Prop
 |mk (l:Expr) (q:Pos) (r:Expr) (p:Pos):e= .BinOp (.List [l] q) .Mult r p->k l r=true->Iv6 k e
theorem v6{k:Expr->Expr->Bool}(h:on6 k e=true):Iv6 k e:=by refine v5k h fun _ o r p Q4 h=>?_;rename_i y0 y1;clear y0;subst Q4;refine aS h fun h1 h2=>v8k h2 fun _ q Q2 h3=>?_;subst Q2;refine aP (w1 h3) fun l Q1 h4=>?_;subst Q1;rw[aD1 h1];exact⟨_,_,_,_,rfl,h4⟩
theorem v10(h:aCH e=true):∃p,e= .Dict [] [] p:=by refine v9k h fun _ _ p Q3 h=>?_;rename_i y0 y1 y2;clear y0;subst Q3;refine aS h fun h1 h2=>?_;rw[w0 h1,w0 h2];exact⟨_,rfl⟩
inductive aC3(k:Expr->Expr->Bool)(e:Expr):Prop
 |mk (x:Expr) (y:Expr) (q:Pos) (p:Pos):e= .Subscript x (.Slice none (some y) none q) p->k x y=true->aC3 k e
theorem v12{k:Expr->Expr->Bool}(h:aBl k e=true):aC3 k e:=by refine Ox h fun x _ p Q3 h=>?_;rename_i y0 y1;clear y0;subst Q3;refine aCV h fun a b c q Q4 h=>?_;subst Q4;refine gE h fun h1 h2 h3=>jP h3 fun y Q1 h4=>?_;subst Q1;rw[wn h1,wn h2];exact⟨_,_,_,_,rfl,h4⟩
inductive aC4(k:Expr->Expr->Bool)(e:Expr):Prop
 |mk (x:Expr) (y:Expr) (q:Pos) (p:Pos):e= .Subscript x (.Slice (some y) none none q) p->k x y=true->aC4 k e
theorem v13{k:Expr->Expr->Bool}(h:aCI k e=true):aC4 k e:=by refine Ox h fun x _ p Q3 h=>?_;rename_i y0 y1;clear y0;subst Q3;refine aCV h fun a b c q Q4 h=>?_;subst Q4;refine gE h fun h1 h2 h3=>jP h3 fun y Q1 h4=>?_;subst Q1;rw[wn h1,wn h2];exact⟨_,_,_,_,rfl,h4⟩
theorem v15{k:Expr->CmpOp->Expr->Bool}(h:Eg k e=true):∃x o y p,e= .Compare x [o] [y] p/\k x o y=true:=by refine aCW h fun x _ _ p Q4 h=>?_;subst Q4;refine aP (w1 h) fun o Q1 h=>?_;subst Q1;refine aP (w1 h) fun y Q1 h=>?_;subst Q1;exact(xZ _ _ _ _ rfl h)
theorem Oy{k:Expr->CmpOp->Expr->Bool}(h:Eg k e=true){P:Prop}(f:∀x o y p,e= .Compare x [o] [y] p->k x o y=true->P):P:=Nw (v15 h) f
inductive aC5(k:Expr->CmpOp->CmpOp->Expr->Expr->Bool)(e:Expr):Prop
 |mk (x:Expr) (o:CmpOp) (o':CmpOp) (y:Expr) (z:Expr) (p:Pos):e= .Compare x [o,o'] [y,z] p->k x o o' y z=true->aC5 k e
theorem v24{k:Expr->CmpOp->CmpOp->Expr->Expr->Bool}(h:aCJ k e=true):aC5 k e:=by refine aCW h fun x _ _ p Q4 h=>?_;subst Q4;refine fG (w2 h) fun o o' Q2 h=>?_;subst Q2;refine fG (w2 h) fun y z Q2 h=>?_;subst Q2;exact⟨_,_,_,_,_,_,rfl,h⟩
inductive aC6(k:Expr->Expr->Expr->List Expr->Int->Scope->Bool)(e:Expr):Prop
 |mk (x:Expr) (y:Expr) (it:Expr) (cs:(List Expr)) (a:Int) (sc:Scope) (p:Pos):e= .ListComp x [⟨y,it,cs,a⟩] sc p->k x y it cs a sc=true->aC6 k e
theorem v16{k:Expr->Expr->Expr->List Expr->Int->Scope->Bool}(h:aCK k e=true):aC6 k e:=by refine aCX h fun x _ sc p Q4 h=>?_;rename_i y0 y1;clear y0;subst Q4;refine aP (w1 h) fun Q0 Q1 h=>?_;obtain⟨y,it,cs,a⟩:=Q0;subst Q1;exact⟨_,_,_,_,_,_,_,rfl,h⟩
inductive aC7(k:Expr->Expr->Expr->List Expr->Int->Expr->Expr->List Expr->Int->Scope->Bool)(e:Expr):Prop
 |mk (x:Expr) (y:Expr) (it:Expr) (cs:(List Expr)) (a:Int) (y2:Expr) (it2:Expr) (cs2:(List Expr)) (a2:Int) (sc:Scope) (p:Pos):e= .ListComp x [⟨y,it,cs,a⟩,⟨y2,it2,cs2,a2⟩] sc p->k x y it cs a y2 it2 cs2 a2 sc=true->aC7 k e
theorem v17{k:Expr->Expr->Expr->List Expr->Int->Expr->Expr->List Expr->Int->Scope->Bool}(h:aCL k e=true):aC7 k e:=by refine aCX h fun x _ sc p Q4 h=>?_;rename_i y0 y1;clear y0;subst Q4;refine fG (w2 h) fun Q0 Q1 Q2 h=>?_;obtain⟨y,it,cs,a⟩:=Q0;obtain⟨y2,it2,cs2,a2⟩:=Q1;subst Q2;exact⟨_,_,_,_,_,_,_,_,_,_,_,rfl,h⟩
inductive aC8(k:Str->List Expr->Bool)(e:Expr):Prop
 |mk (x:Str) (q:Pos) (xs:(List Expr)) (p:Pos):e= .Call (.Name x q) xs [] p->k x xs=true->aC8 k e
theorem v18{k:Str->List Expr->Bool}(h:aBn k e=true):aC8 k e:=by refine Km h fun _ xs kw p Q4 h=>?_;rename_i y0 y1;clear y0;subst Q4;refine aS h fun h1 h2=>v3k h2 fun x q Q2 h3=>?_;subst Q2;rw[w0 h1];exact⟨_,_,_,_,rfl,h3⟩
inductive aC9(k:Str->Str->Pos->List Expr->Pos->Bool)(e:Expr):Prop
 |mk (x:Str) (q:Pos) (n:Str) (ap:Pos) (xs:(List Expr)) (cp:Pos):e= .Call (.Attribute (.Name x q) n ap) xs [] cp->k x n ap xs cp=true->aC9 k e
theorem v19{k:Str->Str->Pos->List Expr->Pos->Bool}(h:aCM k e=true):aC9 k e:=by refine Km h fun _ xs kw p Q4 h=>?_;rename_i y0 y1;clear y0;subst Q4;refine aS h fun h1 h2=>Ow h2 fun _ n ap Q3 h3=>?_;subst Q3;refine v3k h3 fun x q Q2 h4=>?_;subst Q2;rw[w0 h1];exact⟨_,_,_,_,_,_,rfl,h4⟩
inductive aDa(k:Expr->Str->Pos->Pos->Bool)(e:Expr):Prop
 |mk (x:Expr) (n:Str) (ap:Pos) (cp:Pos):e= .Call (.Attribute x n ap) [] [] cp->k x n ap cp=true->aDa k e
theorem v20{k:Expr->Str->Pos->Pos->Bool}(h:aBo k e=true):aDa k e:=by refine Km h fun _ xs kw p Q4 h=>?_;rename_i y0 y1;clear y0;subst Q4;refine gE h fun h1 h2 h3=>Ow h3 fun _ n ap Q3 h4=>?_;subst Q3;rw[w0 h1,w0 h2];exact⟨_,_,_,_,rfl,h4⟩
theorem v21{k:Expr->Bool}(h:aCN k e=true):∃x p,e= .UnaryOp .Not x p/\k x=true:=by refine aCU h fun o x q Q3 h=>?_;rename_i y0;clear y0;subst Q3;refine aS h fun h1 h2=>?_;rw[aD0 h1];exact(hN _ _ rfl h2)
theorem v22{k:List Expr->Bool}(h:aCO k e=true):∃x p,e= .BoolOp .And x p/\k x=true:=by refine aCY h fun o x q Q3 h=>?_;rename_i y0;clear y0;subst Q3;refine aS h fun h1 h2=>?_;rw[aD2 h1];exact(hN _ _ rfl h2)
theorem v23{k:List Expr->Bool}(h:aCP k e=true):∃x p,e= .BoolOp .Or x p/\k x=true:=by refine aCY h fun o x q Q3 h=>?_;rename_i y0;clear y0;subst Q3;refine aS h fun h1 h2=>?_;rw[uor h1];exact(hN _ _ rfl h2)
end
section
variable (prog:Program)(w:World)(P:PS)
structure Args(F:Fz)(h:Heap)(xs:List Value)(vs:List V)(fp:Nat->List Addr):Prop where
 len:xs.length=vs.length
 at_:∀(i:Nat) (v:V),vs[i]?=some v->∃x,xs[i]?=some x/\hO prog w P F h x v (fp i)
 emp:∀i:Nat,vs[i]?=none->fp i=[]
 dj:∀i j a,a∈fp i->a∈fp j->i=j
 off:∀i a,a∈fp i->F a=none
inductive Oz(f:Nat)(F:Fz)(fp:Nat->List Addr)(s:Shared)(xs:List Value)(r:D)(m7:List V)(res:Result)(s':Shared):Prop
 |mk (x:Value) (F':Fz) (e9:Nat->List Addr):res= .ok (.ret x)->Tr (!lE f) F s (Own fp) F' s'->Rep prog w F' x r->Args prog w P F' s'.heap xs m7 e9->(∀i a,a∈e9 i->a∈fp i\/s.heap.get? a=none)->Oz f F fp s xs r m7 res s'
def qM(b5:Heap)(f:Nat)(Φ:List V->Option (D×List V)):Prop:=
 ∀(A:Around) (F:Fz) (s:Shared) (xs:List Value) (vs:List V) (fp:Nat->List Addr) (r:D) (m7:List V),Good (4*(f+1)) A->(∀a o,b5.get? a=some o->F a=some o)->(∀a o,F a=some o->s.heap.get? a=some o)->
  Args prog w P F s.heap xs vs fp->Φ vs=some (r,m7)->
  codeAny (model prog w) A (.call (.ref (P.fnAddr f)) ⟨xs,[]⟩) (Oz prog w P f F fp s xs r m7) s
structure Xl(K:Frag)(b5:Heap)(T:Tab)(mg:Str->Option Value):Prop where
 fn:∀x f,P.fnName.lookup x=some f->mg x=some (.ref (P.fnAddr f))/\∃o fd,b5.get? (P.fnAddr f)=some o/\o.data= .func fd
 cls:∀x c,P.clsName.lookup x=some c->mg x=some (.ref (P.clsAddr c))/\keepIn K (.ref (P.clsAddr c))=true/\makesIn K (P.clsAddr c)=true
 gl:∀x g d,P.glName.lookup x=some g->T.gl g=some d->∃v,mg x=some v/\Rep prog w b5.get? v d
 free:∀x∈([("len":Str),"max","min","range","reversed","sorted","set","tuple","list","dict","int"]:List Str),mg x=none
 me:∀m c f,T.me m c=some f->findIn K (.ref (P.clsAddr c)) (P.methName m)=some (some (.ref (P.fnAddr f)))/\isFn K (.ref (P.fnAddr f))=true/\(Ak m=true->lE f=true)/\
  (∀id,id<P.na->P.attrName id≠P.methName m)/\∃o fd,b5.get? (P.fnAddr f)=some o/\o.data= .func fd
 ini:∀c f,T.ini c=some f->findIn K (.ref (P.clsAddr c)) ("__init__":Str)=some (some (.ref (P.fnAddr f)))/\isFn K (.ref (P.fnAddr f))=true
 tini:T.ini=P.ini
 tme:T.me=P.me
 two:∀c,P.ini c≠none->c<2
 inst:∀c,P.ini c≠none->(∀n,plainGet K (P.clsAddr c) n=true)/\hasDictIn K (P.clsAddr c)=true/\findIn K (.ref (P.clsAddr c)) "__setattr__"=some (some (.builtin "object.__setattr__"))/\plainOver K (P.clsAddr c)=true/\
  ∀id,id<P.na->findIn K (.ref (P.clsAddr c)) (P.attrName id)=some none/\takerIn K (P.clsAddr c) (P.attrName id)=some none
 inj:∀i j,i<P.na->j<P.na->P.attrName i=P.attrName j->i=j
end
structure Bl(B:Bk)(env:Env)(b8:List bF):Prop extends Fm env B.res b8 where
 sc:∀x k,B.sc.names.lookup x=some k->env.kindOf x=some k\/(k= .free/\env.kindOf x=some .cell)
 ns:b8.length=B.ns
structure Pre(prog:Program)(w:World)(P:PS)(b5:Heap)(B:Bk)(A:Around)(env:Env)(b8:List bF)(F:Fz)(σ:Sg)(fp:Nat->List Addr)(s:Shared):Prop where
 good:Good B.lt A
 bl:Bl B env b8
 hb:∀a o,b5.get? a=some o->F a=some o
 hF:∀a o,F a=some o->s.heap.get? a=some o
 fi:Fi prog w P s.heap F b8 σ fp
structure Known(prog:Program)(w:World)(P:PS)(K:Frag)(b5:Heap)(T:Tab)(mg mb:Str->Option Value)(lt:Nat):Prop where
 gl:Gl prog w K b5 mg mb
 ps:Xl prog w P K b5 T mg
 fn:∀f,4*(f+1)<=lt->qM prog w P b5 f (T.fn f)
section
variable {prog:Program}{w:World}{P:PS}{K:Frag}{b5:Heap}{T:Tab}{mg mb:Str->Option Value}{B:Bk}{A:Around}{env:Env}{b8:List bF}{b b':Bool}{F c6 d5:Fz}{fp c7 d4:Nat->List Addr}{s c5 c9:Shared}{σ b9 c8:Sg}
theorem Pre.next(p:Pre prog w P b5 B A env b8 F σ fp s)(g:Go prog w P b8 b F fp s c6 c7 c5 b9):Pre prog w P b5 B A env b8 c6 b9 c7 c5:=
 ⟨p.good,p.bl,fun a o e=>g.tr.mono a o (p.hb a o e),g.tr.fz,g.fi⟩
theorem Pre.keeps(p:Pre prog w P b5 B A env b8 F σ fp s):∀a o,b5.get? a=some o->s.heap.get? a=some o:=fun a o e=>p.hF a o (p.hb a o e)
theorem Go.tick{tk:Nat}(g:Go prog w P b8 b F fp s c6 c7 c5 b9):Go prog w P b8 b F fp s c6 c7 {c5 with toks:=tk} b9:=
 ⟨⟨g.tr.mono,g.tr.kept,g.tr.alive,g.tr.fz,g.tr.fresh,by rw[g.tr.rest]⟩,g.fi,g.sub⟩
theorem eH.after{d7:Sg}{v:V}{x:Value}{s':Shared}(g:Go prog w P b8 b F fp s c6 c7 c5 b9)(h:eH prog w P b8 b c6 c7 c5 d7 v x s'):eH prog w P b8 b F fp s d7 v x s':=
 by obtain⟨F',e9,fx,g',r,n⟩:=h;exact⟨F',e9,fx,g.trans g',r,fun a ha=>(n a ha).imp (g.tr.alive a) id⟩
theorem eH.up{d7:Sg}{v:V}{x:Value}{s':Shared}(h:eH prog w P b8 b F fp s d7 v x s')(hb:b=true->b'=true):eH prog w P b8 b' F fp s d7 v x s':=
 by obtain⟨F',e9,fx,g',r,n⟩:=h;exact⟨F',e9,fx,g'.up hb,r,n⟩
end
section
variable (prog:Program)(w:World)(P:PS)(b5:Heap)(T:Tab)
def Snd(B:Bk)(e:Ex)(E:Expr):Prop:=∀A env b8 F σ fp s v d7,Pre prog w P b5 B A env b8 F σ fp s->evE T e σ=some (v,d7)->
 wpAny (model prog w) A (eval E env) (eH prog w P b8 (!pureE e) F fp s d7 v) NoE s
def nO(B:Bk)(t:Tx)(E:Expr):Prop:=∀A env b8 F σ fp s v d7,Pre prog w P b5 B A env b8 F σ fp s->evT T t σ=some (v,d7)->
 wpAny (model prog w) A (PySem.isTrue E env (eval E env)) (qJ prog w P b8 (!wX t) F fp s d7 v) NoE s
def uB(B:Bk)(es:List Ex)(Es:List Expr):Prop:=∀A env b8 F σ fp s vs d7 pos,Pre prog w P b5 B A env b8 F σ fp s->pQ T es σ=some (vs,d7)->
 wpAny (model prog w) A (spliced (backTo pos (starEach Es env))) (Ol prog w P b8 (!pureEs es) F fp s d7 vs) NoE s
end
section
variable {prog:Program}{w:World}{P:PS}{K:Frag}{b5:Heap}{T:Tab}{mg mb:Str->Option Value}{B:Bk}
theorem Pa{α:Type}{Q:α->Shared->Prop}{E:Value->Shared->Prop}{M:Model}{A:Around}{t:Sem α}{s:Shared}(h:wpAny M A t Q NoE s):wpAny M A t Q E s:=bX h (fun _ _ x=>x) fun _ _ x=>x.elim
theorem fV{a b:Bool}:(!a)=true->(!(a&&b))=true:=by cases a<;>simp
theorem kW{a b:Bool}:(!b)=true->(!(a&&b))=true:=by cases b<;>simp
section
variable {A:Around}{env:Env}{b8:List bF}{F:Fz}{σ d7 b9:Sg}{fp:Nat->List Addr}{s:Shared}{a b:Ex}{X Y:Expr}{x y:D}{v:V}
theorem Snd.run{Q:Value->Shared->Prop}(ha:Snd prog w P b5 T B a X)(p:Pre prog w P b5 B A env b8 F σ fp s)(e:evE T a σ=some (v,b9))
  (h:∀u c5,eH prog w P b8 (!pureE a) F fp s b9 v u c5->Q u c5):wpAny (model prog w) A (eval X env) Q NoE s:=
 bX (ha A env b8 F σ fp s v b9 p e) h fun _ _ x=>x
theorem Snd.d{Q:Value->Shared->Prop}(ha:Snd prog w P b5 T B a X)(p:Pre prog w P b5 B A env b8 F σ fp s)(e:evE T a σ=some (.d x,b9))
  (h:∀u c6 c7 c5,Go prog w P b8 (!pureE a) F fp s c6 c7 c5 b9->Rep prog w c6 u x->Q u c5):wpAny (model prog w) A (eval X env) Q NoE s:=
 ha.run p e fun u c5 h1=>by obtain⟨c6,c7,g,r⟩:=h1.toD;exact h u c6 c7 c5 g r
theorem Snd.i{n:Int}{Q:Value->Shared->Prop}(ha:Snd prog w P b5 T B a X)(p:Pre prog w P b5 B A env b8 F σ fp s)(e:evE T a σ=some (.d (.int n),b9))
  (h:∀t c6 c7 c5,Go prog w P b8 (!pureE a) F fp s c6 c7 c5 b9->Q (.int n t) c5):wpAny (model prog w) A (eval X env) Q NoE s:=
 ha.d p e fun u c6 c7 c5 g r=>by refine X1 r.inv fun t Q1=>?_;subst Q1;exact h t c6 c7 c5 g
theorem two{b0:Bool}{Q:Value->Shared->Prop}{k:Value->Value->Sem Value}
  (ha:Snd prog w P b5 T B a X) (hb:Snd prog w P b5 T B b Y) (p:Pre prog w P b5 B A env b8 F σ fp s) (e1:evE T a σ=some (.d x,b9)) (e2:evE T b b9=some (.d y,d7))
  (hp:(pureE a&&pureE b)=b0)
  (h:∀u v d5 d4 c9,Go prog w P b8 (!b0) F fp s d5 d4 c9 d7->Rep prog w d5 u x->Rep prog w d5 v y->wpAny (model prog w) A (k u v) Q NoE c9):
  wpAny (model prog w) A (eval X env) (fun u c5=>wpAny (model prog w) A (eval Y env) (fun v c9=>wpAny (model prog w) A (k u v) Q NoE c9) NoE c5) NoE s:=by
 subst hp;exact ha.d p e1 fun u c6 c7 c5 g1 r1=>hb.d (p.next g1) e2 fun v d5 d4 c9 g2 r2=>h u v d5 d4 c9 ((g1.up fV).trans (g2.up kW)) (r1.mono g2.tr.mono) r2
theorem aAN{b0:Bool}{m n:Int}{Q:Value->Shared->Prop}{k:Value->Value->Sem Value}
  (ha:Snd prog w P b5 T B a X) (hb:Snd prog w P b5 T B b Y) (p:Pre prog w P b5 B A env b8 F σ fp s) (e1:evE T a σ=some (.d (.int m),b9)) (e2:evE T b b9=some (.d (.int n),d7))
  (hp:(pureE a&&pureE b)=b0)
  (h:∀t t' d5 d4 c9,Go prog w P b8 (!b0) F fp s d5 d4 c9 d7->wpAny (model prog w) A (k (.int m t) (.int n t')) Q NoE c9):
  wpAny (model prog w) A (eval X env) (fun u c5=>wpAny (model prog w) A (eval Y env) (fun v c9=>wpAny (model prog w) A (k u v) Q NoE c9) NoE c5) NoE s:=by
 subst hp;exact ha.i p e1 fun t c6 c7 c5 g1=>hb.i (p.next g1) e2 fun t' d5 d4 c9 g2=>h t t' d5 d4 c9 ((g1.up fV).trans (g2.up kW))
end
end
section
variable {prog:Program}{w:World}{P:PS}{K:Frag}{b5:Heap}{T:Tab}{mg mb:Str->Option Value}{B:Bk}{A:Around}{env:Env}{b8:List bF}{b b':Bool}{F c6 d5:Fz}{fp c7 d4:Nat->List Addr}{s c5 c9:Shared}{σ b9 c8:Sg}
theorem load{i:Nat}{x:Str}{v:V}{Q:Value->Shared->Prop}{E:Value->Shared->Prop}(p:Pre prog w P b5 B A env b8 F σ fp s)(hn:okN B i x=true)(hv:σ.get i=some v)
  (h:∀l y,b8[i]?=some l->l.At s.heap y->hO prog w P F s.heap y v (fp i)->Q y s) {pos:Pos}:wpAny (model prog w) A (eval (.Name x pos) env) Q E s:=by
 apply bc;intro Z;simp only[okN,Bool.and_eq_true,bne_iff_ne,ne_eq,beq_iff_eq] at hn;refine cK hn fun Q0 h3=>?_;obtain⟨h1,h2⟩:=Q0;refine aP (p.bl.res x i h1) fun l hl ho=>cJ (p.fi.sl i v hv) fun l' y hl' hy hr=>?_;rw[hl] at hl';cases hl';apply Z;clear Z;refine wpAny_Name ?_ (by simpa using h2)
 cases l with
 |ns L z=>
  apply bc;intro Z;refine cZ ho fun Q0 e2 e3=>?_;clear hn h1 h2;subst Q0;refine aP (id hy) fun m hm hmx=>?_;subst e2;apply Z;clear Z;exact wpAny_loadName_local p.bl.kind e3 hm hmx (h _ _ hl hy hr)
 |cell c=>
  refine cK ho fun e1 e2=>?_;rcases e2 with e2|e2
  ·exact wpAny_loadName_cell p.bl.kind e2 e1 hy (h _ _ hl hy hr)
  ·exact wpAny_loadName_free p.bl.kind e2 e1 hy (h _ _ hl hy hr) (by simpa using h3)
theorem Pb{x:Str}{v:Value}{Q:Value->Shared->Prop}{E:Value->Shared->Prop}(kn:Gl prog w K b5 mg mb)(p:Pre prog w P b5 B A env b8 F σ fp s)(hg:okG B x=true)(hv:mg x=some v)(h:Q v s){pos:Pos}:
  wpAny (model prog w) A (eval (.Name x pos) env) Q E s:=by
 simp only[okG,Bool.and_eq_true,bne_iff_ne,ne_eq,beq_iff_eq] at hg;have hk:env.kindOf x=some .globalImplicit:=(p.bl.sc x _ hg.1).resolve_right fun e=>by cases e.1
 exact Calls.Name_function_global p.bl.kind hk (Calls.loadGlobal_global (by rw[p.bl.glob];exact kn.g.keeps p.keeps) hv h) (by simpa using hg.2)
theorem Pc{x:Str}{v:Value}{Q:Value->Shared->Prop}{E:Value->Shared->Prop}(kn:Gl prog w K b5 mg mb)(p:Pre prog w P b5 B A env b8 F σ fp s)(hg:okG B x=true)(hf:mg x=none)(hv:bootBuiltins x=some v)(hx:x≠"__name__")(h:Q v s){pos:Pos}:
  wpAny (model prog w) A (eval (.Name x pos) env) Q E s:=by
 simp only[okG,Bool.and_eq_true,bne_iff_ne,ne_eq,beq_iff_eq] at hg;have hk:env.kindOf x=some .globalImplicit:=(p.bl.sc x _ hg.1).resolve_right fun e=>by cases e.1
 exact Calls.Name_function_global p.bl.kind hk (Calls.loadGlobal_builtin (by rw[p.bl.glob];exact kn.g.keeps p.keeps) hf (by rw[p.bl.blt];exact kn.b.keeps p.keeps) ((kn.builtins x hx).trans hv) h) (by simpa using hg.2)
theorem Pre.go(p:Pre prog w P b5 B A env b8 F σ fp s):Go prog w P b8 b F fp s F fp s σ:= .refl b p.hF p.fi
theorem Go.postD{d:D}{x:Value}(g:Go prog w P b8 b F fp s c6 c7 c5 b9)(r:Rep prog w c6 x d):Aj prog w P b8 b F fp s b9 d x c5:=⟨c6,c7,g,r⟩
theorem Go.postE{d:D}{x:Value}(g:Go prog w P b8 b F fp s c6 c7 c5 b9)(r:Rep prog w c6 x d):eH prog w P b8 b F fp s b9 (.d d) x c5:=(g.postD r).toE
theorem kJ{x:D}(h:isNone x=true):x= .none:=by cases x<;>first|rfl|exact(eX h).elim
theorem Xm{x:D}{k:Bool->Bool}(h:boB k x=true):∃n,x= .bool n/\k n=true:=by cases x<;>first|exact(aH _ rfl h)|exact(eX h).elim
theorem Pd{x:D}{k:Int->Bool}(h:aCQ k x=true):∃n,x= .int n/\k n=true:=by cases x<;>first|exact(aH _ rfl h)|exact(eX h).elim
theorem Pe{x:D}{k:Str->Bool}(h:aCR k x=true):∃n,x= .str n/\k n=true:=by cases x<;>first|exact(aH _ rfl h)|exact(eX h).elim
theorem Xn{c:D}{k:Const}(h:okK c k=true):(c= .none/\k= .none)\/(∃n,c= .bool n/\k= .bool n)\/(∃n,c= .int n/\k= .int n)\/(∃n,c= .str n/\k= .str n):=by
 cases k with
 |none=>exact .inl ⟨kJ h,rfl⟩
 |bool b=>refine aP (Xm h) fun n Q1 h=>?_;rename_i y0;clear y0;subst Q1;exact .inr (.inl ⟨n,rfl,by rw[cX.mp h]⟩)
 |int b=>refine aP (Pd h) fun n Q1 h=>?_;rename_i y0;clear y0;subst Q1;exact .inr (.inr (.inl ⟨n,rfl,by rw[cX.mp h]⟩))
 |str b=>refine aP (Pe h) fun n Q1 h=>?_;rename_i y0;clear y0;subst Q1;exact .inr (.inr (.inr ⟨n,rfl,by rw[cX.mp h]⟩))
 |_=>cases h
theorem aDb{c:D}{E:Expr}(ok:okE P B (.k c) E=true):Snd prog w P b5 T B (.k c) E:=by
 intro A env b8 F σ fp s v d7 p ev;refine v1k ok fun k n pos Q3 ok=>?_;rename_i y0;clear y0;subst Q3;refine aU ev fun Q0 Q1=>?_;clear ev;subst Q0;subst Q1;rcases Xn ok with⟨rfl,rfl⟩|⟨n,rfl,rfl⟩|⟨n,rfl,rfl⟩|⟨n,rfl,rfl⟩
 ·exact wpAny_Constant_none (p.go.postE .none)
 ·exact wpAny_Constant_bool (p.go.postE (.bool _))
 ·exact wpAny_Constant_int (p.go.tick.postE (.int _ _))
 ·exact wpAny_Constant_str (p.go.tick.postE (.str _ _))
theorem Xo{i:Nat}{E:Expr}(ok:okE P B (.neg i) E=true):Snd prog w P b5 T B (.neg i) E:=by intro A env b8 F σ fp s v d7 p ev;obtain⟨j,n,q,q',rfl,ok⟩:=v2 ok;obtain⟨rfl,rfl⟩:=yF ev;rename_i y0;clear y0;obtain rfl:=cX.mp ok;exact wpAny_UnaryOp (wpAny_Constant_int (PyProof.Rows.neg_int (p.go.tick.postE (.int _ _))))
theorem aDc{i:Nat}{E:Expr}(ok:okE P B (.v i) E=true):Snd prog w P b5 T B (.v i) E:=by intro A env b8 F σ fp s v d7 p ev;refine v3k ok fun x q Q2 ok=>?_;rename_i y0;clear y0;subst Q2;refine Hk ev fun x hv ev=>aU ev fun Q0 Q1=>?_;subst Q0;subst Q1;exact load p ok hv fun l y _ _ r=>p.go.postE r.1
theorem aBw(kn:Known prog w P K b5 T mg mb B.lt){g:Nat}{E:Expr}(ok:okE P B (.gl g) E=true):Snd prog w P b5 T B (.gl g) E:=by
 intro A env b8 F σ fp s v d7 p ev;apply bc;intro Z;refine v3k ok fun x q Q2 ok=>?_;rename_i y0;clear y0;subst Q2;refine aS ok fun ok1 ok2=>aO ev fun d hd e=>?_
 cases e
 refine aP (kn.ps.gl _ _ _ (cX.mp ok2) hd) fun y h1 h2=>?_;apply Z;clear Z;exact Pb kn.gl p ok1 h1 (p.go.postE (h2.mono p.hb))
theorem Go.frozen(g:Go prog w P b8 b F fp s c6 c7 c5 b9){o:Obj}(ho:o.isFreed=false):
  Go prog w P b8 b F fp s (c6.add c5.heap.objs.size o) c7 {c5 with heap:=c5.heap.push o} b9:=by
 refine g.trans (Go.made (tk:=c5.toks) g.tr.fz g.fi (fun a o' e=>bM _ e) ?_ (dQ _ ho))
 cases e:c5.heap.get? c5.heap.objs.size with
 |none=>rfl
 |some o'=>exact absurd (eN e) (jL _)
theorem cS(h:Heap):h.get? h.objs.size=none:=by
 cases e:h.get? h.objs.size with
 |none=>rfl
 |some o'=>exact absurd (eN e) (jL _)
theorem Xp{t u:Addr}{xs ys:List Value}{Q:Value->Shared->Prop}{E:Value->Shared->Prop}(ht:s.heap.IsTuple t xs.toArray)(hu:s.heap.IsTuple u ys.toArray)
  (h0:xs=[]->Q (.ref u) s) (h1:xs≠[]->ys=[]->Q (.ref t) s)
  (h2:xs≠[]->ys≠[]->Q (.ref s.heap.objs.size) {s with heap:=s.heap.push {cls:= .type "tuple",data:= .seq (xs++ys).toArray}}) (hsz:xs.length+ys.length<=sizeLine):
  wpAny (model prog w) A (binaryOp .Add (.ref t) (.ref u)) Q E s:=by
 apply bc;intro Z;refine Nt (id ht) fun Q0 ho hc n hd=>?_;obtain⟨cls,dd,data,sl⟩:=Q0;refine Nt (id hu) fun Q0 ho2 hc2 n2 hd2=>?_;obtain⟨cls2,dd2,data2,sl2⟩:=Q0;apply Z;clear Z;simp only at hc hd hc2 hd2;subst hc hd hc2 hd2;have e:xs.toArray++ys.toArray=(xs++ys).toArray:=by simp
 by_cases hv:xs=[]
 ·exact concat_meets (aH _ ho rfl) (aH _ ho2 rfl) noFill_tuple_add seq_tuple_add PySem.F.slot_tuple_add PySem.F.entry_tuple_add (PySem.F.args_tuple_add_2 _ _)
   (tuple_addW0 t u xs.toArray ys.toArray n n2 dd dd2 sl sl2 (by simp[hv])) (cD ho ho2 (h0 hv))
 ·by_cases hw:ys=[]
  ·exact concat_meets (aH _ ho rfl) (aH _ ho2 rfl) noFill_tuple_add seq_tuple_add PySem.F.slot_tuple_add PySem.F.entry_tuple_add (PySem.F.args_tuple_add_2 _ _)
    (tuple_addW1 t u xs.toArray ys.toArray n n2 dd dd2 sl sl2 (by simpa using hv) (by simp[hw])) (cD ho ho2 (h1 hv hw))
  ·refine concat_meets (aH _ ho rfl) (aH _ ho2 rfl) noFill_tuple_add seq_tuple_add PySem.F.slot_tuple_add PySem.F.entry_tuple_add (PySem.F.args_tuple_add_2 _ _)
    (tuple_addW2 t u xs.toArray ys.toArray n n2 dd dd2 sl sl2 (by simpa using hv) (by simpa using hw) (by rw[List.size_toArray,List.size_toArray];exact hsz)) (cD ho ho2 ?_)
   rw[e];exact h2 hv hw
theorem Ao{a b:Int}(hb:b.natAbs<2^40):Builtin.divisionGoesByPylong a b=false:=by
 unfold Builtin.divisionGoesByPylong;have h:(if(b==0)=true then 0 else b.natAbs.log2/30+1)<=2:=by
  split
  ·exact gS _
  ·rename_i h;have hb0:b.natAbs≠0:=fun e=>h (by simpa using Int.natAbs_eq_zero.mp e);have:=(Nat.log2_lt hb0).mpr hb;lia
 have h':decide ((if(b==0)=true then 0 else b.natAbs.log2/30+1)>300)=false:=oY (by lia);dsimp only;rw[h'];rfl
theorem gF{n:Nat}(h:n<=1000000):n<=sizeLine:=by rw[fR];lia
theorem yN(hF:∀a o,F a=some o->s.heap.get? a=some o):F s.heap.objs.size=none:=by
 cases e:F s.heap.objs.size with
 |none=>rfl
 |some o'=>exact absurd (eN (hF _ _ e)) (jL _)
theorem Xq{o:BOp}{op:Operator}(h:Xj o op=true):op=aBp o:=by
 have h:op.ctorIdx=(aBp o).ctorIdx:=cX.mp h;revert h
 cases o<;>intro h
 ·exact Operator.Add.elim (motive:=fun x=>x= .Add) op h rfl
 ·exact Operator.Sub.elim (motive:=fun x=>x= .Sub) op h rfl
 ·exact Operator.Mult.elim (motive:=fun x=>x= .Mult) op h rfl
 ·exact Operator.FloorDiv.elim (motive:=fun x=>x= .FloorDiv) op h rfl
 ·exact Operator.Mod.elim (motive:=fun x=>x= .Mod) op h rfl
 ·exact Operator.Pow.elim (motive:=fun x=>x= .Pow) op h rfl
theorem Pf{x y z:D}(h:aCz x y=some z):(∃a b,x= .int a/\y= .int b/\z= .int (a+b))\/∃a b,x= .tuple a/\y= .tuple b/\a.length+b.length<=1000000/\z= .tuple (a++b):=by
 cases x with
 |int a=>refine eZ h fun b Q1 h=>?_;rename_i y0;clear y0;subst Q1;exact .inl (dW a b rfl rfl ((aK h).symm))
 |tuple a=>refine qG h fun b Q1 h=>?_;rename_i y0;clear y0;subst Q1;exact aQ h fun h1 h=>.inr (fH a b rfl rfl h1 ((aK h).symm))
 |_=>cases h
theorem Pg{x y:D}{α:Type}{z:α}{k:Int->Int->Option α}(h:(iD x fun a=>iD y fun b=>k a b)=some z):∃a b,x= .int a/\y= .int b/\k a b=some z:=by refine eZ h fun a e1 h1=>eZ h1 fun b e2 h2=>?_;exact(dW a b e1 e2 h2)
theorem Rep.ints{u v:Value}{a c:Int}(r:Rep prog w F u (.int a))(q:Rep prog w F v (.int c)):∃t t',u= .int a t/\v= .int c t':=by refine X1 r.inv fun t Q1=>?_;clear r;subst Q1;refine X1 q.inv fun t' Q1=>?_;clear q;subst Q1;exact(hN t t' rfl rfl)
theorem Go.int(g:Go prog w P b8 b F fp s c6 c7 c5 b9){n:Int}{t:Tok}{tk:Nat}:eH prog w P b8 b F fp s b9 (.d (.int n)) (.int n t) {c5 with toks:=tk}:=g.tick.postE (.int _ _)
theorem aBx{a c:List D}{u v:Value}(g:Go prog w P b8 b F fp s c6 c7 c5 b9)(hl:a.length+c.length<=1000000)(rx:Rep prog w c6 u (.tuple a))(ry:Rep prog w c6 v (.tuple c)):
  wpAny (model prog w) A (binaryOp .Add u v) (eH prog w P b8 b F fp s b9 (.d (.tuple (a++c)))) NoE c5:=by
 obtain⟨t,ot,xs,nx,rfl,hx1,hx2,hx3,hx4⟩:=rx.tuple_inv;obtain⟨u,ou,ys,ny,rfl,hy1,hy2,hy3,hy4⟩:=ry.tuple_inv;refine Xp (xs:=xs.toList) (ys:=ys.toList) (dB _ (g.tr.fz _ _ hx1) hx2 nx (by simpa using hx3)) (dB _ (g.tr.fz _ _ hy1) hy2 ny (by simpa using hy3)) (fun h=>?_) (fun _ h=>?_) (fun _ _=>?_) (gF (by rw[hx4.length,hy4.length];exact hl))
 ·rw[h] at hx4;rw[mU hx4.length.symm];exact g.postE (.tuple hy1 hy2 hy3 hy4)
 ·rw[h] at hy4;rw[mU hy4.length.symm,List.append_nil];exact g.postE (.tuple hx1 hx2 hx3 hx4)
 ·exact(g.frozen rfl).postE (.tuple (Fz.add_self _ _ _) rfl rfl ((hx4.append hy4).mono (c6.add_le (yN g.tr.fz))))
theorem aBy{o:BOp}{op:Operator}{x y z:D}{u v:Value}(g:Go prog w P b8 b F fp s c6 c7 c5 b9)(ok:Xj o op=true)(rx:Rep prog w c6 u x)(ry:Rep prog w c6 v y)(e:Af o x y=some z):
  wpAny (model prog w) A (binaryOp op u v) (eH prog w P b8 b F fp s b9 (.d z)) NoE c5:=by
 rw[Xq ok]
 cases o
 ·rcases Pf e with⟨a,c,rfl,rfl,rfl⟩|⟨a,c,rfl,rfl,hl,rfl⟩
  ·refine fG (rx.ints ry) fun t t' Q2 Q3=>?_;subst Q2;subst Q3;exact PyProof.Rows.add_int g.int
  ·exact aBx g hl rx ry
 all_goals
  refine cJ (Pg e) fun a c Q2 Q3 e=>?_;rename_i y0;clear y0;subst Q2;subst Q3;refine fG (rx.ints ry) fun t t' Q2 Q3=>?_;clear rx;subst Q2;clear ry;subst Q3
 ·rw[<-aK e];exact PyProof.Rows.sub_int g.int
 ·refine aQ e fun hl e=>?_;rw[<-aK e];exact PyProof.Rows.mul_int g.int (.of_left (by refine cK hl fun h1 h2=>?_;exact intBits_le_64 (by omega) (by omega)))
 ·refine aQ e fun hl e=>?_;rw[<-aK e];exact PyProof.Rows.floordiv_int hl.1 g.int (.inl (Ao hl.2.2))
 ·refine aQ e fun hl e=>?_;rw[<-aK e];exact PyProof.Rows.mod_int' hl g.int
 ·refine aQ e fun Q0 e2=>?_;obtain⟨rfl,h1,h2⟩:=Q0;have q:(Builtin.Int.intBits 2:Int)*c<=2^27:=by rw[show Builtin.Int.intBits 2=2 by decide];omega
  rw[<-aK e2];exact PyProof.Rows.pow_int h1 q g.int
theorem Xu{o:BOp}{op:Operator}{a c:Ex}{X Y:Expr}{pos:Pos}(ok:Xj o op=true)(ha:Snd prog w P b5 T B a X)(hc:Snd prog w P b5 T B c Y):Snd prog w P b5 T B (.bin o a c) (.BinOp X op Y pos):=by
 intro A env b8 F σ fp s v d7 p ev;apply bc;intro Z;refine bE ev fun x b9 e1 ev=>bE ev fun y c8 e2 ev=>aO ev fun z hz e=>?_
 cases e
 apply Z;clear Z;exact wpAny_BinOp (two ha hc p e1 e2 rfl fun u v d5 d4 c9 g r1 r2=>aBy g ok r1 r2 hz)
variable {h:Heap}
theorem jC{x y:Str}{t:Tok}:(Value.str x t).isStr y=(x==y):=rfl
theorem AttrsRep.get{es:List DictEntry}{at_:List (Nat×AV)}{n5:List Addr}(inj:∀i j,i<P.na->j<P.na->P.attrName i=P.attrName j->i=j)(r:AttrsRep prog w P F h es at_ n5){id:Nat}{x:AV}(e:jJ at_ id=some x)(hid:id<P.na):
  ∃v fp,getL (P.attrName id) es=some (some v)/\mW prog w F h v x fp/\∀a∈fp,a∈n5:=by
 induction r with
 |nil=>cases e
 | @cons en es jd y r t fp n5 hk hlt ha _ ih=>
  unfold jJ at e
  split at e
  ·rename_i hj
   cases e;subst hj
   refine(dW en.val fp ?_ ha (fun a h=>dF.mpr (.inl h)));unfold getL;rw[List.find?_cons,hk,jC,beq_self_eq_true]
  ·apply bc;intro Z;rename_i hj;refine cJ (ih e) fun v e9 h1 h2 h3=>?_;apply Z;clear Z;refine(dW v e9 ?_ h2 (fun a h=>dF.mpr (.inr (h3 a h))));have hne:(P.attrName jd==P.attrName id)=false:=by
    rw[wT];exact fun q=>hj (inj _ _ hlt hid q)
   unfold getL at h1 ⊢;rw[List.find?_cons,hk,jC,hne]
   cases hf:es.find? (fun x=>x.key.isStr (P.attrName id)) with
   |some e'=>rw[hf] at h1;exact h1
   |none=>
    rw[hf] at h1;simp only at h1
    split at h1<;>cases h1
theorem AttrsRep.none{es:List DictEntry}{at_:List (Nat×AV)}{n5:List Addr}{n:Str}(hn:∀id,id<P.na->P.attrName id≠n)(r:AttrsRep prog w P F h es at_ n5):getL n es=some Option.none:=by
 have key:es.find? (fun x=>x.key.isStr n)=Option.none/\es.any (·.refKey)=false:=by
  induction r with
  |nil=>exact⟨rfl,rfl⟩
  | @cons en es jd y r t fp n5 hk hlt ha _ ih=>
   have hne:(P.attrName jd==n)=false:=by rw[wT];exact hn jd hlt
   refine⟨?_,?_⟩
   ·rw[List.find?_cons,hk,jC,hne];exact ih.1
   ·rw[List.any_cons,ih.2,Bool.or_false];unfold DictEntry.refKey;rw[hk]
 unfold getL;rw[key.1,key.2];rfl
theorem AttrsRep.noRef{es:List DictEntry}{at_:List (Nat×AV)}{n5:List Addr}(r:AttrsRep prog w P F h es at_ n5):es.any (·.refKey)=false:=by
 induction r with
 |nil=>rfl
 | @cons en es jd y r t fp n5 hk hlt ha _ ih=>
  rw[List.any_cons,ih,Bool.or_false];unfold DictEntry.refKey;rw[hk]
theorem mW.handed{v:Value}{x:AV}{fp:List Addr}(r:mW prog w F h v x fp):handedIn v=true:=by
 cases x with
 |d y=>exact r.1.handed
 |c c=>obtain⟨a,rfl,_⟩:=r;rfl
theorem mW.toV{v:Value}{x:AV}{fp:List Addr}(r:mW prog w F h v x fp):hO prog w P F h v x.toV fp:=by cases x<;>exact r
theorem Ph{cl:Nat}{n4:List (Nat×AV)}{y:Value}{fpy:List Addr}{id:Nat}{x:AV}{Q:Value->Shared->Prop}{E:Value->Shared->Prop}{expr:Bool}(ps:Xl prog w P K b5 T mg)(X:K.In s.heap)(hF:∀a o,F a=some o->s.heap.get? a=some o)
  (r:hO prog w P F s.heap y (.inst cl n4) fpy) (e:jJ n4 id=some x) (hid:id<P.na) (h:∀v fp,mW prog w F s.heap v x fp->(∀a∈fp,a∈fpy)->Q v {s with toks:=s.toks+1}):
  wpAny (model prog w) A (getAttr y (P.attrName id) expr) Q E s:=by
 apply bc;intro Z;obtain⟨yy,dd,es,n,n5,hi,rfl,hy,hd,ra,rfl,nd⟩:=r;refine cJ (ra.get ps.inj e hid) fun v fp h1 h2 h3=>Dx (ps.inst cl hi) fun i1 i2 i3 i4 i5=>?_;apply Z;clear Z;exact get_value (od:=some (dictOf es n)) X ⟨hF _ _ hy,rfl,rfl,hd⟩ (plainGet_of (i1 (P.attrName id))).1 (findObj_own i2 (i5 id hid).1 rfl h1) h2.handed (h v fp h2 fun a ha=> .tail _ (h3 a ha))
noncomputable def Pl.slot:Pl->Nat
 | .v i=>i
 | .a i _=>i
theorem Em{i id:Nat}{E:Expr}(h:iC P B (.a i id) E=true):∃x q p,E= .Attribute (.Name x q) (P.attrName id) p/\okN B i x=true/\id<P.na:=by apply bc;intro Z;refine v4k h fun x q n p Q4 h=>?_;rename_i y0;clear y0;subst Q4;refine gE h fun h1 h2 h3=>?_;apply Z;clear Z;rw[<-cX.mp h2];exact(Wr x q p rfl h1 (lO h3))
theorem aDd{i id:Nat}{v:V}(h:(Pl.a i id).get σ=some v):∃cl n4 av,σ.get i=some (.inst cl n4)/\jJ n4 id=some av/\v=av.toV:=by apply bc;intro Z;refine sZ h fun cl n4 h1 h2=>aO h2 fun av h3 h4=>?_;apply Z;clear Z;exact(Wr cl n4 av h1 h3 h4.symm)
theorem En{i id:Nat}{v:V}(h:(Pl.a i id).get σ=some v){P:Prop}(f:∀cl n4 av,σ.get i=some (.inst cl n4)->jJ n4 id=some av->v=av.toV->P):P:=Kb (aDd h) f
theorem Pj{pl:Pl}{E:Expr}{v:V}{Q:Value->Shared->Prop}{E':Value->Shared->Prop}(kn:Known prog w P K b5 T mg mb B.lt)(p:Pre prog w P b5 B A env b8 F σ fp s)(hn:iC P B pl E=true)(hv:pl.get σ=some v)
  (h:∀y fpy tk,hO prog w P F s.heap y v fpy->(∀a∈fpy,a∈fp pl.slot)->Q y {s with toks:=tk}):wpAny (model prog w) A (eval E env) Q E' s:=by
 cases pl with
 |v i=>
  apply bc;intro Z;refine v3k hn fun x q Q2 ok=>?_;subst Q2;apply Z;clear Z;exact load p ok hv fun l y _ _ r=>h y _ s.toks r fun a ha=>ha
 |a i id=>
  apply bc;intro Z;refine Kb (Em hn) fun x q pos Q3 h1 h3=>?_;clear hn;subst Q3;refine En hv fun cl n4 av hi hav Q5=>?_;clear hv;subst Q5;apply Z;clear Z;exact Attribute_name (load p h1 hi fun l y _ _ r=>Ph kn.ps (kn.gl.inK.keeps p.keeps) p.hF r hav h3 fun v fpv rv hs=>h v fpv _ rv.toV hs)
theorem aBz(kn:Known prog w P K b5 T mg mb B.lt){i id:Nat}{E:Expr}(ok:okE P B (.at i id) E=true):Snd prog w P b5 T B (.at i id) E:=by intro A env b8 F σ fp s v d7 p ev;refine Hk ev fun x hv ev=>aU ev fun Q0 Q1=>?_;rename_i y0;clear ev y0;subst Q0;subst Q1;exact Pj kn p (pl:= .a i id) ok hv fun y fpy tk r _=>p.go.tick.postE r.1
theorem Gl.above(kn:Gl prog w K b5 mg mb)(hk:∀a o,b5.get? a=some o->h.get? a=some o):(h.objs.size==sysModules)=false:=by refine fG kn.far fun a o h1 h2=>?_;rw[wT];exact Nat.ne_of_gt (Hh h2 (eN (hk a o h1)))
theorem Fi.off_new{a:Addr}(fi:Fi prog w P h F b8 σ fp)(ha:h.get? a=none):∀i,a∉fp i:=by intro i hm;refine X1 (fi.own_there hm) fun o ho=>?_;rw[ho] at ha;cases ha
theorem Go.newC(g:Go prog w P b8 b F fp s c6 c7 c5 b9){h':Heap}{tk:Nat}{a:Addr}{c:C}(hk:∀a o,c5.heap.get? a=some o->h'.get? a=some o)(ha:c5.heap.get? a=none)(ha':(a==sysModules)=false)(hc:pS prog w c6 h' a c):
  eH prog w P b8 b F fp s b9 (.c c) (.ref a) {c5 with heap:=h',toks:=tk}:=by
 have fn:c6 a=none:=by
  cases e:c6 a with
  |none=>rfl
  |some o'=>rw[g.tr.fz a o' e] at ha;cases ha
 refine⟨c6,c7,[a],g.trans (Go.keep g.tr.fz g.fi hk),⟨a,rfl,ha',hc,rfl⟩,fun b hb=>?_⟩;clear ha' hc;obtain rfl:=dJ.mp hb;exact(cD (g.tr.alive _ ha) fn (g.fi.off_new ha))
theorem bJ{e:Expr}{r:List Expr}(hp:Expr.plain e=true):starEach (e::r) env=(false,eval e env)::starEach r env:=by cases e<;>first|rfl|exact(eX hp).elim
theorem Kn:uB prog w P b5 T B [] []:=by intro A env b8 F σ fp s vs d7 pos p ev;refine aU ev fun Q0 Q1=>?_;clear ev;subst Q0;subst Q1;exact args_nil ⟨F,fp,p.go,.nil⟩
theorem Eo{a:Ex}{r:List Ex}{X:Expr}{Xs:List Expr}(hp:Expr.plain X=true)(ha:Snd prog w P b5 T B a X)(hr:uB prog w P b5 T B r Xs):uB prog w P b5 T B (a::r) (X::Xs):=by
 intro A env b8 F σ fp s vs d7 pos p ev;apply bc;intro Z;refine bE ev fun x b9 e1 ev=>aO ev fun Q0 e2 e=>?_;obtain⟨ys,c8⟩:=Q0
 cases e
 apply Z;clear Z;exact args_cons (ha.d p e1 fun u c6 c7 c5 g1 r1=>bX (hr A env b8 c6 b9 c7 c5 _ _ pos (p.next g1) e2) (fun us c9 h2=>by apply bc;intro Z;obtain⟨d5,d4,g2,r2⟩:=h2;apply Z;clear Z;exact⟨d5,d4,(g1.up fV).trans (g2.up kW),.cons (r1.mono g2.tr.mono) r2⟩) fun _ _ x=>x) (bJ hp)
theorem nP{es:List Ex}:∀{σ d7:Sg} {ds:List D},pQ T es σ=some (ds,d7)->ds.length=es.length:=by
 induction es with
 |nil=>intro σ d7 ds e;rw[<-(yF e).1];rfl
 |cons a r ih=>
  intro σ d7 ds e;apply bc;intro Z;refine bE e fun x b9 _ ev=>aO ev fun Q0 e2 e3=>?_;obtain⟨ys,c8⟩:=Q0;apply Z;clear Z;rw[<-(eC e3).1];exact bU (· +1) (ih e2)
theorem Xv{es:List Ex}{Xs:List Expr}{n:Nat}{pos:Pos}(hl:es.length<=100)(hs:uB prog w P b5 T B es Xs):Snd prog w P b5 T B (.tup es) (.Tuple Xs n pos):=by
 intro A env b8 F σ fp s v d7 p ev;refine aO ev fun Q0 e1 e=>?_;obtain⟨ds,b9⟩:=Q0
 cases e
 have l1:=nP e1;refine PySem.wpAny_Tuple (bX (hs A env b8 F σ fp s _ _ pos p e1) (fun us c5 h1=>?_) fun _ _ x=>x);obtain⟨c6,c7,g1,r1⟩:=h1;have l2:=r1.length;exact⟨by rw[fR];lia,(g1.frozen rfl).postE (.tuple (Fz.add_self _ _ _) rfl rfl (r1.mono (c6.add_le (yN g1.tr.fz))))⟩
theorem Xw(kn:Known prog w P K b5 T mg mb B.lt){es:List Ex}{Xs:List Expr}{pos:Pos}(hl:es.length<=100)(hs:uB prog w P b5 T B es Xs):Snd prog w P b5 T B (.lst es) (.List Xs pos):=by
 intro A env b8 F σ fp s v d7 p ev;refine aO ev fun Q0 e1 e=>?_;obtain⟨ds,b9⟩:=Q0
 cases e
 have l1:=nP e1;refine wpAny_List_spliced (bX (hs A env b8 F σ fp s _ _ pos p e1) (fun us c5 h1=>?_) fun _ _ x=>x);obtain⟨c6,c7,g1,r1⟩:=h1;have l2:=r1.length;exact⟨by rw[fR];lia,g1.newC (tk:=c5.toks) (fun _ _ e=>bM _ e) (cS _) (kn.gl.above (p.next g1).keeps) ⟨_,dQ _ rfl,us.toArray,0,rfl,r1⟩⟩
theorem aBA:Xc prog w (intKind prog w) F [] {cls:= .type "dict",data:= .dict #[]}:=⟨[],(Dz (#[]) 0 (cD rfl rfl rfl) rfl (fun _ he=>by simp at he) .nil List.nodup_nil),.nil⟩
theorem aBB:CDt prog w F [] {cls:= .type "dict",data:= .dict #[]}:=⟨[],#[],0,(cD rfl rfl rfl),rfl,rfl,List.nodup_nil,rfl,fun _ hx=>by cases hx⟩
theorem Xx(kn:Known prog w P K b5 T mg mb B.lt){k:Nat}{pos:Pos}:Snd prog w P b5 T B (.emp k) (.Dict [] [] pos):=by
 intro A env b8 F σ fp s v d7 p ev;refine aU ev fun Q0 Q1=>?_;clear ev;subst Q0;subst Q1;refine wpAny_Dict_empty (p.go.newC (tk:=s.toks) (fun _ _ e=>bM _ e) (cS _) (kn.gl.above p.keeps) ⟨_,dQ _ rfl,?_⟩)
 split
 ·exact aBA
 ·exact aBB
theorem RepKV.alls{l:List (Int×Value)}{l':List (Int×D)}(q:RepKV prog w F l l'):∃ds,aM prog w F (l.map (·.2)) ds/\(l'.map fun p=>((.int p.1,p.2):D×D))=Oh (l.map (·.1)) ds:=by
 induction q with
 |nil=>exact(aH ([]) .nil rfl)
 |cons q _ ih=>refine aP ih fun ds h1 h2=>?_;exact(aH (_::ds) (.cons q h1) (bU (_:: ·) h2))
theorem pS.toData{a:Addr}{c:C}{d:D}(r:pS prog w F h a c)(ha:(a==sysModules)=false)(hF:F a=none)(e:mI c=some d):∃o,h.get? a=some o/\Rep prog w (F.add a o) (.ref a) d:=by
 obtain⟨o,ho,r⟩:=r;refine(aH o ho ?_)
 cases c with
 |lst ds=>
  rw[<-aK e];obtain⟨xs,n,rfl,r⟩:=r;exact .list (F.add_self a _) rfl rfl (r.mono (F.add_le hF))
 |di l9=>
  obtain⟨k',h1,r⟩:=r;refine aP r.alls fun ds h2 h3=>?_;rw[<-aK e,aI,h3];exact .dict (F.add_self a _) ha h1 (h2.mono (F.add_le hF))
 |_=>exact(nn e).elim
theorem Fz.add_or{a c:Addr}{o:Obj}(hb:(F.add a o) c≠none):F c≠none\/c=a:=by
 unfold Fz.add at hb
 split at hb
 ·rename_i h;exact .inr h
 ·exact .inl hb
theorem Fz.add_fz{a:Addr}{o:Obj}(ho:h.get? a=some o)(hF:∀c o',F c=some o'->h.get? c=some o')(c:Addr)(o':Obj)(e:(F.add a o) c=some o'):h.get? c=some o':=by
 unfold Fz.add at e
 split at e
 ·rename_i h;rw[h,ho];exact e
 ·exact hF c o' e
theorem Fz.add_none{a c:Addr}{o:Obj}(h1:F c=none)(h2:c≠a):(F.add a o) c=none:=
 Classical.byContradiction fun q=>(Fz.add_or q).elim (fun h=>h h1) h2
theorem Xy{a:Ex}{X:Expr}(ha:Snd prog w P b5 T B a X):Snd prog w P b5 T B (.frz a) X:=by
 intro A env b8 F σ fp s v d7 p ev;apply bc;intro Z;refine yC ev fun c b9 e1 ev=>aO ev fun d e2 e=>?_
 cases e
 apply Z;clear Z;refine ha.run p e1 fun u c5 h1=>?_;apply bc;intro Z;obtain⟨c6,c7,fx,g1,⟨a,rfl,hs,r,rfl⟩,n⟩:=h1;refine cZ (n a (.head _)) fun n1 n2 n3=>aP (r.toData hs n2 e2) fun o ho r'=>?_;apply Z;clear Z;exact Go.postE (c6:=c6.add a o) (c7:=c7) ⟨⟨g1.tr.mono.trans (c6.add_le n2),g1.tr.kept,g1.tr.alive,Fz.add_fz ho g1.tr.fz,fun b hb=>(Fz.add_or hb).elim (g1.tr.fresh b) fun q=> .inr (.inr (q▸n1)),g1.tr.rest⟩,
  ⟨g1.fi.len,g1.fi.there,fun i v e=>(by
   apply bc;intro Z;refine cJ (g1.fi.sl i v e) fun l y h1 h2 h3=>?_;apply Z;clear Z;exact(dW l y h1 h2 (h3.mono (c6.add_le n2) fun _ _ _ e=>e))),g1.fi.emp,g1.fi.dj,
   fun i b hb=>⟨Fz.add_none (g1.fi.off i b hb).1 fun q=>n3 i (q▸hb),(g1.fi.off i b hb).2⟩,
   fun l hl=>Fz.add_none (g1.fi.offL l hl) fun q=>by refine X1 ((p.fi.there l hl).some) fun o' ho'=>?_;rw[q,n1] at ho';exact nn ho'⟩,g1.sub⟩ r'
theorem Ep{Sx:Expr}(hs:fE Sx=true)(o i:Value):subscripted Sx false o i=operate [o,i] (getItem o i):=by cases Sx<;>first|rfl|exact(eX hs).elim
theorem Ap{Vx Sx:Expr}(hs:fE Sx=true){l:Addr}{xs:Array Value}{ds:List D}{k:Int}{t:Tok}{z:D}{Q:Value->Shared->Prop}{E:Value->Shared->Prop}(hl:s.heap.IsList l xs)(r:aM prog w F xs.toList ds)(e:lW ds k=some z)(h:∀v,Rep prog w F v z->Q v s):
  wpAny (model prog w) A (subscriptTail Vx Sx (.ref l) (.int k t)) Q E s:=by
 apply bc;intro Z;refine aQ e fun hk e=>aP (r.get e) fun v h1 h2=>?_;apply Z;clear Z;exact tail_any hl.typeIs slot_list_getitem.lookup (wpAny_getItem_list hl hk.1 (Int.lt_trans hk.2 (by decide)) (by simpa using h1) (h v h2)) (Ep hs _ _)
theorem Ko{Vx Sx:Expr}(hs:fE Sx=true){l:Addr}{xs:Array Value}{ds:List D}{k:Int}{t:Tok}{z:D}{Q:Value->Shared->Prop}{E:Value->Shared->Prop}(hl:s.heap.IsTuple l xs)(r:aM prog w F xs.toList ds)(e:lW ds k=some z)(h:∀v,Rep prog w F v z->Q v s):
  wpAny (model prog w) A (subscriptTail Vx Sx (.ref l) (.int k t)) Q E s:=by
 apply bc;intro Z;refine aQ e fun hk e=>aP (r.get e) fun v h1 h2=>?_;have hlt:k.toNat<xs.toList.length:=(hZ.mp h1).1;have hj:seqIndex? k xs.toList.length=some k.toNat:=by
  have h0: ¬k<0:=by lia
  have h1:(k:Int)<(xs.toList.length:Int):=by lia
  simp only[seqIndex?,h0,if_false,hk.1,h1,decide_true,Bool.and_self,if_true]
 apply Z;clear Z;exact item_tupleT (l:=xs.toList) (by rw[Array.toArray_toList];exact hl) (by lia) (Int.lt_trans hk.2 (by decide)) hj h1 (h v h2) (Ep hs _ _)
theorem Aq{KT:Type}[DecidableEq KT]{k:KT}{v:Value}{r:List (KT×Value)}:valueAt ((k,v)::r) k=some v:=by simp[valueAt]
theorem rL{KT:Type}[DecidableEq KT]{j k:KT}{v:Value}{r:List (KT×Value)}(h:j≠k):valueAt ((j,v)::r) k=valueAt r k:=by simp[valueAt,h]
theorem rM{l:List (Int×Value)}{l':List (Int×D)}{k:Int}{z:D}(r:RepKV prog w F l l')(e:jW k l'=some z):∃v,valueAt l k=some v/\Rep prog w F v z:=by
 induction r with
 |nil=>exact(nn e).elim
 | @cons j v d r r' h t ih=>
  by_cases hj:j=k
  ·subst hj;rw[jW,aJ rfl] at e;exact(aH v Aq (aK e▸h))
  ·rw[jW,aR hj] at e;rw[rL hj];exact ih e
theorem Kq{l:List (Str×Value)}{l':List (Str×D)}{k:Str}{z:D}(r:RepKV prog w F l l')(e:Ae k l'=some z):∃v,valueAt l k=some v/\Rep prog w F v z:=by
 induction r with
 |nil=>exact(nn e).elim
 | @cons j v d r r' h t ih=>
  by_cases hj:j=k
  ·subst hj;rw[Ae,aJ rfl] at e;exact(aH v Aq (aK e▸h))
  ·rw[Ae,aR hj] at e;rw[rL hj];exact ih e
theorem uC{Vx Sx:Expr}(hs:fE Sx=true){KT:Type}[DecidableEq KT]{knd:PySem.KeyKind prog w KT}{l:Addr}{o:Obj}{l9:List (KT×Value)}{k:KT}{kv v:Value}{Q:Value->Shared->Prop}{E:Value->Shared->Prop}(ho:s.heap.get? l=some o)(hd:o.IsDictOf knd l9)(hk:knd.is k kv=true)(e:valueAt l9 k=some v)(h:Q v {s with toks:=s.toks+1}):
  wpAny (model prog w) A (subscriptTail Vx Sx (.ref l) kv) Q E s:=by
 have hm:s.heap.DictOf knd l l9:=Heap.dictOf_iff.mpr (aH o ho hd);exact tail_any hm.mapOf.typeIs slot_dict_getitem.lookup (wpAny_getItem_of hk hm.mapOf e h) (Ep hs _ _)
inductive RD(prog:Program)(w:World)(F:Fz)(l9:List (D×D))(v:Value):Prop
 |mk (a:Addr) (o:Obj) (l:List (Int×Value)) (l':List (Int×D)):v= .ref a->(a==sysModules)=false->F a=some o->o.IsDictOf (intKind prog w) l->RepKV prog w F l l'->eD l9=some l'->l9=l'.map (fun p=>(.int p.1,p.2))->RD prog w F l9 v
theorem aM.kv{l:List (Int×Value)}:∀{ds:List D},aM prog w F (l.map (·.2)) ds->∃l',RepKV prog w F l l'/\eD (Oh (l.map (·.1)) ds)=some l'/\Oh (l.map (·.1)) ds=l'.map (fun p=>(.int p.1,p.2)):=by
 induction l with
 |nil=>
  intro ds q
  cases ds with
  |nil=>exact(cY ([]) .nil rfl rfl)
  |cons d ds=>refine cJ q.inv fun _ _ _ _ e=>?_;cases e
 |cons p l ih=>
  intro ds q
  cases ds with
  |nil=>cases q.inv
  |cons d ds=>
   apply bc;intro Z;refine cJ q.inv fun _ _ q1 q2 e=>cK (List.cons.inj e) fun Q0 Q1=>?_;clear e;subst Q0;subst Q1;refine eR (ih q2) fun l' a1 a2 a3=>?_;apply Z;clear Z;exact(cY ((p.1,d)::l') (.cons q1 a1) (bU (Option.map _) a2) (bU (_:: ·) a3))
theorem Rep.dict_inv{v:Value}{l9:List (D×D)}(r:Rep prog w F v (.dict l9)):RD prog w F l9 v:=by obtain⟨a,o,l,ds,e,h1,h2,h3,h4,rfl⟩:=r.inv;refine eR h4.kv fun l' a1 a2 a3=>?_;exact⟨a,o,l,l',e,h2,h1,h3,a1,a2,a3⟩
theorem Pk{Vx Sx:Expr}(hs:fE Sx=true){x y z:D}{u v:Value}(g:Go prog w P b8 b F fp s c6 c7 c5 b9)(rx:Rep prog w c6 u x)(ry:Rep prog w c6 v y)(e:nB x y=some z):
  wpAny (model prog w) A (subscriptTail Vx Sx u v) (eH prog w P b8 b F fp s b9 (.d z)) NoE c5:=by
 cases x with
 |list xs=>
  refine eZ e fun k Q1 e=>?_;rename_i y0;clear y0;subst Q1;obtain⟨a,o,xs,n,rfl,h1,h2,h3,h4⟩:=rx.inv;refine X1 ry.inv fun t Q1=>?_;subst Q1;exact Ap hs (dB o (g.tr.fz _ _ h1) h2 n h3) h4 e fun v r=>g.postE r
 |tuple xs=>
  refine eZ e fun k Q1 e=>?_;rename_i y0;clear y0;subst Q1;obtain⟨a,o,xs,n,rfl,h1,h2,h3,h4⟩:=rx.inv;refine X1 ry.inv fun t Q1=>?_;subst Q1;exact Ko hs (dB o (g.tr.fz _ _ h1) h2 n h3) h4 e fun v r=>g.postE r
 |dict l9=>
  refine eZ e fun k Q1 e2=>?_;subst Q1;obtain⟨a,o,l,l',rfl,h0,h1,h2,h3,h4,-⟩:=rx.dict_inv;refine X1 ry.inv fun t Q1=>?_;clear ry;subst Q1;rw[h4] at e2;exact aP (rM h3 e2) fun v' e1 e3=>uC hs (g.tr.fz _ _ h1) h2 (intKind_is _ _ _ _) e1 (g.tick.postE e3)
 |_=>exact(nn e).elim
theorem Xz{a c:Ex}{X Y:Expr}{pos:Pos}(hs:fE Y=true)(ha:Snd prog w P b5 T B a X)(hc:Snd prog w P b5 T B c Y):Snd prog w P b5 T B (.sub a c) (.Subscript X Y pos):=by
 intro A env b8 F σ fp s v d7 p ev;apply bc;intro Z;refine bE ev fun x b9 e1 ev=>bE ev fun y c8 e2 ev=>aO ev fun z hz e=>?_
 cases e
 apply Z;clear Z;exact Subscript_ (two ha hc p e1 e2 rfl fun u v d5 d4 c9 g r1 r2=>Pk hs g r1 r2 hz)
theorem Yb{Vx Sx:Expr}(hs:fE Sx=true){x:V}{y z:D}{u v:Value}{fpx:List Addr}(g:Go prog w P b8 b F fp s c6 c7 c5 b9)(rx:hO prog w P c6 c5.heap u x fpx)(ry:Rep prog w c6 v y)(e:Kd x y=some z):
  wpAny (model prog w) A (subscriptTail Vx Sx u v) (eH prog w P b8 b F fp s b9 (.d z)) NoE c5:=by
 cases x with
 |d x=>exact Pk hs g rx.1 ry e
 |inst _ _=>exact(nn e).elim
 |c c=>
  obtain⟨a,rfl,ha,⟨o,ho,rc⟩,-⟩:=rx
  cases c with
  |lst xs=>
   refine eZ e fun k Q1 e=>?_;rename_i y0;clear y0;subst Q1;obtain⟨xs,n,rfl,r⟩:=rc;refine X1 ry.inv fun t Q1=>?_;subst Q1;exact Ap hs (dB _ ho rfl n rfl) r e fun v r=>g.postE r
  |di l9=>
   refine eZ e fun k Q1 e=>?_;rename_i y0;clear y0;subst Q1;obtain⟨l,h1,h2⟩:=rc;refine X1 ry.inv fun t Q1=>?_;subst Q1;exact aP (rM h2 e) fun v' e1 e2=>uC hs ho h1 (intKind_is _ _ _ _) e1 (g.tick.postE e2)
  |ds l9=>
   refine yB e fun k Q1 e=>?_;rename_i y0;clear y0;subst Q1;obtain⟨l,h1,h2⟩:=rc;refine X1 ry.inv fun t Q1=>?_;clear ry;subst Q1;exact aP (Kq h2 e) fun v' e1 e2=>uC hs ho h1 (strKind_is _ _ _ _) e1 (g.tick.postE e2)
  |dt _=>exact(nn e).elim
theorem Go.keepAll(g:Go prog w P b8 false F fp s c6 c7 c5 b9):∀a o,s.heap.get? a=some o->c5.heap.get? a=some o:=fun a o e=>g.tr.kept a o e (fun q=>by cases q)
def Pn(prog:Program)(w:World)(P:PS)(b8:List bF)(F:Fz)(fp:Nat->List Addr)(h h':Heap)(i:Nat)(v v':V):Prop:=
 ∀l y,b8[i]?=some l->l.At h y->hO prog w P F h y v (fp i)->hO prog w P F h' y v' (fp i)
def nQ(prog:Program)(w:World)(P:PS)(b8:List bF)(F:Fz)(fp:Nat->List Addr)(s:Shared)(pl:Pl)(y:Value):Prop:=
 ∀c6 c7 c5 b9 v,Go prog w P b8 false F fp s c6 c7 c5 b9->pl.get b9=some v->∃fpy,hO prog w P c6 c5.heap y v fpy/\(∀a∈fpy,a∈c7 pl.slot)/\
  ∀a c c' d7 h',v= .c c->y= .ref a->pl.put b9 c'=some d7->(∀b o,b≠a->c5.heap.get? b=some o->h'.get? b=some o)->pS prog w c6 h' a c'->
   ∃v0 v1,b9.get pl.slot=some v0/\d7=b9.put pl.slot v1/\Pn prog w P b8 c6 c7 c5.heap h' pl.slot v0 v1
theorem AttrsRep.put{h':Heap}{es:List DictEntry}{at_:List (Nat×AV)}{n5:List Addr}(inj:∀i j,i<P.na->j<P.na->P.attrName i=P.attrName j->i=j)(r:AttrsRep prog w P F h es at_ n5){id:Nat}{c:C}{a:Addr}(e:jJ at_ id=some (.c c))(hid:id<P.na)
  (hg:getL (P.attrName id) es=some (some (.ref a))) (nd:n5.Nodup) (c':C) (hk:∀b o,b≠a->h.get? b=some o->h'.get? b=some o) (hc:pS prog w F h' a c'):a∈n5/\AttrsRep prog w P F h' es (gM id (.c c') at_) n5:=by
 induction r with
 |nil=>cases e
 | @cons en es jd y r t fp n5 hk' hlt ha hr ih=>
  apply bc;intro Z;rw[List.nodup_append] at nd;refine cZ nd fun nd1 nd2 nd3=>?_;unfold jJ at e;apply Z;clear Z;unfold gM
  split at e
  ·apply bc;intro Z;rename_i hj
   cases e;subst hj
   obtain⟨a',he,hs,_,hfp⟩:=ha;have:getL (P.attrName jd) (en::es)=some (some en.val):=by unfold getL;rw[List.find?_cons,hk',jC,beq_self_eq_true]
   rw[this,he] at hg
   cases hg
   clear nd nd1;subst hfp;apply Z;clear Z;refine⟨dF.mpr (.inl (.head _)),?_⟩;rw[aJ rfl];refine .cons hk' hlt ⟨a,he,hs,hc,rfl⟩ (hr.mono (.refl F) fun b hb o eo=>hk b o ?_ eo);exact fun q=>nd3 a (.head _) b hb q.symm
  ·rename_i hj;have hne:(P.attrName jd==P.attrName id)=false:=by
    rw[wT];exact fun q=>hj (inj _ _ hlt hid q)
   have hg':getL (P.attrName id) es=some (some (.ref a)):=by
    refine cJ (hr.get inj e hid) fun v e9 h1 h2 h3=>?_;unfold getL at hg h1 ⊢;rw[List.find?_cons,hk',jC,hne] at hg
    cases hf:es.find? (fun x=>x.key.isStr (P.attrName id)) with
    |some e'=>rw[hf] at hg;exact hg
    |none=>
     rw[hf] at h1;simp only at h1
     split at h1<;>cases h1
   refine cK (ih e hg' nd2) fun i1 i2=>?_;refine⟨dF.mpr (.inr i1),?_⟩;rw[aR hj];exact .cons hk' hlt (ha.mono (.refl F) fun b hb o eo=>hk b o (fun q=>nd3 b hb a i1 q) eo) i2
theorem Sg.get_put{σ:Sg}{i j:Nat}{v:V}:(σ.put i v).get j=if i=j/\i<σ.length then some v else σ.get j:=by
 unfold Sg.get Sg.put;rw[List.getElem?_set];by_cases h:i=j
 ·subst h;by_cases h2:i<σ.length
  ·simp[h2]
  ·simp[h2]
 ·simp[h]
theorem Sg.lt_of_get{σ:Sg}{i:Nat}{v:V}(h:σ.get i=some v):i<σ.length:=by
 unfold Sg.get at h
 cases e:σ[i]? with
 |none=>rw[e] at h;cases h
 |some x=>exact(hZ.mp e).1
theorem Fi.write{h':Heap}{i:Nat}{v v':V}{a:Addr}(fi:Fi prog w P h F b8 σ fp)(hv:σ.get i=some v)(ha:a∈fp i)(hk:∀b o,b≠a->h.get? b=some o->h'.get? b=some o)(hr:Pn prog w P b8 F fp h h' i v v'):
  Fi prog w P h' F b8 (σ.put i v') fp where
 len:=by unfold Sg.put;rw[List.length_set];exact fi.len
 there:=fun l hl=>(fi.there l hl).keep fun o e=>hk _ o ((fi.off i a ha).2 l hl) e
 sl:=fun j u e=>by
  rw[Sg.get_put] at e
  split at e
  ·rename_i hh;refine cK hh fun Q0 _=>?_;subst Q0
   cases e
   refine cJ (fi.sl i v hv) fun l y h1 h2 h3=>?_;exact(dW l y h1 (h2.keep fun o e=>hk _ o ((fi.off i a ha).2 l (dT h1)) e) (hr l y h1 h2 h3))
  ·rename_i hh;refine cJ (fi.sl j u e) fun l y h1 h2 h3=>?_;refine(dW l y h1 (h2.keep fun o e=>hk _ o ((fi.off i a ha).2 l (dT h1)) e) (h3.mono (.refl F) fun b hb o e=>hk b o ?_ e))
   rintro rfl
   exact hh ⟨fi.dj i j b ha hb,Sg.lt_of_get hv⟩
 emp:=fun j e=>by
  rw[Sg.get_put] at e
  split at e
  ·cases e
  ·exact fi.emp j e
 dj:=fi.dj
 off:=fi.off
 offL:=fi.offL
theorem Go.wrote{h':Heap}{tk:Nat}{i:Nat}{v v':V}{a:Addr}(hF:∀a o,F a=some o->s.heap.get? a=some o)(fi:Fi prog w P s.heap F b8 σ fp)(hv:σ.get i=some v)(ha:a∈fp i)(hk:∀b o,b≠a->s.heap.get? b=some o->h'.get? b=some o)
  (ht:∃o,h'.get? a=some o) (hr:Pn prog w P b8 F fp s.heap h' i v v'):Go prog w P b8 true F fp s F fp {s with heap:=h',toks:=tk} (σ.put i v') where
 tr:=⟨.refl F,fun b o e n=>hk b o (fun q=>n rfl ⟨i,q▸ha⟩) e,(fun b e=>by
   cases e':s.heap.get? b with
   |none=>rfl
   |some o=>
    by_cases q:b=a
    ·obtain⟨o',ho'⟩:=ht;subst q;rw[ho'] at e;cases e
    ·rw[hk b o q e'] at e;cases e),fun b o e=>hk b o (fun q=>by have:=(fi.off i a ha).1;rw[<-q,e] at this;cases this) (hF b o e),fun b h=> .inl h,rfl⟩
 fi:=fi.write hv ha hk hr
 sub:=fun _ _ h=> .inl h
theorem Er{es es':List DictEntry}{n n':Nat}(e:dictOf es n=dictOf es' n'):es=es':=by have h:=bU Obj.data e;injection h with h1 h2;simpa using h1
theorem Ar{C C' d d':Addr}(e:instObj C d=instObj C' d'):d=d':=by have h:=bU Obj.dict e;injection h
theorem nQ.var{i:Nat}{l:bF}{y:Value}(hl:b8[i]?=some l)(hy:l.At s.heap y):nQ prog w P b8 F fp s (.v i) y:=by intro c6 c7 c5 b9 v g e;apply bc;intro Z;refine cJ (g.fi.sl i v e) fun l' y' h1 h2 h3=>?_;rw[hl] at h1;obtain rfl:=aK h1;have hy':l.At c5.heap y:=hy.keep fun o e=>g.keepAll _ o e;obtain rfl:=hy'.unique h2;apply Z;clear Z;refine(cY _ h3 (fun a ha=>ha) (fun a c c' d7 h' ev ey hput hk hc=>?_));apply bc;intro Z;clear h3;subst ev ey;refine qH hput fun _ _ hput=>?_;apply Z;clear Z;refine(dW _ _ e ((aK hput).symm) (fun l2 y2 q1 q2 q3=>?_));apply bc;intro Z;obtain rfl:=aK (hl.symm.trans q1);obtain rfl:=hy'.unique q2;obtain⟨a',e1,e2,_,e3⟩:=q3;clear a_1;obtain rfl:=sB e1;apply Z;clear Z;exact⟨a,rfl,e2,hc,e3⟩
theorem nQ.attr(ps:Xl prog w P K b5 T mg){i id cl:Nat}{l:bF}{yy dd:Addr}{es:List DictEntry}{n:Nat}{v:Value}(hid:id<P.na)(hl:b8[i]?=some l)(hy:l.At s.heap (.ref yy))(hyy:F yy=some (instObj (P.clsAddr cl) dd))(hdd:s.heap.get? dd=some (dictOf es n))
  (g1:getL (P.attrName id) es=some (some v)):nQ prog w P b8 F fp s (.a i id) v:=by
 intro c6 c7 c5 b9 v' g e;apply bc;intro Z;refine En e fun cl' attrs' av' hi' hav' Q5=>?_;subst Q5;refine cJ (g.fi.sl i _ hi') fun l' y' q1 q2 q3=>?_;obtain rfl:=aK (hl.symm.trans q1);have hy':l.At c5.heap (.ref yy):=hy.keep fun o e=>g.keepAll _ o e;obtain rfl:=hy'.unique q2;have same:∀{c6:Fz} {h:Heap} {n4:List (Nat×AV)} {fp:List Addr},c6 yy=some (instObj (P.clsAddr cl) dd)->h.get? dd=some (dictOf es n)->IsI prog w P c6 h cl' n4 (.ref yy) fp->
   c6 yy=some (instObj (P.clsAddr cl') dd)/\P.ini cl'≠none/\∃n5,AttrsRep prog w P c6 h es n4 n5/\fp=dd::n5/\fp.Nodup:=by
  intro c6 h n4 fp e2 e3 q;obtain⟨yy',dd',es',n',fps',hini',e1,hyy',hdd',ra',hfp',nd'⟩:=q;obtain rfl:=sB e1;obtain rfl:=Ar (aK (hyy'.symm.trans e2));obtain rfl:=Er (aK (hdd'.symm.trans e3));exact(Aa hyy' hini' fps' ra' hfp' nd')
 have e2:=g.tr.mono _ _ hyy;have e3:=g.keepAll _ _ hdd;refine tU (same e2 e3 q3) fun hyy' hini' fps' ra' hfp' nd'=>cJ (ra'.get ps.inj hav' hid) fun w' fpw k1 k2 k3=>?_;obtain rfl:=aK (aK (g1.symm.trans k1));apply Z;clear Z;refine(cY fpw k2.toV (fun a ha=>(by show a∈c7 i;rw[hfp'];exact .tail _ (k3 a ha))) (fun a c c' d7 h' ev ey hput hk hc=>?_));apply bc;intro Z;refine sZ hput fun cl2 attrs2 hi2 hput=>cK (V.inst_inj (aK (hi'.symm.trans hi2))) fun Q0 Q1=>?_;clear hi2;subst Q0;subst Q1;refine bN hput fun av2 hav2 hput=>Wz hput fun Q0 hput=>?_;obtain⟨c2,rfl⟩:=Q0;clear k1 k2;subst ey;apply Z;clear Z;refine(dW _ _ hi' ((aK hput).symm) (fun l2 y2 q1 q2 q3=>?_));apply bc;intro Z;obtain rfl:=aK (hl.symm.trans q1);obtain rfl:=hy'.unique q2;refine tU (same e2 e3 q3) fun hyy2 hini2 fps2 ra2 hfp2 nd2=>?_;have nd3:=nd2;rw[hfp2] at nd3;refine cK (ra2.put (h':=h') ps.inj hav2 hid g1 (List.nodup_cons.mp nd3).2 c' hk hc) fun m1 m2=>?_;apply Z;clear Z;exact⟨_,dd,es,n,fps2,hini2,rfl,hyy2,hk _ _ (fun q=>(List.nodup_cons.mp nd3).1 (q▸m1)) e3,m2,hfp2,nd2⟩
theorem kK{pl:Pl}{E:Expr}{Q:Value->Shared->Prop}{E':Value->Shared->Prop}(kn:Known prog w P K b5 T mg mb B.lt)(p:Pre prog w P b5 B A env b8 F σ fp s)(hn:iC P B pl E=true)(hv:(pl.get σ).isSome=true)
  (h:∀y tk,nQ prog w P b8 F fp {s with toks:=tk} pl y->Q y {s with toks:=tk}):wpAny (model prog w) A (eval E env) Q E' s:=by
 refine X1 (wU.mp hv) fun v0 hv0=>?_
 cases pl with
 |v i=>
  apply bc;intro Z;refine v3k hn fun x q Q2 ok=>?_;subst Q2;apply Z;clear Z;exact load p ok hv0 fun l y hl hy r=>h y s.toks (.var hl hy)
 |a i id=>
  apply bc;intro Z;refine Kb (Em hn) fun x q pos Q3 h1 hid=>?_;clear hn;subst Q3;refine En hv0 fun cl n4 av hi hav _=>?_;apply Z;clear Z;refine Attribute_name (load p h1 hi fun l yi hl hy r=>?_);apply bc;intro Z;obtain⟨yy,dd,es,n,n5,hini,rfl,hyy,hdd,ra,hfp,nd⟩:=r;refine cJ (ra.get kn.ps.inj hav hid) fun v fpv g1 g2 g3=>Dx (kn.ps.inst cl hini) fun i1 i2 i3 i4 i5=>?_;apply Z;clear Z;exact get_value (od:=some (dictOf es n)) (kn.gl.inK.keeps p.keeps) ⟨p.hF _ _ hyy,rfl,rfl,hdd⟩ (plainGet_of (i1 (P.attrName id))).1 (findObj_own i2 (i5 id hid).1 rfl g1) g2.handed (h v _ (.attr kn.ps hid hl hy hyy hdd g1))
theorem Go.tickL{tk:Nat}(g:Go prog w P b8 b F fp {s with toks:=tk} c6 c7 c5 b9):Go prog w P b8 b F fp s c6 c7 c5 b9:=
 ⟨⟨g.tr.mono,g.tr.kept,g.tr.alive,g.tr.fz,g.tr.fresh,by rw[g.tr.rest]⟩,g.fi,g.sub⟩
theorem Pre.tick{tk:Nat}(p:Pre prog w P b5 B A env b8 F σ fp s):Pre prog w P b5 B A env b8 F σ fp {s with toks:=tk}:=⟨p.good,p.bl,p.hb,p.hF,p.fi⟩
theorem Po(kn:Known prog w P K b5 T mg mb B.lt){pl:Pl}{c:Ex}{X Y:Expr}{pos:Pos}(hs:fE Y=true)(hp:iC P B pl X=true)(hpu:pureE c=true)(hc:Snd prog w P b5 T B c Y):Snd prog w P b5 T B (.subP pl c) (.Subscript X Y pos):=by
 intro A env b8 F σ fp s v d7 p ev;apply bc;intro Z;refine aQ ev fun e1 ev=>bE ev fun y b9 e2 ev=>bN ev fun x e3 ev=>aO ev fun z hz e=>?_
 cases e
 apply Z;clear Z;refine Subscript_ (kK kn p hp e1 fun y' tk st=>hc.d p.tick e2 fun u c6 c7 c5 g1 r1=>?_);apply bc;intro Z;rw[hpu] at g1;refine aP (st _ _ _ _ _ g1 e3) fun fpy r2 _=>?_;apply Z;clear Z;exact Yb hs (g1.tickL.up fun q=>nomatch q) r2 r1 hz
theorem As(kn:Known prog w P K b5 T mg mb B.lt){X:Expr}{lo hi:Option Expr}{pp:Pos}{l:Addr}{xs:Array Value}{ds:List D}{vl vu:Value}{a c:Option Int}(p:Pre prog w P b5 B A env b8 c6 b9 c7 c5)(g:Go prog w P b8 b F fp s c6 c7 c5 b9)
  (hl:c5.heap.IsList l xs) (r:aM prog w c6 xs.toList ds) (hsz:ds.length<=1000000) (h1:IsPart vl a) (h2:IsPart vu c) {out:List D} (ho:∀F',c6.Le F'->aM prog w F' (slicePick xs a c none).toList out):
  wpAny (model prog w) A (subscriptTail X (.Slice lo hi none pp) (.ref l) (.ref c5.heap.objs.size)) (eH prog w P b8 b F fp s b9 (.c (.lst out))) NoE
   {c5 with heap:=c5.heap.push {cls:= .type "slice",data:= .fields #[vl,vu,.none]}}:=by
 have ln:=r.length;refine tail_any (ops:=[_,_]) (hl.push _).typeIs slot_list_getitem.lookup (wpAny_getItem_list_slice (hl.push _) (Heap.IsSliceOf.new _ _ _ _) h1 h2 IsPart.none (by intro q;cases q) ?_ (by rw[fR];simp at ln;lia)) rfl;have g2:Go prog w P b8 b F fp s c6 c7 {c5 with heap:=c5.heap.push {cls:= .type "slice",data:= .fields #[vl,vu,.none]}} b9:=g.trans (Go.keep (tk:=c5.toks) p.hF p.fi fun _ _ e=>bM _ e);exact g2.newC (tk:=c5.toks) (fun _ _ e=>bM _ e) (cS _) (kn.gl.above (p.next (Go.keep (b:=false) (tk:=c5.toks) p.hF p.fi fun _ _ e=>bM _ e)).keeps) ⟨_,dQ _ rfl,_,0,rfl,ho _ (.refl _)⟩
theorem Et{l:List (Int×Value)}{l':List (Int×D)}{k:Int}(r:RepKV prog w F l l')(e:jW k l'=none):valueAt l k=none:=by
 induction r with
 |nil=>rfl
 | @cons j v d r r' h t ih=>
  by_cases hj:j=k
  ·rw[jW,aJ hj] at e;cases e
  ·rw[jW,aR hj] at e;rw[rL hj];exact ih e
theorem RepKV.length{KT:Type}{l:List (KT×Value)}{l':List (KT×D)}(r:RepKV prog w F l l'):l.length=l'.length:=by
 induction r with
 |nil=>rfl
 |cons _ _ ih=>simp[ih]
theorem Pp{l:List (Int×D)}{k:Int}{z:D}(o:iB l=true)(e:jW k l=some z):okD z=true:=by
 induction l with
 |nil=>exact(nn e).elim
 |cons p r ih=>
  refine aS o fun o1 o2=>?_;by_cases hj:p.1=k
  ·rw[jW,aJ hj] at e;exact aK e▸o1
  ·rw[jW,aR hj] at e;exact ih o2 e
theorem aD6(hF:∀a o,F a=some o->s.heap.get? a=some o)(hu:A.in1.units+64<cLine){kb:List (Int×Value)}{lb:List (Int×D)}(rb:RepKV prog w F kb lb)(ob:iB lb=true){ka:List (Int×Value)}{la:List (Int×D)}(r:RepKV prog w F ka la)(o:iB la=true):
  KeqHits A.in1 s kb ka (la.all (Kc lb)):=by
 induction r with
 |nil=>exact .nil
 | @cons k v d r r' hv t ih=>
  refine aS o fun o1 o2=>?_;have ih:=ih o2;rw[List.all_cons];unfold Kc
  cases e:jW k lb with
  |none=>exact .miss (Et rb e)
  |some y=>
   apply bc;intro Z;refine aP (rM rb e) fun y' h1 h2=>X1 (hv.reads hF (fB o1).1) fun as ra=>?_;have oy:=Pp ob e;refine X1 (h2.reads hF (fB oy).1) fun bs rb'=>?_;apply Z;clear Z;exact .hit h1 (keq_at (A:=A) ra rb' o1 oy hu) ih
theorem Good.cl{k:Nat}(g:Good k A):A.in1.units+64<cLine:=by have h:=g.units;have h2:A.in1.units=A.units+1:=rfl;have h3:cLine=9900:=rfl;lia
theorem Pq{x y:List (Int×D)}{u v:Addr}{ou ov:Obj}{lx ly:List (Int×Value)}{Q:Value->Shared->Prop}{E:Value->Shared->Prop}{k:Nat}(g:Good k A)(hF:∀a o,F a=some o->s.heap.get? a=some o)
  (hu:(u==sysModules)=false) (hv:(v==sysModules)=false) (h1:s.heap.get? u=some ou) (h2:s.heap.get? v=some ov) (d1:ou.IsDictOf (intKind prog w) lx) (d2:ov.IsDictOf (intKind prog w) ly)
  (r1:RepKV prog w F lx x) (r2:RepKV prog w F ly y) (o:(iB x&&iB y)=true):
  (Q (.bool (kZ x y)) s->wpAny (model prog w) A (compareOp .Eq (.ref u) (.ref v)) Q E s)/\(Q (.bool (!kZ x y)) s->wpAny (model prog w) A (compareOp .NotEq (.ref u) (.ref v)) Q E s):=by
 refine cK (Bool.and_eq_true_iff.mp o) fun o1 o2=>?_;have m1:s.heap.DictOf (intKind prog w) u lx:=Heap.dictOf_iff.mpr (aH ou h1 d1);have m2:s.heap.DictOf (intKind prog w) v ly:=Heap.dictOf_iff.mpr (aH ov h2 d2);have hh:=aD6 hF g.cl r2 o2 r1 o1;have hu1:A.units<cLine:=by have:=g.cl;have h2:A.in1.units=A.units+1:=rfl;lia
 have e:(lx.length==ly.length&&x.all (Kc y))=kZ x y:=by unfold kZ;rw[r1.length,r2.length]
 refine⟨fun h=>keq_eq hu hv m1 m2 hu1 (fun _=>hh) ?_,fun h=>keq_ne hu hv m1 m2 hu1 (fun _=>hh) ?_⟩
 ·rw[e];exact h
 ·rw[e];exact h
theorem yO{v:Value}{x:D}{l:List (Int×D)}(r:Rep prog w F v x)(e:dictKeys x=some l):∃a o lx,v= .ref a/\(a==sysModules)=false/\F a=some o/\o.IsDictOf (intKind prog w) lx/\RepKV prog w F lx l:=by
 cases x with
 |dict l9=>
  obtain⟨a,o,lx,l',h,p1,p2,p3,p4,p5,p6⟩:=r.dict_inv;obtain rfl:=aK (p5.symm.trans e);exact(Ea a o lx h p1 p2 p3 p4)
 |_=>exact(nn e).elim
theorem lQ{v:Value}{x:D}{l:List (Int×D)}(r:Rep prog w F v x)(e:dictKeys x=some l){P:Prop}(f:∀a o lx,v= .ref a->(a==sysModules)=false->F a=some o->o.IsDictOf (intKind prog w) lx->RepKV prog w F lx l->P):P:=aDT (yO r e) f
theorem aAO{x y:D}{z:Bool}{u v:Value}{Q:Value->Shared->Prop}{E:Value->Shared->Prop}{k:Nat}(g:Good k A)(hF:∀a o,F a=some o->s.heap.get? a=some o)(rx:Rep prog w F u x)(ry:Rep prog w F v y)(e:eqD x y=some z):
  (Q (.bool z) s->wpAny (model prog w) A (compareOp .Eq u v) Q E s)/\(Q (.bool (!z)) s->wpAny (model prog w) A (compareOp .NotEq u v) Q E s):=by
 unfold eqD at e
 cases ex:dictKeys x with
 |none=>
  apply bc;intro Z;rw[ex] at e;refine aQ e fun o e=>?_;rename_i y0;clear y0;obtain rfl:=aK e;refine aS o fun o1 o2=>X1 (rx.reads hF (fB o1).1) fun as ra=>X1 (ry.reads hF (fB o2).1) fun bs rb=>?_;have hu2:A.units+64<cLine:=Hh (Nat.add_le_add_right (Nat.le_succ _) 64) g.cl;apply Z;clear Z;exact⟨eq_dataH ra rb o1 o2 hu2,ne_dataH ra rb o1 o2 hu2⟩
 |some l=>
  apply bc;intro Z;rw[ex] at e;refine bN e fun l' ey e=>aQ e fun o e=>?_;rename_i y0 y1;clear y0 y1;obtain rfl:=aK e;refine lQ rx ex fun a oa la Q3 p1 p2 p3 p4=>?_;clear rx;subst Q3;refine lQ ry ey fun c oc lc Q3 q1 q2 q3 q4=>?_;clear ry;subst Q3;apply Z;clear Z;exact Pq g hF p1 q1 (hF _ _ p2) (hF _ _ q2) p3 q3 p4 q4 o
theorem yP{a:Addr}{KT:Type}[DecidableEq KT]{knd:PySem.KeyKind prog w KT}{l:List (KT×Value)}{Q:Value->Shared->Prop}{E:Value->Shared->Prop}(hu:A.units<cLine)(hm:s.heap.DictOf knd a l)(h:Q (.bool true) s):
  wpAny (model prog w) A (compareOp .NotEq (.ref a) .none) Q E s:=by
 show wpAny _ A (richCompare .NotEq _ _) Q E s;refine SeqAt.rc_ne_decline_or (k:=false) hm.typeIs rfl (by decide) F.sub_NoneType_dict PySem.F.slot_dict_ne F.slot_NoneType_ne_refl (fun Q' hq=>?_)
  (fun _ hq=>call_gives F.slot_NoneType_ne_refl rfl F.entry_NoneType_ne (F.args_NoneType_ne_2 _ _) (SeqAt.NoneType___ne___none_ref_0 a) hq)
  (fun _ hq=>wpAny_of_eq (rfl:isSame (.ref a) .none=pure false) hq) (.inr hu) h
 refine wpAny_call_entry PySem.F.slot_dict_ne hm.typeIs PySem.F.entry_dict_ne ?_ (PySem.F.args_dict_ne_2 _ _);show wpAny _ _ (Builtin.Dict.dictSlotArgs "__ne__" ⟨[.ref a,.none],[]⟩ >>= _) _ _ s;refine aG ?_;unfold Builtin.Dict.dictSlotArgs;refine aG (wpAny_notOrdered_dict hm.typeIs ?_);show wpAny _ _ (pure (Value.ref a,Value.none)) _ _ s;refine aY ?_;refine aG (wpAny_isInstance (T:="NoneType") rfl F.sub_NoneType_dict ?_);simp only[Bool.not_false,if_true];exact aG (wpAny_rule (aY (aH _ rfl hq)))
theorem Rep.none_inv{v:Value}(r:Rep prog w F v .none):v= .none:=r.inv
theorem Yc{v:Value}{d:D}(r:Rep prog w F v d):(v==Value.none)=isNone d:=by refine Rep.casesOn (motive_1:=fun v d _=>(v==Value.none)=isNone d) r ?_ ?_ ?_ ?_ ?_ ?_ ?_<;>intros<;>rfl
theorem aAP{x y:D}{z:Bool}{u v:Value}{Q:Value->Shared->Prop}{E:Value->Shared->Prop}(rx:Rep prog w F u x)(ry:Rep prog w F v y)(e:isD x y=some z):
  (Q (.bool z) s->wpAny (model prog w) A (compareOp .Is u v) Q E s)/\(Q (.bool (!z)) s->wpAny (model prog w) A (compareOp .IsNot u v) Q E s):=by
 refine aQ e fun h e=>?_;rename_i y0;clear y0;obtain rfl:=kJ h;obtain rfl:=ry.none_inv;obtain rfl:=aK e;rw[<-Yc rx];exact⟨fun h=>PySem.is_none h,fun h=>PySem.isNot_none h⟩
theorem oM{xs:List D}(h:xs.all okD=true):PyData.canLayAll0 xs=true:=by
 induction xs with
 |nil=>rfl
 |cons y r ih=>
  exact aS (show(okD y&&r.all okD)=true from h) fun h1 h2=>Bool.and_eq_true_iff.mpr ⟨(fB h1).1,ih h2⟩
theorem Ps{x y:D}{z:Bool}{u v:Value}{Q:Value->Shared->Prop}{E:Value->Shared->Prop}{k:Nat}(g:Good k A)(hF:∀a o,F a=some o->s.heap.get? a=some o)(rx:Rep prog w F u x)(ry:Rep prog w F v y)(e:inD x y=some z):
  (Q (.bool z) s->wpAny (model prog w) A (compareOp .In u v) Q E s)/\(Q (.bool (!z)) s->wpAny (model prog w) A (compareOp .NotIn u v) Q E s):=by
 apply bc;intro Z;refine bN e fun xs hy e=>aQ e fun o e=>?_;rename_i y0 y1;clear y0 y1;obtain rfl:=aK e;refine aS o fun o1 o2=>?_;have hr:A.units+1+min (PyData.depthAll xs) x.depth<cLine:=by have h1:=lO (fB o1).2;have h2:=g.cl;have h3:A.in1.units=A.units+1:=rfl;lia
 refine X1 (rx.reads hF (fB o1).1) fun as ra=>?_;apply Z;clear Z
 cases y with
 |list ys=>
  apply bc;intro Z;obtain rfl:=aK hy;refine X1 (ry.reads hF (show PyData.canLay0 _=true from oM o2)) fun bs rb=>?_;apply Z;clear Z;exact⟨SeqAt.in_list_reads rb ra (oM o2) (fB o1).1 hr,SeqAt.notIn_list_reads rb ra (oM o2) (fB o1).1 hr⟩
 |tuple ys=>
  apply bc;intro Z;obtain rfl:=aK hy;refine X1 (ry.reads hF (show PyData.canLay0 _=true from oM o2)) fun bs rb=>?_;apply Z;clear Z;exact⟨SeqAt.in_tuple_reads rb ra (oM o2) (fB o1).1 hr,SeqAt.notIn_tuple_reads rb ra (oM o2) (fB o1).1 hr⟩
 |_=>exact(nn hy).elim
theorem uD{op:CmpOp}{x y:D}{z:Bool}{u v:Value}{Q:Value->Shared->Prop}{E:Value->Shared->Prop}{k:Nat}(g:Good k A)(hF:∀a o,F a=some o->s.heap.get? a=some o)(rx:Rep prog w F u x)(ry:Rep prog w F v y)(e:eL op x y=some z)
  (h:Q (.bool z) s):wpAny (model prog w) A (compareOp op u v) Q E s:=by
 have neg:∀{o:Option Bool},o.map (!·)=some z->o=some !z:=fun e=>by apply bc;intro Z;refine aO e fun z' e1 e2=>?_;apply Z;clear Z;rw[e1,<-e2,Bool.not_not]
 have h':Q (.bool (!!z)) s:=by rw[Bool.not_not];exact h
 have ii:∀{k:Int->Int->Bool},(iD x fun a=>iD y fun b=>some (k a b))=some z->∃a b t t',u= .int a t/\v= .int b t'/\z=k a b:=fun e=>by apply bc;intro Z;refine cJ (Pg e) fun a c Q2 Q3 e=>?_;rename_i y0 y1 y2;clear y0 y2;subst Q2;subst Q3;refine fG (rx.ints ry) fun t t' h1 h2=>?_;apply Z;clear Z;exact(aDS a c t t' h1 h2 ((aK e).symm))
 cases op
 ·exact(aAO g hF rx ry e).1 h
 ·exact(aAO g hF rx ry (neg e)).2 h'
 ·refine Wt (ii e) fun a c t t' Q4 Q5 Q6=>?_;subst Q4;subst Q5;subst Q6;exact PyProof.Rows.lt_int h
 ·refine Wt (ii e) fun a c t t' Q4 Q5 Q6=>?_;subst Q4;subst Q5;subst Q6;exact PyProof.Rows.le_int h
 ·refine Wt (ii e) fun a c t t' Q4 Q5 Q6=>?_;subst Q4;subst Q5;subst Q6;exact PyProof.Rows.gt_int h
 ·refine Wt (ii e) fun a c t t' Q4 Q5 Q6=>?_;clear ii;subst Q4;subst Q5;subst Q6;exact PyProof.Rows.ge_int h
 ·exact(aAP rx ry e).1 h
 ·exact(aAP rx ry (neg e)).2 h'
 ·exact(Ps g hF rx ry e).1 h
 ·exact(Ps g hF rx ry (neg e)).2 h'
theorem Yd{op:CmpOp}{a c:Ex}{X Y:Expr}{pos:Pos}(hb:behindInMarks op Y=false)(ha:Snd prog w P b5 T B a X)(hc:Snd prog w P b5 T B c Y):Snd prog w P b5 T B (.cmp op a c) (.Compare X [op] [Y] pos):=by
 intro A env b8 F σ fp s v d7 p ev;apply bc;intro Z;refine bE ev fun x b9 e1 ev=>bE ev fun y c8 e2 ev=>aO ev fun z hz e=>?_
 cases e
 apply Z;clear Z;exact wpAny_Compare1 (two ha hc p e1 e2 rfl fun u v d5 d4 c9 g r1 r2=>uD p.good g.tr.fz r1 r2 hz (g.postE (.bool _))) hb
theorem Go.test{t:Bool}(g:Go prog w P b8 b F fp s c6 c7 c5 b9):qJ prog w P b8 b F fp s b9 t t c5:=⟨c6,c7,g,rfl⟩
theorem Pt{op:CmpOp}{a c:Ex}{X Y:Expr}{pos:Pos}(hb:behindInMarks op Y=false)(ha:Snd prog w P b5 T B a X)(hc:Snd prog w P b5 T B c Y):nO prog w P b5 T B (.cmp op a c) (.Compare X [op] [Y] pos):=by
 intro A env b8 F σ fp s v d7 p ev;apply bc;intro Z;refine bE ev fun x b9 e1 ev=>bE ev fun y c8 e2 ev=>aO ev fun z hz e=>?_
 cases e
 apply Z;clear Z;exact wpAny_isTrue_Compare1 (two ha hc p e1 e2 rfl fun u v d5 d4 c9 g r1 r2=>uD p.good g.tr.fz r1 r2 hz (wpAny_truthy_bool g.test)) hb
theorem Au(l:List (Int×D)):eD (l.map fun p=>((.int p.1,p.2):D×D))=some l:=by
 induction l with
 |nil=>rfl
 |cons p l ih=>exact bU (Option.map _) ih
theorem jQ{pl:Pl}{c:C}(e:pl.cont σ=some c):pl.get σ=some (.c c):=by refine qH e fun x h e=>?_;rw[h,aK e]
theorem Ht{op:CmpOp}{c:C}{y:D}{z:Bool}{u v:Value}{fpx:List Addr}{Q:Value->Shared->Prop}{E:Value->Shared->Prop}{k:Nat}(g:Good k A)(hF:∀a o,F a=some o->s.heap.get? a=some o)
  (rx:hO prog w P F s.heap u (.c c) fpx) (ry:Rep prog w F v y) (e:Ec op c y=some z) (h:Q (.bool z) s):wpAny (model prog w) A (compareOp op u v) Q E s:=by
 obtain⟨a,rfl,ha,⟨o,ho,rc⟩,-⟩:=rx;refine Wx e fun l9 Q1 e=>?_;rename_i y0;clear y0;subst Q1;obtain⟨l,h1,h2⟩:=rc;have key:∀{b':List (D×D)} {z:Bool},Rep prog w F v (.dict b')->eqD (aI l9) (.dict b')=some z->
   (Q (.bool z) s->wpAny (model prog w) A (compareOp .Eq (.ref a) v) Q E s)/\(Q (.bool (!z)) s->wpAny (model prog w) A (compareOp .NotEq (.ref a) v) Q E s):=by
  intro b' z ry e;have e:(match eD (l9.map fun p=>((.int p.1,p.2):D×D)) with|some a=>(dictKeys (.dict b')).bind fun b=>if(iB a&&iB b)=true then some (kZ a b) else none|none=>_)=some z:=e;rw[Au] at e;refine bN e fun l' ey e=>aQ e fun o2 e=>?_;rename_i y0 y1 y2;clear y0 y1 y2;obtain rfl:=aK e;refine lQ ry ey fun c oc lc Q3 q1 q2 q3 q4=>?_;subst Q3;exact Pq g hF ha q1 ho (hF _ _ q2) h1 q3 h2 q4 o2
 cases op with
 |Eq=>
  refine yA e fun b' Q1 e=>?_;subst Q1;exact(key ry e).1 h
 |NotEq=>
  by_cases hn:isNone y=true
  ·obtain rfl:=kJ hn;obtain rfl:=ry.none_inv;obtain rfl:=aK e;exact yP (Hh (Nat.le_add_right _ 65) g.cl) (Heap.dictOf_iff.mpr (aH o ho h1)) h
  ·have e:(if isNone y=true then some true else mD y fun b=>(eqD (aI l9) (.dict b)).map (!·))=some z:=e;rw[aR hn] at e;refine yA e fun b' Q1 e=>?_;subst Q1;refine aO e fun z' e1 Q2=>?_;subst Q2;exact(key ry e1).2 h
 |_=>exact(nn e).elim
theorem Pu(kn:Known prog w P K b5 T mg mb B.lt){op:CmpOp}{pl:Pl}{c:Ex}{X Y:Expr}{pos:Pos}(hb:behindInMarks op Y=false)(hp:iC P B pl X=true)(hpu:pureE c=true)(hc:Snd prog w P b5 T B c Y):Snd prog w P b5 T B (.cmpP op pl c) (.Compare X [op] [Y] pos):=by
 intro A env b8 F σ fp s v d7 p ev;apply bc;intro Z;refine aQ ev fun e1 ev=>bE ev fun y b9 e2 ev=>bN ev fun x e3 ev=>aO ev fun z hz e=>?_
 cases e
 apply Z;clear Z;refine wpAny_Compare1 (kK kn p hp e1 fun y' tk st=>hc.d p.tick e2 fun u c6 c7 c5 g1 r1=>?_) hb;apply bc;intro Z;rw[hpu] at g1;refine aP (st _ _ _ _ _ g1 (jQ e3)) fun fpy r2 _=>?_;apply Z;clear Z;exact Ht p.good g1.tr.fz r2 r1 hz ((g1.tickL.up fun q=>nomatch q).postE (.bool _))
theorem Kr(kn:Known prog w P K b5 T mg mb B.lt){op:CmpOp}{pl:Pl}{c:Ex}{X Y:Expr}{pos:Pos}(hb:behindInMarks op Y=false)(hp:iC P B pl X=true)(hpu:pureE c=true)(hc:Snd prog w P b5 T B c Y):nO prog w P b5 T B (.cmpP op pl c) (.Compare X [op] [Y] pos):=by
 intro A env b8 F σ fp s v d7 p ev;apply bc;intro Z;refine aQ ev fun e1 ev=>bE ev fun y b9 e2 ev=>bN ev fun x e3 ev=>aO ev fun z hz e=>?_
 cases e
 apply Z;clear Z;refine wpAny_isTrue_Compare1 (kK kn p hp e1 fun y' tk st=>hc.d p.tick e2 fun u c6 c7 c5 g1 r1=>?_) hb;apply bc;intro Z;rw[hpu] at g1;refine aP (st _ _ _ _ _ g1 (jQ e3)) fun fpy r2 _=>?_;apply Z;clear Z;exact Ht p.good g1.tr.fz r2 r1 hz (wpAny_truthy_bool (g1.tickL.up fun q=>nomatch q).test)
theorem Ye{x:D}{c:C}{z:Bool}{u v:Value}{fpx:List Addr}{tk:Nat}{k:Nat}(gd:Good k A)(g:Go prog w P b8 b F fp s c6 c7 c5 b9)(ru:Rep prog w c6 u x)(rv:hO prog w P c6 c5.heap v (.c c) fpx)(hz:inC x c=some z):
  wpAny (model prog w) A (compareOp .In u v) (eH prog w P b8 b F fp s b9 (.d (.bool z))) NoE {c5 with toks:=tk}:=by
 apply bc;intro Z;refine yE hz fun xs Q1 hz=>?_;rename_i y0;clear y0;subst Q1;obtain⟨a,rfl,ha,⟨o,ho,ys,n,rfl,r⟩,-⟩:=rv;have le:c6.Le (c6.add a (listOf ys n)):=fun b o' e=>by
  unfold Fz.add
  split
  ·rename_i h1;clear ha;subst h1;exact ho.symm.trans (g.tr.fz _ _ e)
  ·exact e
 apply Z;clear Z;exact(Ps (F:=c6.add a (listOf ys n)) (s:={c5 with toks:=tk}) gd (Fz.add_fz ho g.tr.fz) (ru.mono le) (.list (c6.add_self a _) rfl rfl (r.mono le)) hz).1 (g.tick.postE (.bool _))
theorem Yg(kn:Known prog w P K b5 T mg mb B.lt){pl:Pl}{c:Ex}{X Y:Expr}{pos:Pos}(hb:behindInMarks .In Y=false)(hp:iC P B pl Y=true)(hc:Snd prog w P b5 T B c X):Snd prog w P b5 T B (.inP c pl) (.Compare X [.In] [Y] pos):=by
 intro A env b8 F σ fp s v d7 p ev;apply bc;intro Z;refine bE ev fun x b9 e1 ev=>bN ev fun cc e3 ev=>aO ev fun z hz e=>?_
 cases e
 apply Z;clear Z;exact wpAny_Compare1 (hc.d p e1 fun u c6 c7 c5 g1 r1=>Pj kn (p.next g1) hp (jQ e3) fun y' fpy tk ry _=>Ye p.good g1 r1 ry hz) hb
theorem Pw{a:Ex}{X:Expr}(ht:wW X=true)(ha:Snd prog w P b5 T B a X):nO prog w P b5 T B (.val a) X:=by
 intro A env b8 F σ fp s v d7 p ev;apply bc;intro Z;refine bE ev fun x b9 e1 ev=>Ny ev fun z Q1 ev=>?_;rename_i y0;clear y0;subst Q1;refine aU ev fun Q0 Q1=>?_;subst Q0;subst Q1;apply Z;clear Z;refine wpAny_isTrue_value (ha.d p e1 fun u c6 c7 c5 g1 r1=>?_) ?_
 ·rw[r1.inv];exact wpAny_truthy_bool g1.test
 ·cases X<;>first|rfl|exact(eX ht).elim
theorem nO.t{A:Around}{env:Env}{Q:Bool->Shared->Prop}{t:Tx}{X:Expr}{z:Bool}(ha:nO prog w P b5 T B t X)(p:Pre prog w P b5 B A env b8 F σ fp s)(e:evT T t σ=some (z,b9))
  (h:∀c6 c7 c5,Go prog w P b8 (!wX t) F fp s c6 c7 c5 b9->Q z c5):wpAny (model prog w) A (PySem.isTrue X env (eval X env)) Q NoE s:=
 bX (ha A env b8 F σ fp s z b9 p e) (fun u c5 h1=>by obtain⟨c6,c7,g,rfl⟩:=h1;exact h c6 c7 c5 g) fun _ _ x=>x
theorem Px{t:Tx}{X:Expr}{pos:Pos}(ha:nO prog w P b5 T B t X):nO prog w P b5 T B (.not t) (.UnaryOp .Not X pos):=by
 intro A env b8 F σ fp s v d7 p ev;apply bc;intro Z;refine aO ev fun Q0 hz e=>?_;obtain⟨z,b9⟩:=Q0
 cases e
 apply Z;clear Z;exact wpAny_isTrue_Not (ha.t p hz fun c6 c7 c5 g=>g.test)
def uE(prog:Program)(w:World)(P:PS)(b5:Heap)(T:Tab)(B:Bk)(ts:List Tx)(Es:List Expr):Prop:=∀A env b8 F σ fp s v d7,Pre prog w P b5 B A env b8 F σ fp s->gB T ts σ=some (v,d7)->
 wpAny (model prog w) A (allTrue .And Es env) (qJ prog w P b8 (!mL ts) F fp s d7 v) NoE s
def Av(prog:Program)(w:World)(P:PS)(b5:Heap)(T:Tab)(B:Bk)(ts:List Tx)(Es:List Expr):Prop:=∀A env b8 F σ fp s v d7,Pre prog w P b5 B A env b8 F σ fp s->Ag T ts σ=some (v,d7)->
 wpAny (model prog w) A (allTrue .Or Es env) (qJ prog w P b8 (!mL ts) F fp s d7 v) NoE s
theorem Eu:uE prog w P b5 T B [] []:=by intro A env b8 F σ fp s v d7 p ev;refine aU ev fun Q0 Q1=>?_;clear ev;subst Q0;subst Q1;exact aY p.go.test
theorem Ks:Av prog w P b5 T B [] []:=by intro A env b8 F σ fp s v d7 p ev;refine aU ev fun Q0 Q1=>?_;clear ev;subst Q0;subst Q1;exact aY p.go.test
theorem qJ.after{c:Bool}{t x:Bool}{s':Shared}{d7:Sg}(g:Go prog w P b8 b F fp s c6 c7 c5 b9)(h:qJ prog w P b8 c c6 c7 c5 d7 t x s')(h1:b=true->b'=true)(h2:c=true->b'=true):qJ prog w P b8 b' F fp s d7 t x s':=by obtain⟨d5,d4,g2,e⟩:=h;exact⟨d5,d4,(g.up h1).trans (g2.up h2),e⟩
theorem Aw{t:Tx}{r:List Tx}{X:Expr}{Xs:List Expr}(ha:nO prog w P b5 T B t X)(hr:uE prog w P b5 T B r Xs):uE prog w P b5 T B (t::r) (X::Xs):=by
 intro A env b8 F σ fp s v d7 p ev;refine bG ev fun z b9 e1 ev=>wpAny_allTrue_And_cons (ha.t p e1 fun c6 c7 c5 g=>?_)
 cases z with
 |true=>exact bX (hr A env b8 c6 b9 c7 c5 _ _ (p.next g) ev) (fun u c9 h2=>h2.after g fV kW) fun _ _ x=>x
 |false=>
  refine aU ev fun Q0 Q1=>?_;rename_i y0;clear ev y0;subst Q0;subst Q1;exact(g.up fV).test
theorem Ev{t:Tx}{r:List Tx}{X:Expr}{Xs:List Expr}(ha:nO prog w P b5 T B t X)(hr:Av prog w P b5 T B r Xs):Av prog w P b5 T B (t::r) (X::Xs):=by
 intro A env b8 F σ fp s v d7 p ev;refine bG ev fun z b9 e1 ev=>wpAny_allTrue_Or_cons (ha.t p e1 fun c6 c7 c5 g=>?_)
 cases z with
 |false=>exact bX (hr A env b8 c6 b9 c7 c5 _ _ (p.next g) ev) (fun u c9 h2=>h2.after g fV kW) fun _ _ x=>x
 |true=>
  refine aU ev fun Q0 Q1=>?_;rename_i y0;clear ev y0;subst Q0;subst Q1;exact(g.up fV).test
theorem Py{ts:List Tx}{Xs:List Expr}{pos:Pos}(ha:uE prog w P b5 T B ts Xs):nO prog w P b5 T B (.and ts) (.BoolOp .And Xs pos):=by intro A env b8 F σ fp s v d7 p ev;exact wpAny_isTrue_BoolOp (ha A env b8 F σ fp s _ _ p ev)
theorem Yh{ts:List Tx}{Xs:List Expr}{pos:Pos}(ha:Av prog w P b5 T B ts Xs):nO prog w P b5 T B (.or ts) (.BoolOp .Or Xs pos):=by intro A env b8 F σ fp s v d7 p ev;exact wpAny_isTrue_BoolOp (ha A env b8 F σ fp s _ _ p ev)
theorem Ew{op op':CmpOp}{a c e:Ex}{X Y Z:Expr}{pos:Pos}(hb:behindInMarks op' Z=false)(ha:Snd prog w P b5 T B a X)(hc:Snd prog w P b5 T B c Y)(he:Snd prog w P b5 T B e Z):nO prog w P b5 T B (.chain a op c op' e) (.Compare X [op,op'] [Y,Z] pos):=by
 intro A env b8 F σ fp s v d7 p ev;apply bc;intro Z;refine bE ev fun x b9 e1 ev=>bE ev fun y c8 e2 ev=>bN ev fun z hz ev=>?_;apply Z;clear Z;refine isTrue_chain (ha.d p e1 fun u c6 c7 c5 g1 r1=>test_link (hc.d (p.next g1) e2 fun v' d5 d4 c9 g2 r2=>?_)) hb;have g:Go prog w P b8 (!wX (.chain a op c op' e)) F fp s d5 d4 c9 c8:=(g1.up fun h=>fV (fV h)).trans (g2.up fun h=>fV (kW h))
 cases z with
 |false=>
  apply bc;intro Z;refine aU ev fun Q0 Q1=>?_;rename_i y0 y1 y2;clear y0 y1 y2;subst Q0;subst Q1;apply Z;clear Z;exact uD p.good g2.tr.fz (r1.mono g2.tr.mono) r2 hz (wpAny_truthy_bool g.test)
 |true=>
  apply bc;intro Z;refine bE (aAH ev) fun z g6 e3 ev=>aO ev fun q hq e=>?_
  cases e
  apply Z;clear Z;exact uD p.good g2.tr.fz (r1.mono g2.tr.mono) r2 hz (wpAny_truthy_bool (test_last (he.d ((p.next g1).next g2) e3 fun v' i7 i8 g8 g3 r3=>uD p.good g3.tr.fz (r2.mono g3.tr.mono) r3 hq (wpAny_truthy_bool (g.trans (g3.up kW)).test))))
theorem Yi{t:Tx}{a c:Ex}{X Y Z:Expr}{pos:Pos}(ht:nO prog w P b5 T B t X)(ha:Snd prog w P b5 T B a Y)(hc:Snd prog w P b5 T B c Z):Snd prog w P b5 T B (.ite t a c) (.IfExp X Y Z pos):=by
 intro A env b8 F σ fp s v d7 p ev;apply bc;intro Z;refine bG ev fun z b9 e1 ev=>?_;apply Z;clear Z;refine wpAny_IfExp (ht.t p e1 fun c6 c7 c5 g=>?_);have g':Go prog w P b8 (!pureE (.ite t a c)) F fp s c6 c7 c5 b9:=g.up fun h=>fV (fV h)
 cases z with
 |true=>exact ha.run (p.next g) ev fun u c9 h2=>(h2.up fun h=>fV (kW h)).after g'
 |false=>exact hc.run (p.next g) ev fun u c9 h2=>(h2.up kW).after g'
theorem Pz{α:Type}{f:Str}{o:List Expr->Option α}{e:Expr}{x:α}(h:Eh B f o e=some x):∃p xs pos,e= .Call (.Name f p) xs [] pos/\okG B f=true/\xs.all Expr.plain=true/\o xs=some x:=by
 have q:e.ctorIdx=16:=by
  by_cases q:e.ctorIdx=16
  ·exact q
  ·unfold Eh at h;rw[dif_neg q] at h;exact(nn h).elim
 refine Expr.Call.elim (motive_1:=fun e=>Eh B f o e=some x->∃p xs pos,e= .Call (.Name f p) xs [] pos/\okG B f=true/\xs.all Expr.plain=true/\o xs=some x) e q (fun g xs kw pos h=>?_) h;apply bc;intro Z;refine aQ h fun h1 h2=>nN h1 fun h3 h4 h5 h6=>v3k h4 fun y p Q2 h4=>?_;rename_i y0;clear h h1 y0;subst Q2;apply Z;clear Z;rw[w0 h3,cX.mp h4];exact(wF p xs pos rfl h5 h6 h2)
theorem rN{α:Type}{f:Str}{o:List Expr->Option α}{e:Expr}{x:α}(h:Eh B f o e=some x){P:Prop}(f:∀p xs pos,e= .Call (.Name f p) xs [] pos->okG B f=true->xs.all Expr.plain=true->o xs=some x->P):P:=Ad (Pz h) f
theorem Hu{l:List Expr}{x:Expr}(h:aBq l=some x):l=[x]:=by
 cases l with
 |nil=>exact(nn h).elim
 |cons y l=>refine aQ h fun h1 h2=>?_;rw[w0 h1,aK h2]
theorem Hv{l:List Expr}{x:Expr×Expr}(h:aBr l=some x):l=[x.1,x.2]:=by
 cases l with
 |nil=>exact(nn h).elim
 |cons y l=>refine aO h fun z h1 Q2=>?_;clear h;subst Q2;rw[Hu h1]
theorem Kt{l:List Expr}{x:Expr×Expr×Expr}(h:Ot l=some x):l=[x.1,x.2.1,x.2.2]:=by
 cases l with
 |nil=>exact(nn h).elim
 |cons y l=>refine aO h fun z h1 Q2=>?_;clear h;subst Q2;rw[Hv h1]
theorem uF{f:Str}{e x:Expr}(h:jA B f e=some x):∃p pos,e= .Call (.Name f p) [x] [] pos/\okG B f=true/\Expr.plain x=true:=by apply bc;intro Z;refine rN h fun p xs pos Q3 h1 h2 h3=>?_;clear h;subst Q3;obtain rfl:=Hu h3;apply Z;clear Z;exact(dW p pos rfl h1 ((fB h2).1))
theorem Ku{f:Str}{e x:Expr}(h:jA B f e=some x){P:Prop}(f:∀p pos,e= .Call (.Name f p) [x] [] pos->okG B f=true->Expr.plain x=true->P):P:=cJ (uF h) f
theorem uG{f:Str}{e x y:Expr}(h:pA B f e=some (x,y)):∃p pos,e= .Call (.Name f p) [x,y] [] pos/\okG B f=true/\Expr.plain x=true/\Expr.plain y=true:=by apply bc;intro Z;refine rN h fun p xs pos Q3 h1 h2 h3=>?_;clear h;subst Q3;obtain rfl:=Hv h3;apply Z;clear Z;exact(fH p pos rfl h1 ((fB h2).1) ((fB (fB h2).2).1))
theorem Kv{f:Str}{e x y:Expr}(h:pA B f e=some (x,y)){P:Prop}(f:∀p pos,e= .Call (.Name f p) [x,y] [] pos->okG B f=true->Expr.plain x=true->Expr.plain y=true->P):P:=oZ (uG h) f
theorem Ax{f:Str}{e x y z:Expr}(h:Ou B f e=some (x,y,z)):∃p pos,e= .Call (.Name f p) [x,y,z] [] pos/\okG B f=true/\Expr.plain x=true/\Expr.plain y=true/\Expr.plain z=true:=by apply bc;intro Z;refine rN h fun p xs pos Q3 h1 h2 h3=>?_;clear h;subst Q3;obtain rfl:=Kt h3;apply Z;clear Z;exact(Dz p pos rfl h1 ((fB h2).1) ((fB (fB h2).2).1) ((fB (fB (fB h2).2).2).1))
theorem plain_any{es:List Expr}{pos:Pos}(h:es.all Expr.plain=true):(backTo pos (starEach es env)).any (·.1)=false:=by
 induction es with
 |nil=>rfl
 |cons e r ih=>
  obtain⟨h1,h2⟩:=Bool.and_eq_true_iff.mp (show(Expr.plain e&&r.all Expr.plain)=true from h);rw[bJ h1];show(false||(backTo pos (starEach r env)).any (·.1))=false;rw[ih h2];rfl
inductive Callee:Value->Prop
 |builtin (id:String):Callee (.builtin id)
 |type (T:String):Callee (.type T)
theorem yQ{fv:Value}(hc:Callee fv){e:Expr}{rest:List Expr}{pos:Pos}{Q:Value->Shared->Prop}{E:Value->Shared->Prop}(h1:Expr.plain e=true)(h2:rest.all Expr.plain=true)
  (h:wpAny (model prog w) A (spliced (backTo pos (starEach (e::rest) env))) (fun vs c5=>wpAny (model prog w) A (call fv vs) Q E c5) E s):
  wpAny (model prog w) A (callWith pos fv [] (backTo pos (starEach (e::rest) env)) []) Q E s:=by
 cases hc with
 |builtin id=>exact PyProof.Rows.callWith_builtin1 h (bJ h1) (plain_any h2)
 |type T=>exact PyProof.Rows.callWith_type1 h (bJ h1) (plain_any h2)
theorem mY{fv:Value}{f:Str}{e x:Expr}{Q:Value->Shared->Prop}(kn:Gl prog w K b5 mg mb)(p:Pre prog w P b5 B A env b8 F σ fp s)(he:jA B f e=some x)(hf:mg f=none)(hv:bootBuiltins f=some fv)(hx:f≠"__name__")(hc:Callee fv)
  (h:wpAny (model prog w) A (eval x env) (fun u c5=>wpAny (model prog w) A (call fv [u]) Q NoE c5) NoE s):wpAny (model prog w) A (eval e env) Q NoE s:=by
 refine Ku he fun p1 pos Q2 hg hp=>?_;clear he;subst Q2;refine Call_ (Pc kn p hg hf hv hx (yQ hc hp rfl ?_));refine args_cons (bX h (fun u c5 h1=>?_) fun _ _ x=>x) (bJ hp);exact args_nil h1
theorem Hw{fv:Value}{f:Str}{e x y:Expr}{Q:Value->Shared->Prop}(kn:Gl prog w K b5 mg mb)(p:Pre prog w P b5 B A env b8 F σ fp s)(he:pA B f e=some (x,y))(hf:mg f=none)(hv:bootBuiltins f=some fv)(hx:f≠"__name__")(hc:Callee fv)
  (h:wpAny (model prog w) A (eval x env) (fun u c5=>wpAny (model prog w) A (eval y env) (fun v c9=>wpAny (model prog w) A (call fv [u,v]) Q NoE c9) NoE c5) NoE s):wpAny (model prog w) A (eval e env) Q NoE s:=by
 apply bc;intro Z;refine Kv he fun p1 pos Q2 hg hp hq=>?_;clear he;subst Q2;apply Z;clear Z;refine Call_ (Pc kn p hg hf hv hx (yQ (rest:=[y]) hc hp ((Bool.and_true _).trans hq) ?_));refine args_cons (bX h (fun u c5 h1=>?_) fun _ _ x=>x) (bJ hp);refine args_cons (bX h1 (fun v c9 h2=>?_) fun _ _ x=>x) (bJ hq);exact args_nil h2
theorem aAQ:bootBuiltins "len"=some (.builtin "len"):=by decide+kernel
theorem aDe:bootBuiltins "max"=some (.builtin "max"):=by decide+kernel
theorem aDf:bootBuiltins "min"=some (.builtin "min"):=by decide+kernel
theorem Yj:bootBuiltins "tuple"=some (.type "tuple"):=by decide+kernel
theorem aBC:bootBuiltins "list"=some (.type "list"):=by decide+kernel
theorem aDg:bootBuiltins "int"=some (.type "int"):=by decide+kernel
theorem Qa:bootBuiltins "dict"=some (.type "dict"):=by decide+kernel
theorem aDh:bootBuiltins "set"=some (.type "set"):=by decide+kernel
theorem Ay:bootBuiltins "sorted"=some (.builtin "sorted"):=by decide+kernel
theorem tC:bootBuiltins "range"=some (.type "range"):=by decide+kernel
theorem Ey:bootBuiltins "reversed"=some (.type "reversed"):=by decide+kernel
theorem Qb{n:Nat}(h:n<=1000000):(n:Int)<2^63:=by lia
noncomputable abbrev frees:List Str:=["len","max","min","range","reversed","sorted","set","tuple","list","dict","int"]
theorem Known.free{lt:Nat}{f:Str}(kn:Known prog w P K b5 T mg mb lt)(h:frees.contains f=true):mg f=none:=kn.ps.free f (List.contains_iff_mem.mp h)
theorem dM{ys:Array Value}{ds:List D}(h:aM prog w F ys.toList ds):ys.size=ds.length:=h.length
theorem Yk(kn:Known prog w P K b5 T mg mb B.lt){a:Ex}{X E:Expr}(he:jA B "len" E=some X)(ha:Snd prog w P b5 T B a X):Snd prog w P b5 T B (.len a) E:=by
 intro A env b8 F σ fp s v d7 p ev;apply bc;intro Z;refine bE ev fun x b9 e1 ev=>aO ev fun z hz e=>?_
 cases e
 refine bN hz fun xs hx hz=>aQ hz fun hl hz=>?_;rename_i y0 y1 y2;clear ev y0 y1 y2;obtain rfl:=aK hz;apply Z;clear Z;refine mY kn.gl p he (kn.free rfl) aAQ (by decide) (.builtin _) (ha.d p e1 fun u c6 c7 c5 g1 r1=>?_)
 cases x with
 |list ys=>
  obtain rfl:=aK hx;obtain⟨a,o,xs,n,rfl,h1,h2,h3,h4⟩:=r1.inv;rw[<-dM h4] at hl ⊢;exact PySem.Calls.call_len_list (dB o (g1.tr.fz _ _ h1) h2 n h3) (Qb hl) g1.tick.int
 |tuple ys=>
  obtain rfl:=aK hx;obtain⟨a,o,xs,n,rfl,h1,h2,h3,h4⟩:=r1.inv;rw[<-dM h4] at hl ⊢;exact PyProof.Rows.len_tuple (dB o (g1.tr.fz _ _ h1) h2 n h3) (Qb hl) g1.tick.int
 |_=>exact(nn hx).elim
theorem Qc(kn:Known prog w P K b5 T mg mb B.lt){pl:Pl}{X E:Expr}(he:jA B "len" E=some X)(hp:iC P B pl X=true):Snd prog w P b5 T B (.lenP pl) E:=by intro A env b8 F σ fp s v d7 p ev;refine jX ev fun xs e1 ev=>aQ ev fun hl ev=>aU ev fun Q0 Q1=>?_;rename_i y0 y1;clear ev y0 y1;subst Q0;subst Q1;refine mY kn.gl p he (kn.free rfl) aAQ (by decide) (.builtin _) (Pj kn p hp (jQ e1) fun y fpy tk r _=>?_);obtain⟨a,rfl,hs,⟨o,ho,ys,n,rfl,r⟩,-⟩:=r;rw[<-dM r] at hl ⊢;exact PySem.Calls.call_len_list (dB _ ho rfl n rfl) (Qb hl) p.go.int
theorem Go.more(g:Go prog w P b8 b F fp s c6 c7 c5 b9){h':Heap}{tk:Nat}(hk:∀a o,c5.heap.get? a=some o->h'.get? a=some o):Go prog w P b8 b F fp s c6 c7 {c5 with heap:=h',toks:=tk} b9:=
 g.trans (Go.keep g.tr.fz g.fi hk)
theorem Qd(kn:Known prog w P K b5 T mg mb B.lt){a c:Ex}{X Y E:Expr}(he:pA B "max" E=some (X,Y))(ha:Snd prog w P b5 T B a X)(hc:Snd prog w P b5 T B c Y):Snd prog w P b5 T B (.max2 a c) E:=by
 intro A env b8 F σ fp s v d7 p ev;apply bc;intro Z;refine eM ev fun x b9 e1 ev=>eM ev fun y c8 e2 ev=>aU ev fun Q0 Q1=>?_;rename_i y0 y1;clear ev y0 y1;subst Q0;subst Q1;apply Z;clear Z;refine Hw kn.gl p he (kn.free rfl) aDe (by decide) (.builtin _) (aAN (k:=fun u v=>call (.builtin "max") [u,v]) ha hc p e1 e2 rfl fun t t' d5 d4 c9 g=>PySem.max_two_ints p.good.handled fun h' tk hk=>?_);have g:=g.more (tk:=tk) hk
 split<;>exact g.postE (.int _ _)
theorem Qe(kn:Known prog w P K b5 T mg mb B.lt){a c:Ex}{X Y E:Expr}(he:pA B "min" E=some (X,Y))(ha:Snd prog w P b5 T B a X)(hc:Snd prog w P b5 T B c Y):Snd prog w P b5 T B (.min2 a c) E:=by
 intro A env b8 F σ fp s v d7 p ev;apply bc;intro Z;refine eM ev fun x b9 e1 ev=>eM ev fun y c8 e2 ev=>aU ev fun Q0 Q1=>?_;rename_i y0 y1;clear ev y0 y1;subst Q0;subst Q1;apply Z;clear Z;refine Hw kn.gl p he (kn.free rfl) aDf (by decide) (.builtin _) (aAN (k:=fun u v=>call (.builtin "min") [u,v]) ha hc p e1 e2 rfl fun t t' d5 d4 c9 g=>PySem.min_two_ints p.good.handled fun h' tk hk=>?_);have g:=g.more (tk:=tk) hk
 split<;>exact g.postE (.int _ _)
theorem Az(kn:Known prog w P K b5 T mg mb B.lt){a:Ex}{X E:Expr}(he:jA B "tuple" E=some X)(ha:Snd prog w P b5 T B a X):Snd prog w P b5 T B (.tupleOf a) E:=by
 intro A env b8 F σ fp s v d7 p ev;apply bc;intro Z;refine bE ev fun x b9 e1 ev=>aO ev fun z hz e=>?_
 cases e
 apply Z;clear Z;refine mY kn.gl p he (kn.free rfl) Yj (by decide) (.type _) (ha.d p e1 fun u c6 c7 c5 g1 r1=>?_)
 cases x with
 |list xs=>
  apply bc;intro Z;refine aQ hz fun hl hz=>?_;rename_i y0 y1;clear ev y0 y1;obtain rfl:=aK hz;obtain⟨a,o,ys,n,rfl,h1,h2,h3,h4⟩:=r1.inv;apply Z;clear Z;refine PySem.call_tuple_list (dB o (g1.tr.fz _ _ h1) h2 n h3) (fun h' hk=>?_) (gF (by rw[dM h4];exact hl));have g2:=g1.more (tk:=c5.toks) hk;exact(g2.frozen rfl).postE (.tuple (Fz.add_self _ _ _) rfl rfl (h4.mono (Fz.add_le _ (yN g2.tr.fz))))
 |tuple xs=>
  apply bc;intro Z;rename_i y0;clear ev y0;obtain rfl:=aK hz;obtain⟨a,o,ys,n,rfl,h1,h2,h3,h4⟩:=r1.inv;apply Z;clear Z;exact PySem.call_tuple_same (dB o (g1.tr.fz _ _ h1) h2 n h3) (g1.postE (.tuple h1 h2 h3 h4))
 |_=>exact(nn hz).elim
theorem Kw(kn:Known prog w P K b5 T mg mb B.lt){a:Ex}{X E:Expr}(he:jA B "int" E=some X)(ha:Snd prog w P b5 T B a X):Snd prog w P b5 T B (.intOf a) E:=by intro A env b8 F σ fp s v d7 p ev;refine eM ev fun x b9 e1 ev=>aU ev fun Q0 Q1=>?_;rename_i y0;clear ev y0;subst Q0;subst Q1;exact mY kn.gl p he (kn.free rfl) aDg (by decide) (.type _) (ha.i p e1 fun t c6 c7 c5 g1=>call_int_int (g1.postE (.int _ _)))
theorem Ez(kn:Known prog w P K b5 T mg mb B.lt){a:Ex}{X E:Expr}(he:jA B "list" E=some X)(ha:Snd prog w P b5 T B a X):Snd prog w P b5 T B (.listOf a) E:=by intro A env b8 F σ fp s v d7 p ev;refine yD ev fun xs b9 e1 ev=>aQ ev fun hl ev=>aU ev fun Q0 Q1=>?_;rename_i y0 y1;clear ev y0 y1;subst Q0;subst Q1;refine mY kn.gl p he (kn.free rfl) aBC (by decide) (.type _) (ha.d p e1 fun u c6 c7 c5 g1 r1=>?_);obtain⟨a,o,ys,n,rfl,h1,h2,h3,h4⟩:=r1.inv;exact PySem.call_list_seq a (.inl rfl) (g1.tr.fz _ _ h1) h2 h3 (fun h' c' hk hn=>g1.newC (tk:=c5.toks) hk (cS _) (kn.gl.above (p.next g1).keeps) ⟨_,hn,ys,c',rfl,h4⟩) (gF (by rw[dM h4];exact hl))
theorem Hx{ys:Array Value}{ds:List D}{n:Int}(h0:0<=n)(r:aM prog w F ys.toList ds){F':Fz}(le:F.Le F'):aM prog w F' (slicePick ys none (some n) none).toList (ds.take n.toNat):=by obtain⟨k,rfl⟩:∃k:Nat,n=(k:Int):=⟨n.toNat,(Int.toNat_of_nonneg h0).symm⟩;rw[slicePick_upto'];simpa using(r.mono le).take k
theorem pick_from{ys:Array Value}{ds:List D}{n:Int}(h0:0<=n)(r:aM prog w F ys.toList ds){F':Fz}(le:F.Le F'):aM prog w F' (slicePick ys (some n) none none).toList (ds.drop n.toNat):=by obtain⟨k,rfl⟩:∃k:Nat,n=(k:Int):=⟨n.toNat,(Int.toNat_of_nonneg h0).symm⟩;rw[slicePick_from'];simpa using(r.mono le).drop k
theorem Qf(kn:Known prog w P K b5 T mg mb B.lt){a c:Ex}{X Y:Expr}{pp pos:Pos}(ha:Snd prog w P b5 T B a X)(hc:Snd prog w P b5 T B c Y):Snd prog w P b5 T B (.slTo a c) (.Subscript X (.Slice none (some Y) none pp) pos):=by intro A env b8 F σ fp s v d7 p ev;apply bc;intro Z;refine yD ev fun xs b9 e1 ev=>eM ev fun n c8 e2 ev=>aQ ev fun hl ev=>aU ev fun Q0 Q1=>?_;rename_i y0 y1 y2;clear ev y0 y1 y2;subst Q0;subst Q1;apply Z;clear Z;refine Subscript_ (ha.d p e1 fun u c6 c7 c5 g1 r1=>wpAny_Slice (wS (wpAny_evalPart_some (hc.i (p.next g1) e2 fun t d5 d4 c9 g2=>wS ?_))));apply bc;intro Z;have g:=(g1.up fV).trans (g2.up (kW (a:=pureE a)));obtain⟨aa,o,ys,n',rfl,h1,h2,h3,h4⟩:=(r1.mono g2.tr.mono).inv;apply Z;clear Z;exact As kn (p.next g) g (dB o (g.tr.fz _ _ h1) h2 n' h3) h4 hl.2.2 .none (.int _ _) fun F' le=>Hx hl.1 h4 le
theorem Ba(kn:Known prog w P K b5 T mg mb B.lt){pl:Pl}{X:Expr}{lo hi:Option Expr}{pp:Pos}{y' vl vu:Value}{l u:Option Int}{xs out:List D}(p:Pre prog w P b5 B A env b8 F σ fp s)(st:nQ prog w P b8 F fp s pl y')(g1:Go prog w P b8 false F fp s c6 c7 c5 b9)(e3:pl.cont b9=some (.lst xs))(hl:xs.length<=1000000)
  (h1:IsPart vl l) (h2:IsPart vu u) (ho:∀{ys:Array Value} {F':Fz},aM prog w c6 ys.toList xs->c6.Le F'->aM prog w F' (slicePick ys l u none).toList out):
  wpAny (model prog w) A (subscriptTail X (.Slice lo hi none pp) y' (.ref c5.heap.objs.size)) (eH prog w P b8 b F fp s b9 (.c (.lst out))) NoE {c5 with heap:=c5.heap.push {cls:= .type "slice",data:= .fields #[vl,vu,.none]}}:=by
 apply bc;intro Z;refine aP (st _ _ _ _ _ g1 (jQ e3)) fun fpy Q1 _=>?_;obtain⟨a,rfl,ha,⟨o,ho',ys,n',rfl,r⟩,-⟩:=Q1;apply Z;clear Z;exact As kn (p.next g1) (g1.up fun q=>nomatch q) (dB _ ho' rfl n' rfl) r hl h1 h2 fun F' le=>ho r le
theorem eH.tickL{v:V}{x:Value}{d7:Sg}{s':Shared}{tk:Nat}(h:eH prog w P b8 b F fp {s with toks:=tk} d7 v x s'):eH prog w P b8 b F fp s d7 v x s':=by obtain⟨F',e9,fx,g,r,n⟩:=h;exact⟨F',e9,fx,g.tickL,r,n⟩
theorem Kx(kn:Known prog w P K b5 T mg mb B.lt){pl:Pl}{c:Ex}{X Y:Expr}{pp pos:Pos}(hp:iC P B pl X=true)(hpu:pureE c=true)(hc:Snd prog w P b5 T B c Y):Snd prog w P b5 T B (.slToP pl c) (.Subscript X (.Slice none (some Y) none pp) pos):=by intro A env b8 F σ fp s v d7 p ev;apply bc;intro Z;refine aQ ev fun e1 ev=>eM ev fun n b9 e2 ev=>jX ev fun xs e3 ev=>aQ ev fun hl ev=>aU ev fun Q0 Q1=>?_;rename_i y0 y1 y2 y3;clear ev y0 y1 y2 y3;subst Q0;subst Q1;apply Z;clear Z;refine Subscript_ (kK kn p hp e1 fun y' tk st=>wpAny_Slice (wS (wpAny_evalPart_some (hc.i p.tick e2 fun t c6 c7 c5 g1=>wS ?_))));rw[hpu] at g1;exact bX (Ba (b:= !pureE (.slToP pl c)) kn p.tick st g1 e3 hl.2.2 .none (.int _ _) fun r le=>Hx hl.1 r le) (fun _ _ h=>h.tickL) fun _ _ x=>x
theorem Bb(kn:Known prog w P K b5 T mg mb B.lt){pl:Pl}{c:Ex}{X Y:Expr}{pp pos:Pos}(hp:iC P B pl X=true)(hpu:pureE c=true)(hc:Snd prog w P b5 T B c Y):Snd prog w P b5 T B (.slFromP pl c) (.Subscript X (.Slice (some Y) none none pp) pos):=by intro A env b8 F σ fp s v d7 p ev;apply bc;intro Z;refine aQ ev fun e1 ev=>eM ev fun n b9 e2 ev=>jX ev fun xs e3 ev=>aQ ev fun hl ev=>aU ev fun Q0 Q1=>?_;rename_i y0 y1 y2 y3;clear ev y0 y1 y2 y3;subst Q0;subst Q1;apply Z;clear Z;refine Subscript_ (kK kn p hp e1 fun y' tk st=>wpAny_Slice (wpAny_evalPart_some (hc.i p.tick e2 fun t c6 c7 c5 g1=>wS (wS ?_))));rw[hpu] at g1;exact bX (Ba (b:= !pureE (.slFromP pl c)) kn p.tick st g1 e3 hl.2.2 (.int _ _) .none fun r le=>pick_from hl.1 r le) (fun _ _ h=>h.tickL) fun _ _ x=>x
variable {d7:Sg}{h':Heap}{pl:Pl}{c c':C}{a:Addr}{tk:Nat}
inductive aAR(prog:Program)(w:World)(F:Fz)(h:Heap)(c:C)(fp:List Addr)(y:Value):Prop
 |mk (a:Addr):y= .ref a->(a==sysModules)=false->pS prog w F h a c->a∈fp->aAR prog w F h c fp y
theorem nQ.rep{y:Value}(st:nQ prog w P b8 F fp s pl y)(g:Go prog w P b8 false F fp s c6 c7 c5 b9)(hc:pl.cont b9=some c):aAR prog w c6 c5.heap c (c7 pl.slot) y:=by apply bc;intro Z;refine eR (st _ _ _ _ _ g (jQ hc)) fun fpy Q1 h2 _=>?_;obtain⟨a,e1,e2,e3,e4⟩:=Q1;apply Z;clear Z;exact⟨a,e1,e2,e3,h2 a (by rw[e4];exact .head _)⟩
theorem nQ.write(st:nQ prog w P b8 F fp s pl (.ref a))(g:Go prog w P b8 false F fp s c6 c7 c5 b9)(hc:pl.cont b9=some c)(hput:pl.put b9 c'=some d7)(hk:∀b o,b≠a->c5.heap.get? b=some o->h'.get? b=some o)(hr:pS prog w c6 h' a c'):
  Go prog w P b8 true F fp s c6 c7 {c5 with heap:=h',toks:=tk} d7:=by
 apply bc;intro Z;refine eR (st _ _ _ _ _ g (jQ hc)) fun fpy h1 h2 h3=>?_;obtain⟨a',e1,e2,e3,e4⟩:=id h1;clear e2 e3;obtain rfl:=sB e1;refine cJ (h3 a c c' d7 h' rfl rfl hput hk hr) fun v0 v1 k1 Q3 k2=>?_;clear hput;subst Q3;obtain⟨o,ho,_⟩:=id hr;apply Z;clear Z;exact(g.up fun q=>nomatch q).trans (Go.wrote g.tr.fz g.fi k1 (h2 a (by rw[e4];exact .head _)) hk ⟨o,ho⟩ k2)
theorem Ky{E:Expr}{n:Str}(h:iC P B pl E=true):attributeBase E n env (eval E env)=eval E env:=by
 cases pl with
 |v i=>refine v3k h fun x q Q2 _=>?_;subst Q2;rfl
 |a i id=>refine sX (Em h) fun x q p Q3 _=>?_;clear h;subst Q3;rfl
theorem lF(kn:Known prog w P K b5 T mg mb B.lt)(p:Pre prog w P b5 B A env b8 F σ fp s){X:Expr}{args:List Expr}{n:Str}{id:String}{ap pos:Pos}{Q:Value->Shared->Prop}(hp:iC P B pl X=true)(hl:(ap.endLine==pos.line)=true)(hv:∃xs,pl.cont σ=some (.lst xs))
  (hfew:((backTo pos (starEach args env)).all (fun x=> !x.1)&&(backToKw pos (keywordEach [] env)).all (fun x=>x.1.isSome)
   &&decide (args.length+([]:List Keyword).length+(if([]:List Keyword).isEmpty then 0 else 1)<30))=true)
  (slot:Slot "list" n id) (hty:typeOf (.builtin id)=pure (.type "method_descriptor"))
  (h:∀a tk,nQ prog w P b8 F fp {s with toks:=tk} pl (.ref a)->wpAny (model prog w) A (callWith pos (.builtin id) [.ref a] (backTo pos (starEach args env)) []) Q NoE {s with toks:=tk}):
  wpAny (model prog w) A (eval (.Call (.Attribute X n ap) args [] pos) env) Q NoE s:=by
 refine X1 hv fun xs hx=>wpAny_Call_method (T:="list") (id:=id) (Ky hp) hfew hl PySem.F.plainAttrs_list slot hty (kK kn p hp (by rw[jQ hx];rfl) fun y tk st=>?_);apply bc;intro Z;obtain⟨a,rfl,ha,⟨o,ho,ys,k,rfl,r⟩,hm⟩:=st.rep (Go.refl (s:={s with toks:=tk}) false p.hF p.fi) hx;apply Z;clear Z;exact(cD (aH _ ho rfl) (fun b e=>by cases e;exact(aH _ ho rfl)) (h a tk st))
theorem iE{h:Heap}{a:Addr}(f:Obj->Obj):∀b o,b≠a->h.get? b=some o->(h.update a f).get? b=some o:=fun b o n e=>by rw[Heap.get?_update_ne _ _ _ _ n];exact e
theorem Bc{xs:List D}{x:D}(h:xs.getLast?=some x):xs[xs.length-1]?=some x:=by rw[List.getLast?_eq_getElem?] at h;exact h
theorem Fa{ys:Array Value}:(ys.eraseIdxIfInBounds (ys.size-1)).toList=ys.toList.dropLast:=by
 unfold Array.eraseIdxIfInBounds
 split
 ·rw[Array.toList_eraseIdx,List.eraseIdx_eq_take_drop_succ,List.dropLast_eq_take,Array.length_toList,List.drop_eq_nil_of_le (by simp;omega),List.append_nil]
 ·rename_i hh;have:ys= #[]:=by
   rw[<-Array.size_eq_zero_iff];omega
  clear hh;subst this;rfl
theorem Qg(kn:Known prog w P K b5 T mg mb B.lt){X:Expr}{ap pos:Pos}(hp:iC P B pl X=true)(hl:(ap.endLine==pos.line)=true):Snd prog w P b5 T B (.popP pl) (.Call (.Attribute X ("pop":Str) ap) [] [] pos):=by
 intro A env b8 F σ fp s v d7 p ev;apply bc;intro Z;refine jX ev fun xs e1 ev=>bN ev fun x e2 ev=>aQ ev fun hsz ev=>aO ev fun b9 e3 e=>cK (eC e) fun Q0 Q1=>?_;rename_i y0 y1 y2;clear ev e y0 y1 y2;subst Q0;subst Q1;apply Z;clear Z;refine lF kn p hp hl ⟨_,e1⟩ (by rfl) PySem.F.slot_list_pop PySem.F.type_list_pop fun a tk st=>?_;apply bc;intro Z;have g:Go prog w P b8 false F fp {s with toks:=tk} F fp {s with toks:=tk} σ:=Go.refl (s:={s with toks:=tk}) false p.hF p.fi;obtain⟨a',ea,ha,⟨o,ho,ys,k,rfl,r⟩,hm⟩:=st.rep g e1;clear ha hm;obtain rfl:=sB ea;refine aP (r.get (Bc e2)) fun v h1 h2=>?_;rw[<-dM r] at hsz h1;apply Z;clear Z;refine PySem.P.pop_list (hsz:=gF hsz) ho (y:=v) (by rw[<-Array.getElem?_toList];exact h1) ?_;have gw:Go prog w P b8 true F fp {s with toks:=tk} F fp {s with heap:=s.heap.update a (Obj.mapSeq fun xs=>xs.eraseIdxIfInBounds (ys.size-1)),toks:=tk} b9:=
  st.write (c5:={s with toks:=tk}) g e1 e3 (iE _) ⟨_,IsL.update (l:=a) (items:=ys) (n:=k) ho _,_,_,rfl,(by rw[Fa,List.dropLast_eq_take,List.dropLast_eq_take,r.length];exact r.take _)⟩
 exact gw.tickL.postE h2
theorem Sg.put_same{σ:Sg}{i:Nat}{v v':V}(h:σ.get i=some v):(σ.put i v').get i=some v':=by rw[Sg.get_put,aJ ⟨rfl,Sg.lt_of_get h⟩]
theorem Sg.put_other{σ:Sg}{i j:Nat}{v':V}(h:i≠j):(σ.put i v').get j=σ.get j:=by rw[Sg.get_put,aR fun q=>h q.1]
theorem Go.froze(hF:∀a o,F a=some o->s.heap.get? a=some o)(fi:Fi prog w P s.heap F b8 σ fp){i:Nat}{d:D}(hi:σ.get i=some (.c c))(e:mI c=some d):
  ∃F',Go prog w P b8 false F fp s F' (fun j=>if j=i then[] else fp j) s (σ.put i (.d d))/\∀l x,b8[i]?=some l->l.At s.heap x->Rep prog w F' x d:=by
 apply bc;intro Z;refine cJ (fi.sl i _ hi) fun l x hl hx Q4=>?_;obtain⟨a,rfl,hs,r,hfp⟩:=Q4;apply Z;clear Z;have ha:a∈fp i:=by rw[hfp];exact .head _
 apply bc;intro Z;have fn:=(fi.off i a ha).1;refine aP (r.toData hs fn e) fun o ho r'=>?_;have sub:∀{j c},c∈(if j=i then[] else fp j)->j≠i/\c∈fp j:=fun{j c} h=>by
  by_cases q:j=i
  ·rw[aJ q] at h;cases h
  ·rw[aR q] at h;exact⟨q,h⟩
 apply Z;clear Z;refine(aH (F.add a o) ⟨⟨F.add_le fn,fun _ _ e _=>e,fun _ e=>e,Fz.add_fz ho hF,fun b hb=>(Fz.add_or hb).elim .inl fun q=> .inr (.inl ⟨i,q▸ha⟩),rfl⟩,
  ⟨by unfold Sg.put;rw[List.length_set];exact fi.len,fi.there,fun j u e=>?_,fun j e=>?_,fun j k b hj hk=>fi.dj j k b (sub hj).2 (sub hk).2,
   fun j b hb=>⟨Fz.add_none (fi.off j b (sub hb).2).1 fun q=>(sub hb).1 (fi.dj j i b (sub hb).2 (q▸ha)),(fi.off j b (sub hb).2).2⟩,
   fun l' hl'=>Fz.add_none (fi.offL l' hl') ((fi.off i a ha).2 l' hl')⟩,fun j b hb=> .inl (sub hb).2⟩ (fun l' x' hl' hx'=>?_))
 ·by_cases q:j=i
  ·clear hfp ha sub;subst q;rw[Sg.put_same hi] at e;obtain rfl:=aK e;exact(fH l _ hl hx r' (aJ rfl))
  ·apply bc;intro Z;rw[Sg.put_other (Ne.symm q)] at e;refine cJ (fi.sl j u e) fun l2 y h1 h2 h3=>?_;apply Z;clear Z;rw[aR q];exact(dW l2 y h1 h2 (h3.mono (F.add_le fn) fun _ _ _ e=>e))
 ·by_cases q:j=i
  ·exact aJ q
  ·rw[Sg.put_other (Ne.symm q)] at e;rw[aR q];exact fi.emp j e
 ·apply bc;intro Z;obtain rfl:=aK (hl.symm.trans hl');obtain rfl:=hx.unique hx';apply Z;clear Z;exact r'
theorem aBD{i:Nat}{E:Expr}(ok:okE P B (.sh i) E=true):Snd prog w P b5 T B (.sh i) E:=by
 intro A env b8 F σ fp s v d7 p ev;apply bc;intro Z;refine v3k ok fun x q Q2 ok=>?_;rename_i y0;clear y0;subst Q2;refine qH ev fun c hv ev=>aO ev fun d hd e=>?_
 cases e
 refine aP (Go.froze p.hF p.fi hv hd) fun F' g r=>?_;apply Z;clear Z;exact load p ok hv fun l y hl hy _=>g.postE (r l y hl hy)
theorem Kz{l:Addr}{items:Array Value}{k:Nat}{x:Int}{u:Tok}{Q:Value->Shared->Prop}{E:Value->Shared->Prop}
  (hl:s.heap.get? l=some {cls:= .type "list",dict:=none,data:= .seq items k,slots:= #[]})
  (hlo: -(2^63:Int)<=x) (hhi:x<2^63) (hsz:items.size*x.toNat<=2^24)
  (h:Q (.ref s.heap.objs.size) {s with heap:=s.heap.push {cls:= .type "list",data:= .seq (List.foldl (fun x1 x2=>x1++x2) #[] (List.replicate (if items.isEmpty=true then 0 else x.toNat) items))}}):
  wpAny (model prog w) A (binaryOp .Mult (.ref l) (.int x u)) Q E s:=
 wpAny_binaryOp_repeat_ref (T:="list") (U:="int") (by decide) (aH _ hl rfl) (fun s'=>typeIs_int s' x u) noFill_list_mul PySem.F.fills_int_mul PySem.F.slot_int_rmul repeat_list PySem.F.slot_int_index.lookup
  (call_meets PySem.F.slot_int_rmul (typeIs_int s x u) PySem.F.entry_int_rmul (PySem.F.args_int_rmul_2 _ _) (int___rmul___int_list x u l items k)
   (sW hl rfl (aH _ hl rfl) (call_meets PySem.F.slot_list_mul (aH _ hl rfl) PySem.F.entry_list_mul (PySem.F.args_list_mul_2 _ _)
    (AutoListH.list___mul___list_int_3 l items k x u (by simp[Builtin.List.listFitsIndex];lia) (by lia) (by simp[Builtin.List.listTooLong,sizeLine];assumption))
    ⟨hl,h⟩)))
theorem Bd(u:Value):∀(n:Nat) (acc:Array Value),List.foldl (fun x1 x2=>x1++x2) acc (List.replicate n #[u])=acc++(List.replicate n u).toArray
 |0,acc=>by simp
 |n+1,acc=>by rw[List.replicate_succ,List.foldl_cons,Bd u n];apply Array.toList_inj.mp;simp[List.replicate_succ]
theorem Qh{n:Int}(h:0<=n/\n<1000){u:Value}: -(2^63:Int)<=n/\n<2^63/\(#[u]:Array Value).size*n.toNat<=2^24:=
 (cD (Int.le_trans (by decide) h.1) (Int.lt_trans h.2 (by decide)) ((Nat.one_mul _).symm▸Int.toNat_le.mpr (Int.le_trans (Int.le_of_lt h.2) (by decide))))
theorem Yl(kn:Known prog w P K b5 T mg mb B.lt){a c:Ex}{X Y:Expr}{pp pos:Pos}(hp:Expr.plain X=true)(ha:Snd prog w P b5 T B a X)(hc:Snd prog w P b5 T B c Y):Snd prog w P b5 T B (.rep a c) (.BinOp (.List [X] pp) .Mult Y pos):=by intro A env b8 F σ fp s v d7 p ev;apply bc;intro Z;refine bE ev fun x b9 e1 ev=>eM ev fun n c8 e2 ev=>aQ ev fun hl ev=>aU ev fun Q0 Q1=>?_;rename_i y0 y1 y2;clear ev y0 y1 y2;subst Q0;subst Q1;apply Z;clear Z;refine wpAny_BinOp (wpAny_List_spliced (args_cons (ha.d p e1 fun u c6 c7 c5 g1 r1=>args_nil ⟨by rw[fR];exact Nat.le_of_ble_eq_true rfl,?_⟩) (bJ hp)));have g1':=g1.more (tk:=c5.toks) (h':=c5.heap.push {cls:= .type "list",data:= .seq [u].toArray}) fun _ _ e=>bM _ e;refine hc.i (p.next g1') e2 fun t d5 d4 c9 g2=>?_;apply bc;intro Z;have hL:c9.heap.get? c5.heap.objs.size=some {cls:= .type "list",data:= .seq [u].toArray}:=g2.tr.kept _ _ (dQ _ rfl) fun _ ⟨i,hi⟩=>g1.fi.off_new (cS _) i hi;have g:=(g1'.up fV).trans (g2.up (kW (a:=pureE a)));refine cZ (Qh hl (u:=u)) fun m1 m2 m3=>?_;apply Z;clear Z;refine Kz hL m1 m2 m3 ?_;rw[aR (show¬((#[u]:Array Value).isEmpty=true) from eX),Bd];refine g.newC (tk:=c9.toks) (fun _ _ e=>bM _ e) (cS _) (kn.gl.above (p.next g).keeps) ⟨_,dQ _ rfl,_,0,rfl,?_⟩;simpa using aM.replicate (r1.mono g2.tr.mono) n.toNat
class inductive SndL (prog:Program) (w:World) (P:PS) (b5:Heap) (T:Tab) (B:Bk):List Ex->List Expr->Prop
 |nil:SndL prog w P b5 T B [] []
 |cons {a:Ex} {X:Expr} {r:List Ex} {Xs:List Expr}:Expr.plain X=true->Snd prog w P b5 T B a X->SndL prog w P b5 T B r Xs->SndL prog w P b5 T B (a::r) (X::Xs)
theorem SndL.es{es:List Ex}{Xs:List Expr}(h:SndL prog w P b5 T B es Xs):uB prog w P b5 T B es Xs:=by
 induction h with
 |nil=>exact Kn
 |cons a b _ ih=>exact Eo a b ih
theorem SndL.length{es:List Ex}{Xs:List Expr}(h:SndL prog w P b5 T B es Xs):es.length=Xs.length:=by
 induction h with
 |nil=>rfl
 |cons a b _ ih=>simp[ih]
theorem sH{k:Str}{ks:List Str}{keys:List (Option Expr)}(h:pT (k::ks) keys=true):∃n q r,keys=some (.Constant (.str k) n q)::r/\pT ks r=true:=by
 cases keys with
 |nil=>cases h
 |cons e r=>
  apply bc;intro Z;refine aS h fun h1 h2=>jP h1 fun x Q1 h3=>?_;clear h h1;subst Q1;refine v1k h3 fun c n q Q3 h4=>?_;subst Q3;refine aP (oSt h4) fun j Q1 h5=>?_;subst Q1;apply Z;clear Z;rw[cX.mp h5];exact(nA n q r rfl h2)
inductive Be(prog:Program)(w:World)(P:PS)(b8:List bF)(b:Bool)(F:Fz)(fp:Nat->List Addr)(s:Shared)(d7:Sg)(kds:List (Str×D))(vs:List (Value×Value))(s':Shared):Prop
 |mk (F':Fz) (e9:Nat->List Addr) (l9:List (Str×Value)):Go prog w P b8 b F fp s F' e9 s' d7->Carries (strKind prog w) vs l9->RepKV prog w F' l9 kds->Be prog w P b8 b F fp s d7 kds vs s'
theorem La{es:List Ex}{Xs:List Expr}(hs:SndL prog w P b5 T B es Xs):∀{ks:List Str} {keys:List (Option Expr)} {A:Around} {env:Env} {b8:List bF} {F:Fz} {σ:Sg} {fp:Nat->List Addr} {s:Shared} {ds:List D} {d7:Sg} {pos:Pos},pT ks keys=true->ks.length=es.length->
  Pre prog w P b5 B A env b8 F σ fp s->pQ T es σ=some (ds,d7)->
  wpAny (model prog w) A (evalPairs (pairTrees keys Xs env pos)) (Be prog w P b8 (!pureEs es) F fp s d7 (ks.zip ds)) NoE s:=by
 induction hs with
 |nil=>
  intro ks keys A env b8 F σ fp s ds d7 pos hk hl p ev;apply bc;intro Z;refine aU ev fun Q0 Q1=>?_;subst Q0;subst Q1;obtain rfl:=mU hl;obtain rfl:=w0 hk;apply Z;clear Z;exact pairTrees_nil_walk ⟨F,fp,[],p.go,trivial,.nil⟩
 | @cons a X r Xs hp ha hr ih=>
  intro ks keys A env b8 F σ fp s ds d7 pos hk hl p ev;apply bc;intro Z;refine bE ev fun x b9 e1 ev=>aO ev fun Q0 e2 e=>?_;obtain⟨ys,c8⟩:=Q0;refine cK (eC e) fun Q0 Q1=>?_;rename_i y0;clear ev e y0;subst Q0;subst Q1;apply Z;clear Z
  cases ks with
  |nil=>cases hl
  |cons k ks=>
   apply bc;intro Z;refine sX (sH hk) fun n q keys Q3 hk2=>?_;clear hk;subst Q3;apply Z;clear Z;refine pairTrees_cons_walk (wpAny_Constant_str (ha.d p.tick e1 fun v c6 c7 c5 g1 r1=>bX (ih (pos:=pos) hk2 (Nat.succ.inj hl) (p.next g1.tickL) e2) (fun vs c9 h2=>?_) fun _ _ x=>x));apply bc;intro Z;obtain⟨d5,d4,l9,g2,c2,r2⟩:=h2;apply Z;clear Z;exact⟨d5,d4,(k,v)::l9,(g1.tickL.up fV).trans (g2.up kW),(cD (strKind_is _ _ _ _) rfl c2),.cons (r1.mono g2.tr.mono) r2⟩
theorem Fi.keepBut{D:Addr}(fi:Fi prog w P h F b8 σ fp)(hk:∀b o,b≠D->h.get? b=some o->h'.get? b=some o)(hl:∀l∈b8,l.addr≠D)(hf:∀i,D∉fp i):Fi prog w P h' F b8 σ fp where
 len:=fi.len
 there:=fun l hl'=>(fi.there l hl').keep fun o e=>hk _ o (hl l hl') e
 sl:=fun i v e=>cJ (fi.sl i v e) fun l y h1 h2 h3=>dW l y h1 (h2.keep fun o e=>hk _ o (hl l (dT h1)) e) (h3.mono (.refl F) fun b hb o e=>hk b o (fun q=>hf i (q▸hb)) e)
 emp:=fi.emp
 dj:=fi.dj
 off:=fi.off
 offL:=fi.offL
theorem Go.filled{s0:Shared}{D:Addr}{oD:Obj}(p:Pre prog w P b5 B A env b8 F σ fp s)(g0:Go prog w P b8 b F fp s F fp s0 σ)(hD:s.heap.get? D=none)(hD0:s0.heap.get? D=some oD)(g:Go prog w P b8 b F fp s0 c6 c7 c5 b9)
  (hk:∀b o,b≠D->c5.heap.get? b=some o->h'.get? b=some o) (hs:(D==sysModules)=false) (hc:pS prog w c6 h' D c):eH prog w P b8 b F fp s b9 (.c c) (.ref D) {c5 with heap:=h',toks:=tk}:=by
 have fD:c6 D=none:=by
  refine Classical.byContradiction fun q=>?_;rcases g.tr.fresh D q with h1|⟨i,h1⟩|h1
  ·cases e:F D with
   |none=>exact h1 e
   |some o=>rw[p.hF _ _ e] at hD;cases hD
  ·exact p.fi.off_new hD i h1
  ·rw[hD0] at h1;cases h1
 have nD:∀i,D∉c7 i:=fun i hi=>by
  rcases g.sub i D hi with h1|h1
  ·exact p.fi.off_new hD i h1
  ·rw[hD0] at h1;cases h1
 have gg:=g0.trans g;have lD:∀l∈b8,l.addr≠D:=fun l hl q=>by obtain⟨o,ho⟩:=(p.fi.there l hl).some;rw[q,hD] at ho;cases ho
 have ne:∀{a:Addr} {o:Obj},s.heap.get? a=some o->a≠D:=fun e q=>by rw[q,hD] at e;cases e
 refine⟨c6,c7,[D],⟨⟨gg.tr.mono,fun a o e n=>hk a o (ne e) (gg.tr.kept a o e n),fun a e=>?_,fun a o e=>hk a o (fun q=>by rw[q,fD] at e;cases e) (g.tr.fz a o e),gg.tr.fresh,by rw[gg.tr.rest]⟩,g.fi.keepBut hk lD nD,gg.sub⟩,⟨D,rfl,hs,hc,rfl⟩,fun a ha=>?_⟩
 ·refine gg.tr.alive a ?_
  cases e':c5.heap.get? a with
  |none=>rfl
  |some o=>
   by_cases q:a=D
   ·clear hD0 hs lD ne;subst q;obtain⟨o',ho',_⟩:=hc;rw[ho'] at e;cases e
   ·rw[hk a o q e'] at e;cases e
 ·clear hD0 hk hs hc lD ne;obtain rfl:=dJ.mp ha;exact(cD hD fD nD)
theorem RepKV.keys{KT:Type}{l:List (KT×Value)}{l':List (KT×D)}(r:RepKV prog w F l l'):l.map (·.1)=l'.map (·.1):=by
 induction r with
 |nil=>rfl
 |cons _ _ ih=>simp[ih]
theorem Fb{ks:List Str}:∀{keys:List (Option Expr)},pT ks keys=true->keys.all (·.isSome)=true/\ks.length=keys.length:=by
 induction ks with
 |nil=>intro keys h;rw[w0 h];exact⟨rfl,rfl⟩
 |cons k ks ih=>
  intro keys h;refine sX (sH h) fun n q r Q3 h2=>?_;clear h;subst Q3;exact⟨(ih h2).1,bU (· +1) (ih h2).2⟩
theorem Ym(kn:Known prog w P K b5 T mg mb B.lt){ks:List Str}{es:List Ex}{keys:List (Option Expr)}{Xs:List Expr}{pos:Pos}(hk:pT ks keys=true)(hl:ks.length=es.length)(hn:ks.Nodup)(h0:0<es.length/\es.length<=15)(hs:SndL prog w P b5 T B es Xs):
  Snd prog w P b5 T B (.dct ks es) (.Dict keys Xs pos):=by
 intro A env b8 F σ fp s v d7 p ev;apply bc;intro Z;refine aO ev fun Q0 e1 e=>?_;obtain⟨ds,b9⟩:=Q0;refine cK (eC e) fun Q0 Q1=>?_;clear ev;subst Q0;subst Q1;refine cK (Fb hk) fun k1 k2=>?_;have hlen:keys.length=es.length:=k2.symm.trans hl;have g0:Go prog w P b8 (!pureEs es) F fp s F fp {s with heap:=s.heap.push {cls:= .type "dict",data:= .dict #[]}} σ:=Go.keep (tk:=s.toks) p.hF p.fi fun _ _ e=>bM _ e;apply Z;clear Z;refine wpAny_Dict_walk (knd:=strKind prog w) k1 (hlen.trans hs.length) (fun q=>by rw[q] at hlen;exact absurd h0.1 (by rw[<-hlen];exact jL 0)) (by lia) (bX (La hs hk hl (p.next g0) e1) (fun vs c5 h1=>?_) fun _ _ x=>x);apply bc;intro Z;obtain⟨c6,c7,l9,g1,c1,r1⟩:=h1;have hD:c5.heap.get? s.heap.objs.size=some {cls:= .type "dict",data:= .dict #[]}:=g1.tr.kept _ _ (dQ _ rfl) fun _ ⟨i,hi⟩=>p.fi.off_new (cS _) i hi;have hkeys:l9.map (·.1)=ks:=by rw[r1.keys,List.map_fst_zip];rw[nP e1,hl];exact eQ _
 apply Z;clear Z;refine(cY l9 c1 (aCw _ (#[]) 0 hD (cD rfl rfl rfl) rfl (fun _ he=>by simp at he) .nil List.nodup_nil) (fun h' hm hsb=>?_));apply bc;intro Z;rw[merged_nil_of_nodup l9 (by rw[hkeys];exact hn)] at hm;refine aP (Heap.dictOf_iff.mp hm) fun o' ho' hd'=>?_;apply Z;clear Z;exact Go.filled p g0 (cS _) (dQ _ rfl) g1 (fun b o hb e=>(hsb.2 b hb).trans e) (kn.gl.above p.keeps) ⟨o',ho',l9,hd',r1⟩
theorem yR(kn:Known prog w P K b5 T mg mb B.lt){a:Ex}{X E:Expr}(he:jA B "dict" E=some X)(ha:Snd prog w P b5 T B a X):Snd prog w P b5 T B (.dictCopy a) E:=by intro A env b8 F σ fp s v d7 p ev;apply bc;intro Z;refine bE ev fun x b9 e1 ev=>yA ev fun l9 Q1 ev=>?_;rename_i y0;clear y0;subst Q1;refine aQ ev fun hl ev=>aO ev fun ps hps e=>cK (eC e) fun Q0 Q1=>?_;subst Q0;subst Q1;apply Z;clear Z;refine mY kn.gl p he (kn.free rfl) Qa (by decide) (.type _) (ha.d p e1 fun u c6 c7 c5 g1 r1=>?_);apply bc;intro Z;obtain⟨aa,oa,la,la',rfl,p1,p2,p3,p4,p5,p6⟩:=r1.dict_inv;obtain rfl:=aK (p5.symm.trans hps);rw[p6,bT] at hl;apply Z;clear Z;refine kt_call_dict p1 (Heap.dictOf_iff.mpr (aH oa (g1.tr.fz _ _ p2) p3)) (by rw[p4.length,fR];exact iU hl (by decide)) fun h' hm hsb=>?_;apply bc;intro Z;refine aP (Heap.dictOf_iff.mp hm) fun o' ho' hd'=>?_;apply Z;clear Z;exact g1.newC (tk:=c5.toks) (fun b o e=>(hsb.2 b (Nat.ne_of_lt (eN e))).trans (bM _ e)) (cS _) (kn.gl.above (p.next g1).keeps) ⟨o',ho',la,hd',p4⟩
end
noncomputable def eI:List Arg->Nat->Option Nat
 |[],_=>none
 | .e _::r,i=>(eI r i).map (· +1)
 | .r k::r,i=>if k=i then some 0 else(eI r i).map (· +1)
theorem jD{as:List Arg}:∀{i j:Nat},eI as i=some j->i∈refsOf as/\as[j]?=some (.r i):=by
 induction as with
 |nil=>intro i j h;exact(nn h).elim
 |cons a r ih=>
  intro i j h
  cases a with
  |e x=>
   refine aO h fun k hk Q2=>?_;subst Q2;exact ih hk
  |r k=>
   by_cases q:k=i
   ·rw[eI,aJ q] at h;rw[<-aK h,<-q];exact⟨.head _,rfl⟩
   ·rw[eI,aR q] at h;refine aO h fun k' hk Q2=>?_;clear h;subst Q2;exact⟨.tail _ (ih hk).1,(ih hk).2⟩
theorem Fc{as:List Arg}{i:Nat}(h:i∉refsOf as):eI as i=none:=by
 cases e:eI as i with
 |none=>rfl
 |some j=>exact absurd (jD e).1 h
theorem mM{as:List Arg}:∀{i j:Nat},(refsOf as).Nodup->as[j]?=some (.r i)->eI as i=some j:=by
 induction as with
 |nil=>intro i j _ h;exact(nn h).elim
 |cons a r ih=>
  intro i j nd h
  cases a with
  |e x=>
   cases j with
   |zero=>cases h
   |succ j=>rw[eI,ih nd h];rfl
  |r k=>
   have nd':=List.nodup_cons.mp (show(k::refsOf r).Nodup from nd)
   cases j with
   |zero=>cases h;rw[eI,aJ rfl]
   |succ j=>
    have ih:=ih nd'.2 h;rw[eI,aR (fun(e:k=i)=>nd'.1 (e▸(jD ih).1)),ih];rfl
theorem Sg.put_length{σ:Sg}{i:Nat}{v:V}:(σ.put i v).length=σ.length:=by unfold Sg.put;rw[List.length_set]
inductive Hy(as:List Arg)(vs m7:List V)(σ d7:Sg):Prop
 |mk:vs.length=as.length->m7.length=as.length->d7.length=σ.length->(∀i,i<σ.length->d7.get i=((eI as i).map (m7[·]?)).getD (σ.get i))->Hy as vs m7 σ d7
theorem Qi{as:List Arg}:∀{vs m7:List V} {σ d7:Sg},tW as vs m7 σ=some d7->(refsOf as).Nodup->Hy as vs m7 σ d7:=by
 induction as with
 |nil=>
  intro vs m7 σ d7 h _;refine aQ h fun Q0 h3=>?_;obtain⟨h1,h2⟩:=Q0;rw[<-aK h3];exact⟨h1,h2,rfl,fun i _=>rfl⟩
 |cons x r ih=>
  intro vs m7 σ d7 h nd
  cases vs with
  |nil=>exact(nn h).elim
  |cons v vs=>
   cases m7 with
   |nil=>exact(nn h).elim
   |cons v' m7=>
    cases x with
    |e x=>
     obtain⟨h1,h2,h3,h4⟩:=ih h nd;refine⟨bU (· +1) h1,bU (· +1) h2,h3,fun i hi=>?_⟩;rw[h4 i hi,eI]
     cases eI r i<;>rfl
    |r k=>
     have nd':=List.nodup_cons.mp (show(k::refsOf r).Nodup from nd);obtain⟨h1,h2,h3,h4⟩:=ih h nd'.2;rw[Sg.put_length] at h3 h4;refine⟨bU (· +1) h1,bU (· +1) h2,h3,fun i hi=>?_⟩;rw[h4 i hi,eI];by_cases e:k=i
     ·subst e;rw[aJ rfl,Fc nd'.1,Sg.get_put,aJ ⟨rfl,hi⟩];rfl
     ·rw[aR e,Sg.get_put,aR fun q=>e q.1]
      cases eI r i<;>rfl
section
variable {prog:Program}{w:World}{P:PS}{K:Frag}{b5:Heap}{T:Tab}{mg mb:Str->Option Value}{B:Bk}{A:Around}{env:Env}{b8:List bF}{b b':Bool}{F c6 d5:Fz}{fp c7 d4:Nat->List Addr}{s c5 c9:Shared}{σ b9 c8 d7:Sg}{h h':Heap}{pl:Pl}{c c':C}{a:Addr}{tk:Nat}
class inductive ArgsAt (prog:Program) (w:World) (b8:List bF) (F:Fz) (h:Heap) (σ:Sg):List Arg->List Value->List V->Prop
 |nil:ArgsAt prog w b8 F h σ [] [] []
 |e {x:Ex} {as:List Arg} {y:Value} {ys:List Value} {d:D} {vs:List V}:Rep prog w F y d->ArgsAt prog w b8 F h σ as ys vs->ArgsAt prog w b8 F h σ (.e x::as) (y::ys) (.d d::vs)
 |r {i:Nat} {l:bF} {as:List Arg} {y:Value} {ys:List Value} {v:V} {vs:List V}:b8[i]?=some l->l.At h y->σ.get i=some v->ArgsAt prog w b8 F h σ as ys vs->ArgsAt prog w b8 F h σ (.r i::as) (y::ys) (v::vs)
inductive Qj(prog:Program)(w:World)(P:PS)(b8:List bF)(F:Fz)(fp:Nat->List Addr)(s:Shared)(d7:Sg)(as:List Arg)(vs:List V)(ys:List Value)(s':Shared):Prop
 |mk (F':Fz) (e9:Nat->List Addr):Go prog w P b8 false F fp s F' e9 s' d7->ArgsAt prog w b8 F' s'.heap d7 as ys vs->Qj prog w P b8 F fp s d7 as vs ys s'
def pE(prog:Program)(w:World)(P:PS)(b5:Heap)(T:Tab)(B:Bk)(as:List Arg)(Es:List Expr):Prop:=∀A env b8 F σ fp s vs d7 pos,Pre prog w P b5 B A env b8 F σ fp s->pR T as σ=some (vs,d7)->
 wpAny (model prog w) A (spliced (backTo pos (starEach Es env))) (Qj prog w P b8 F fp s d7 as vs) NoE s
theorem Lb:pE prog w P b5 T B [] []:=by intro A env b8 F σ fp s vs d7 pos p ev;refine aU ev fun Q0 Q1=>?_;clear ev;subst Q0;subst Q1;exact args_nil ⟨F,fp,p.go,.nil⟩
theorem Yn{a:Ex}{r:List Arg}{X:Expr}{Xs:List Expr}(hp:Expr.plain X=true)(hpu:pureE a=true)(ha:Snd prog w P b5 T B a X)(hr:pE prog w P b5 T B r Xs):pE prog w P b5 T B (.e a::r) (X::Xs):=by intro A env b8 F σ fp s vs d7 pos p ev;apply bc;intro Z;refine bE ev fun x b9 e1 ev=>aO ev fun Q0 e2 e=>?_;obtain⟨ys,c8⟩:=Q0;refine cK (eC e) fun Q0 Q1=>?_;rename_i y0;clear ev e y0;subst Q0;subst Q1;apply Z;clear Z;refine args_cons (ha.d p e1 fun u c6 c7 c5 g1 r1=>bX (hr A env b8 c6 b9 c7 c5 _ _ pos (p.next g1) e2) (fun us c9 h2=>?_) fun _ _ x=>x) (bJ hp);apply bc;intro Z;rw[hpu] at g1;obtain⟨d5,d4,g2,r2⟩:=h2;apply Z;clear Z;exact⟨d5,d4,g1.trans g2,.e (r1.mono g2.tr.mono) r2⟩
theorem Yo{i:Nat}{r:List Arg}{x:Str}{q:Pos}{Xs:List Expr}(hn:okN B i x=true)(hr:pE prog w P b5 T B r Xs):pE prog w P b5 T B (.r i::r) (.Name x q::Xs):=by intro A env b8 F σ fp s vs d7 pos p ev;apply bc;intro Z;refine aQ ev fun e0 ev=>bG ev fun ws b9 e1 ev=>aO ev fun v e2 e=>cK (eC e) fun Q0 Q1=>?_;rename_i y0 y1;clear ev y0 y1;subst Q0;subst Q1;refine X1 (wU.mp e0) fun v0 hv0=>?_;apply Z;clear Z;refine args_cons (load p hn hv0 fun l y hl hy _=>bX (hr A env b8 F σ fp s _ _ pos p e1) (fun us c9 h2=>?_) fun _ _ x=>x) rfl;apply bc;intro Z;obtain⟨d5,d4,g2,r2⟩:=h2;apply Z;clear Z;exact⟨d5,d4,g2,.r hl (hy.keep fun o e=>g2.keepAll _ o e) e2 r2⟩
inductive Qk(prog:Program)(w:World)(b8:List bF)(F:Fz)(h:Heap)(σ:Sg)(o:Option Arg)(y:Value)(v:V):Prop
 |d (d:D):v= .d d->Rep prog w F y d->(∀i,o≠some (.r i))->Qk prog w b8 F h σ o y v
 |r (i:Nat) (l:bF):o=some (.r i)->b8[i]?=some l->l.At h y->σ.get i=some v->Qk prog w b8 F h σ o y v
theorem ArgsAt.get{as:List Arg}{ys:List Value}{vs:List V}(x:ArgsAt prog w b8 F h σ as ys vs):ys.length=as.length/\vs.length=as.length/\∀(j:Nat) (v:V),vs[j]?=some v->
  ∃y,ys[j]?=some y/\Qk prog w b8 F h σ as[j]? y v:=by
 induction x with
 |nil=>exact(cD rfl rfl (fun j v e=>(nn e).elim))
 |e hr _ ih=>
  apply bc;intro Z;refine cZ ih fun h1 h2 h3=>?_;apply Z;clear Z;refine(cD (bU (· +1) h1) (bU (· +1) h2) (fun j v e=>?_))
  cases j with
  |zero=>exact(aH _ rfl (.d _ (aK e).symm hr fun i q=>nomatch q))
  |succ j=>exact h3 j v e
 |r hl hy hv _ ih=>
  apply bc;intro Z;refine cZ ih fun h1 h2 h3=>?_;apply Z;clear Z;refine(cD (bU (· +1) h1) (bU (· +1) h2) (fun j v e=>?_))
  cases j with
  |zero=>rw[aK e] at hv;exact(aH _ rfl (.r _ _ rfl hl hy hv))
  |succ j=>exact h3 j v e
noncomputable def Yp(o:Option Arg):Option Nat:=o.bind fun a=>match a with| .r i=>some i| .e _=>none
def fJ(as:List Arg)(fp:Nat->List Addr)(j:Nat):List Addr:=((Yp as[j]?).map fp).getD []
theorem Bf{o:Option Arg}{i:Nat}(h:Yp o=some i):o=some (.r i):=by
 refine bN h fun a Q1 h=>?_;rename_i y0;clear y0;subst Q1
 cases a with
 |r k=>rw[aK h]
 |e x=>exact(nn h).elim
theorem uH{as:List Arg}{j:Nat}{a:Addr}(hm:a∈fJ as fp j):∃i,as[j]?=some (.r i)/\a∈fp i:=by
 unfold fJ at hm
 cases e:Yp as[j]? with
 |none=>rw[e] at hm;cases hm
 |some i=>rw[e] at hm;exact(aH i (Bf e) hm)
theorem gW{as:List Arg}{j:Nat}{a:Addr}(hm:a∈fJ as fp j){P:Prop}(f:∀i,as[j]?=some (.r i)->a∈fp i->P):P:=aP (uH hm) f
theorem Bg{as:List Arg}{j i:Nat}(e:as[j]?=some (.r i)):fJ as fp j=fp i:=by unfold fJ;rw[e];rfl
theorem Bh{as:List Arg}{j:Nat}(e:∀i,as[j]?≠some (.r i)):fJ as fp j=[]:=by
 unfold fJ
 cases q:Yp as[j]? with
 |none=>rfl
 |some i=>exact absurd (Bf q) (e i)
theorem ArgsAt.args{as:List Arg}{ys:List Value}{vs:List V}(fi:Fi prog w P h F b8 σ fp)(nd:(refsOf as).Nodup)(x:ArgsAt prog w b8 F h σ as ys vs):Args prog w P F h ys vs (fJ as fp):=by
 refine cZ x.get fun h1 h2 h3=>?_;refine⟨h1.trans h2.symm,fun j v e=>?_,fun j e=>?_,fun j k a hj hk=>?_,fun j a hm=>?_⟩
 ·refine aP (h3 j v e) fun y hy h4=>?_;refine(aH y hy ?_)
  cases h4 with
  |d d e hr hn=>rw[Bh hn,e];exact⟨hr,rfl⟩
  |r i l e1 e2 e3 e4=>
   rw[Bg e1];refine cJ (fi.sl i v e4) fun l' y' q1 q2 q3=>?_;rw[e3.unique (aK (q1.symm.trans e2)▸q2)];exact q3
 ·exact Bh fun i q=>by rw[List.getElem?_eq_none (by rw[<-h2];exact List.getElem?_eq_none_iff.mp e)] at q;exact nn q
 ·refine gW hj fun i e1 m1=>gW hk fun i' e2 m2=>?_;obtain rfl:=fi.dj i i' a m1 m2;exact aK ((mM nd e1).symm.trans (mM nd e2))
 ·refine gW hm fun i e1 m1=>?_;exact(fi.off i a m1).1
def uI(as:List Arg)(fp fpA:Nat->List Addr)(i:Nat):List Addr:=((eI as i).map fpA).getD (fp i)
theorem kL{as:List Arg}{fpA:Nat->List Addr}{i:Nat}{a:Addr}(h:a∈uI as fp fpA i):(eI as i=none/\a∈fp i)\/∃j,eI as i=some j/\a∈fpA j:=by
 unfold uI at h
 cases e:eI as i with
 |none=>rw[e] at h;exact .inl ⟨rfl,h⟩
 |some j=>rw[e] at h;exact .inr (aH j rfl h)
theorem Go.back{as:List Arg}{ys:List Value}{vs m7:List V}{fpA:Nat->List Addr}{F':Fz}{s':Shared}(hF:∀a o,F a=some o->s.heap.get? a=some o)(fi:Fi prog w P s.heap F b8 σ fp)(nd:(refsOf as).Nodup)(x:ArgsAt prog w b8 F s.heap σ as ys vs)
  (hr:tW as vs m7 σ=some d7) (t:Tr b F s (Own (fJ as fp)) F' s') (a':Args prog w P F' s'.heap ys m7 fpA) (sub:∀i a,a∈fpA i->a∈fJ as fp i\/s.heap.get? a=none):
  Go prog w P b8 b F fp s F' (uI as fp fpA) s' d7:=by
 apply bc;intro Z;obtain⟨r1,r2,r3,r4⟩:=Qi hr nd;refine cZ x.get fun x1 x2 x3=>?_;have own:∀a,Own (fJ as fp) a->Own fp a:=fun a ⟨j,hj⟩=>(uH hj).elim fun i h=>⟨i,h.2⟩;have ofp:∀i a,a∈fp i->eI as i=none-> ¬Own (fJ as fp) a:=fun i a hi hp ⟨j,hj⟩=>by refine gW hj fun i' e' hi'=>?_;rw[fi.dj i i' a hi hi',mM nd e'] at hp;exact nn hp.symm
 have kept:∀a o,s.heap.get? a=some o-> ¬Own (fJ as fp) a->s'.heap.get? a=some o:=fun a o e n=>t.kept a o e fun _=>n;have offA:∀l∈b8,¬Own (fJ as fp) l.addr:=fun l hl ⟨j,hj⟩=>by refine gW hj fun i _ hi=>?_;exact(fi.off i _ hi).2 l hl rfl
 have keptL:∀l∈b8,∀o,s.heap.get? l.addr=some o->s'.heap.get? l.addr=some o:=fun l hl o e=>kept _ _ e (offA l hl);have at4:∀{i j:Nat},eI as i=some j->∃y v l,ys[j]?=some y/\b8[i]?=some l/\l.At s.heap y/\σ.get i=some v:=fun{i j} e=>by
  have ej:=(jD e).2;have hj:j<vs.length:=by rw[r1];exact(hZ.mp ej).1
  refine aP (x3 j vs[j] (fL hj)) fun y hy h4=>?_
  cases h4 with
  |d _ _ _ hn=>exact absurd ej (hn i)
  |r i' l e1 e2 e3 e4=>
   obtain rfl:=Arg.r_inj (aK (ej.symm.trans e1));exact(wF y _ l hy e2 e3 e4)
 have σget:∀i,d7.get i=((eI as i).map (m7[·]?)).getD (σ.get i):=fun i=>by
  by_cases hi:i<σ.length
  ·exact r4 i hi
  ·have out:∀{τ:Sg},τ.length=σ.length->τ.get i=none:=fun e=>by
    unfold Sg.get;rw[List.getElem?_eq_none (by rw[e];exact Nat.not_lt.mp hi)];rfl
   have h2:eI as i=none:=by
    cases e:eI as i with
    |none=>rfl
    |some j=>refine Ad (at4 e) fun _ _ _ _ _ _ e4=>?_;exact absurd (Sg.lt_of_get e4) hi
   rw[h2,out r3];exact(out rfl).symm
 have newA:∀{j a},a∈fpA j->Own (fJ as fp) a\/s.heap.get? a=none:=fun{j a} h=>(sub j a h).imp (fun h=>⟨j,h⟩) id;have cross:∀{i k j:Nat} {a:Addr},a∈fpA j->eI as k=none->a∈fp k->False:=fun{i k j a} hi ek hk=>(newA hi).elim (ofp k a hk ek) fun h1=>by refine X1 (fi.own_there hk) fun o ho=>?_;rw[ho] at h1;exact nn h1.symm
 apply Z;clear Z;refine⟨⟨t.mono,fun a o e n=>t.kept a o e fun hb m=>n hb (own a m),t.alive,t.fz,fun a h=>(t.fresh a h).imp id fun q=>q.imp (own a) id,t.rest⟩,⟨by rw[r3];exact fi.len,fun l hl=>(fi.there l hl).keep (keptL l hl),fun i v e=>?_,fun i e=>?_,fun i k a hi hk=>?_,fun i a hi=>?_,fun l hl=>?_⟩,fun i a hi=>?_⟩
 ·rw[σget] at e;unfold uI
  cases ep:eI as i with
  |none=>
   apply bc;intro Z;rw[ep] at e;refine cJ (fi.sl i v e) fun l y h1 h2 h3=>?_;apply Z;clear Z;exact(dW l y h1 (h2.keep (keptL l (dT h1))) (h3.mono t.mono fun a ha o e=>kept a o e (ofp i a ha ep)))
  |some j=>
   apply bc;intro Z;rw[ep] at e;refine aP (a'.at_ j v e) fun y h1 h2=>Ad (at4 ep) fun y' _ l h3 e2 e3 _=>?_;rw[aK (h3.symm.trans h1)] at e3;apply Z;clear Z;exact(dW l y e2 (e3.keep (keptL l (dT e2))) h2)
 ·rw[σget] at e;unfold uI
  cases ep:eI as i with
  |none=>rw[ep] at e;exact fi.emp i e
  |some j=>rw[ep] at e;exact a'.emp j e
 ·rcases kL hi with⟨ei,hi⟩|⟨j,ei,hi⟩
  ·rcases kL hk with⟨ek,hk⟩|⟨j',ek,hk⟩
   ·exact fi.dj i k a hi hk
   ·exact(cross (i:=i) hk ei hi).elim
  ·rcases kL hk with⟨ek,hk⟩|⟨j',ek,hk⟩
   ·exact(cross (i:=i) hi ek hk).elim
   ·obtain rfl:=a'.dj j j' a hi hk;exact Arg.r_inj (aK ((jD ei).2.symm.trans (jD ek).2))
 ·rcases kL hi with⟨ei,hi⟩|⟨j,ei,hi⟩
  ·refine⟨Classical.byContradiction fun q=>?_,(fi.off i a hi).2⟩;rcases t.fresh a q with h1|h1|h1
   ·exact h1 (fi.off i a hi).1
   ·exact ofp i a hi ei h1
   ·refine X1 (fi.own_there hi) fun o ho=>?_;rw[ho] at h1;exact nn h1.symm
  ·refine⟨a'.off j a hi,fun l hl q=>(newA hi).elim (fun h=>offA l hl (q▸h)) fun h1=>?_⟩;refine X1 ((fi.there l hl).some) fun o ho=>?_;rw[q,h1] at ho;exact nn ho
 ·refine Classical.byContradiction fun q=>?_;rcases t.fresh _ q with h1|h1|h1
  ·exact h1 (fi.offL l hl)
  ·exact offA l hl h1
  ·refine X1 ((fi.there l hl).some) fun o ho=>?_;rw[ho] at h1;exact nn h1.symm
 ·rcases kL hi with⟨ei,hi⟩|⟨j,ei,hi⟩
  ·exact .inl hi
  ·exact(sub j a hi).imp (fun h1=>by rw[Bg (jD ei).2] at h1;exact h1) id
theorem Hz(kn:Known prog w P K b5 T mg mb B.lt){f:Nat}(hf:4*(f+1)<=B.lt){as:List Arg}{ys:List Value}{vs m7:List V}{r:D}(p:Pre prog w P b5 B A env b8 F σ fp s)(nd:(refsOf as).Nodup)(x:ArgsAt prog w b8 F s.heap σ as ys vs)
  (e:T.fn f vs=some (r,m7)) (hr:tW as vs m7 σ=some d7):wpAny (model prog w) A (call (.ref (P.fnAddr f)) ys) (eH prog w P b8 (!(lE f||(refsOf as).isEmpty)) F fp s d7 (.d r)) NoE s:=by
 refine wpAny_call (codeAny_mono (kn.fn f hf A F s ys vs (fJ as fp) r m7 (p.good.le hf) p.hb p.hF (x.args p.fi nd) e) fun res s' h=>?_);obtain⟨y,F',e9,rfl,h1,h2,h3,h4⟩:=h;have h1':Tr (!(lE f||(refsOf as).isEmpty)) F s (Own (fJ as fp)) F' s':=by
  by_cases hr0:(refsOf as).isEmpty=true
  ·refine⟨h1.mono,fun a o e n=>h1.kept a o e fun _ ⟨j,hj⟩=>?_,h1.alive,h1.fz,h1.fresh,h1.rest⟩;refine gW hj fun i hi _=>?_;have hm:=(jD (mM nd hi)).1;rw[List.isEmpty_iff.mp hr0] at hm;cases hm
  ·have e0:(refsOf as).isEmpty=false:=by simpa using hr0
   rw[e0,Bool.or_false];exact h1
 exact(Go.back p.hF p.fi nd x hr h1' h3 h4).postE h2
theorem Ql{f:Nat}{as:List Arg}(h:mK as=true):(!pureE (.call f as))= !(lE f||(refsOf as).isEmpty):=bU (! ·) ((bU ((lE f||(refsOf as).isEmpty)&& ·) h).trans (Bool.and_true _))
theorem Qm(kn:Known prog w P K b5 T mg mb B.lt){f:Nat}{as:List Arg}{x:Str}{q pos:Pos}{Xs:List Expr}(hg:okG B x=true)(hx:P.fnName.lookup x=some f)(hf:4*(f+1)<=B.lt)(nd:(refsOf as).Nodup)(h0:0<Xs.length)(hpl:Xs.all Expr.plain=true)(hpu:mK as=true)
  (ha:pE prog w P b5 T B as Xs):Snd prog w P b5 T B (.call f as) (.Call (.Name x q) Xs [] pos):=by
 intro A env b8 F σ fp s v d7 p ev;apply bc;intro Z;refine bG ev fun vs b9 e1 ev=>bG ev fun r m7 e2 ev=>aO ev fun c8 e3 e=>cK (eC e) fun Q0 Q1=>?_;rename_i y0 y1;clear ev e y0 y1;subst Q0;subst Q1;refine zY (kn.ps.fn x f hx) fun m1 o fd ho hd=>?_;apply Z;clear Z
 cases Xs with
 |nil=>exact absurd h0 (jL 0)
 |cons X Xr=>
  rw[Ql hpu];refine Call_ (Pb kn.gl p hg m1 (PyProof.Rows.callWith_def hd (bX (ha A env b8 F σ fp s _ _ pos p e1) (fun ys c5 h1=>?_) fun _ _ x=>x) (bJ (fB hpl).1)));apply bc;intro Z;obtain⟨c6,c7,g1,r1⟩:=h1;apply Z;clear Z;exact⟨(p.next g1).keeps _ _ ho,bX (Hz kn hf (p.next g1) nd r1 e2 e3) (fun y c9 h2=>h2.after (g1.up fun q=>nomatch q)) fun _ _ x=>x⟩
theorem plain_all{es:List Expr}{pos:Pos}(h:es.all Expr.plain=true):(backTo pos (starEach es env)).all (fun x=> !x.1)=true:=by
 induction es with
 |nil=>rfl
 |cons e r ih=>
  refine aS h fun h1 h2=>?_;rw[bJ h1];exact ih h2
theorem Bi{o:Expr}{name:Str}{apos pos:Pos}{args:List Expr}{Q:Value->Shared->Prop}{E:Value->Shared->Prop}
  (hbase:attributeBase o name env (eval o env)=eval o env)
  (hpl:args.all Expr.plain=true) (hn:args.length<30) (hline:(apos.endLine==pos.line)=true)
  (h:wpAny (model prog w) A (eval o env) (fun ov c5=>∀pl,wpAny (model prog w) A (getMethod ov name pl) (fun r c9=>wpAny (model prog w) A (callWith pos r.1 r.2 (backTo pos (starEach args env)) []) Q E c9) E c5) E s):
  wpAny (model prog w) A (eval (.Call (.Attribute o name apos) args [] pos) env) Q E s:=by
 rw[arm_eval_Call,hbase];refine aG (bX h (fun ov c5 d6=>?_) fun _ _ e=>e);refine aG (wpAny_standAt ?_);have hform:methodCallForm (args.length+([]:List Keyword).length) (backTo pos (starEach args env)) (backToKw pos (keywordEach [] env))=true:=by show((backTo pos (starEach args env)).all (fun x=> !x.1)&&(backToKw pos (keywordEach [] env)).all (fun x=>x.1.isSome)&&decide (args.length+([]:List Keyword).length+(if([]:List Keyword).isEmpty then 0 else 1)<30))=true;rw[plain_all hpl];have hk:(backToKw pos (keywordEach [] env)).all (fun x=>x.1.isSome)=true:=rfl;rw[hk];exact iX (show args.length+0+0<30 from hn)
 have hpos:methodCallPos true o env apos pos=pure pos:=by unfold methodCallPos;rw[hline];rfl
 unfold methodCall;rw[hform];refine aG (jN ?_);show wpAny _ _ (getMethod ov name _) _ _ _;refine bX (d6 _) (fun r c9 i9=>?_) fun _ _ e=>e;exact aG (wpAny_of_eq hpos i9)
theorem mN{f:Value}{es:List Expr}{pos:Pos}{Q:PySem.Args->Shared->Prop}{E:Value->Shared->Prop}(hpl:es.all Expr.plain=true)(h:wpAny (model prog w) A (spliced (backTo pos (starEach es env))) (fun vs c5=>Q ⟨vs,[]⟩ c5) E s):
  wpAny (model prog w) A (evalArgs f true (backTo pos (starEach es env)) []) Q E s:=by
 cases es with
 |nil=>
  unfold evalArgs;show wpAny (model prog w) A (spliced (backTo pos (starEach [] env)) >>= _) Q E s;refine aG (bX h (fun vs c5 h1=>?_) fun _ _ e=>e);refine aG (aY ?_);refine jN ?_;exact aG (aY (aG (aY (aY h1))))
 |cons e r=>
  have hp:Expr.plain e=true:=(fB hpl).1;rw[bJ hp] at h ⊢;exact Calls.evalArgs_plain h
theorem Lc(kn:Known prog w P K b5 T mg mb B.lt)(p:Pre prog w P b5 B A env b8 F σ fp s){cl:Nat}{n4:List (Nat×AV)}{y:Value}{fpy:List Addr}{m f:Nat}{plq:Sem Bool}{Q:Value×List Value->Shared->Prop}{E:Value->Shared->Prop}
  (r:hO prog w P F s.heap y (.inst cl n4) fpy) (e:T.me m cl=some f) (h:Q (.ref (P.fnAddr f),[y]) s):wpAny (model prog w) A (getMethod y (P.methName m) plq) Q E s:=by
 apply bc;intro Z;obtain⟨yy,dd,es,n,n5,hi,rfl,hy,hd,ra,rfl,nd⟩:=r;refine Dx (kn.ps.inst cl hi) fun i1 i2 i3 i4 i5=>Dx (kn.ps.me m cl f e) fun m1 m2 m3 m4 m5=>?_;apply Z;clear Z;refine method_fn (kn.gl.inK.keeps p.keeps) (od:=some (dictOf es n)) ⟨p.hF _ _ hy,rfl,rfl,hd⟩ (plainGet_of (i1 (P.methName m))).1 (plainGet_of (i1 (P.methName m))).2 m1 (cX.mp m2) ?_ h;show(lookIn (P.methName m) (dictOf es n)).map _=_;rw[lookIn_dict,ra.none m4];rfl
theorem Qn(kn:Known prog w P K b5 T mg mb B.lt){m i:Nat}{as:List Arg}{x:Str}{q ap pos:Pos}{Xs:List Expr}(hn:okN B i x=true)(hf:∀c f,P.me m c=some f->c<2->4*(f+1)<=B.lt)(nd:(i::refsOf as).Nodup)(hlen:Xs.length<25)(hl:(ap.endLine==pos.line)=true)(hpl:Xs.all Expr.plain=true)(hpu:mK as=true)
  (ha:pE prog w P b5 T B as Xs):Snd prog w P b5 T B (.meth m i as) (.Call (.Attribute (.Name x q) (P.methName m) ap) Xs [] pos):=by
 intro A env b8 F σ fp s v d7 p ev;apply bc;intro Z;refine sZ ev fun c0 at0 e0 ev=>bN ev fun f ef ev=>bG ev fun vs b9 e1 ev=>bN ev fun v1 ev1 ev=>bG ev fun r m7 e2 ev=>aO ev fun c8 e3 e=>cK (eC e) fun Q0 Q1=>?_;rename_i y0 y1 y2 y3 y4;clear ev y0 y1 y2 y3 y4;subst Q0;subst Q1;apply Z;clear Z;refine Bi rfl hpl (Nat.lt_trans hlen (by decide)) hl (load p hn e0 fun l y hll hy hr plq=>?_);apply bc;intro Z;have hc2:c0<2:=by obtain⟨yy,dd,es,n,n5,hi,_⟩:=hr;exact kn.ps.two c0 hi
 obtain⟨m1,m2,m3,m4,o,fd,ho,hd⟩:=kn.ps.me m c0 f ef;apply Z;clear Z;refine Lc kn p hr ef (PySem.Calls.callWith_function (o:=o) (fd:=fd) (mN hpl (bX (ha A env b8 F σ fp s _ _ pos p e1) (fun ys c5 h1=>?_) fun _ _ x=>x)));apply bc;intro Z;obtain⟨c6,c7,g1,r1⟩:=h1;have x1:ArgsAt prog w b8 c6 c5.heap b9 (.r i::as) (y::ys) (v1::vs):= .r hll (hy.keep fun o e=>g1.keepAll _ o e) ev1 r1;have up:(!(lE f||(refsOf (.r i::as)).isEmpty))=true->(!pureE (.meth m i as))=true:=fun q=>by
  show(!(Ak m&&mK as))=true
  cases hm:Ak m with
  |false=>rfl
  |true=>rw[m3 hm] at q;cases q
 apply Z;clear Z;exact⟨⟨(p.next g1).keeps _ _ ho,hd⟩,bX (Hz (as:= .r i::as) kn (hf c0 f (kn.ps.tme▸ef) hc2) (p.next g1) nd x1 e2 e3) (fun z c9 h2=>(h2.up up).after (g1.up fun q=>nomatch q)) fun _ _ x=>x⟩
theorem Ld(C:Addr)(rest:List Value):(Code.builtin "type.__call__" ⟨.ref C::rest,[]⟩).weight<=4:=by
 have:(Code.builtin "type.__call__" ⟨.ref C::rest,[]⟩).weight=1:=by kernel_rfl
 exact Nat.succ_pos _
theorem Qo(C:Addr)(rest:List Value):(Code.builtin "type.__call__" ⟨.ref C::rest,[]⟩).cUnits<=16:=by
 have:(Code.builtin "type.__call__" ⟨.ref C::rest,[]⟩).cUnits=1:=by kernel_rfl
 exact Nat.succ_pos _
theorem Good.tc{k:Nat}(g:Good (k+4) A)(C:Addr)(rest:List Value):Good k (A.under (.builtin "type.__call__" ⟨.ref C::rest,[]⟩)):=by have h1:=g.depth;have h2:=g.units;have h3:=Ld C rest;have h4:=Qo C rest;have e1:(A.under (.builtin "type.__call__" ⟨.ref C::rest,[]⟩)).depth=A.depth+(Code.builtin "type.__call__" ⟨.ref C::rest,[]⟩).weight:=rfl;have e2:(A.under (.builtin "type.__call__" ⟨.ref C::rest,[]⟩)).units=A.units+(Code.builtin "type.__call__" ⟨.ref C::rest,[]⟩).cUnits:=rfl;exact⟨g.handled,by lia,by lia⟩
theorem Fz.none_of(hF:∀a o,F a=some o->h.get? a=some o){a:Addr}(ha:h.get? a=none):F a=none:=by
 cases e:F a with
 |none=>rfl
 |some o=>exact dL (hF a o e) ha
theorem aBE(kn:Known prog w P K b5 T mg mb B.lt){c f:Nat}(hi:T.ini c=some f)(hmk:makesIn K (P.clsAddr c)=true)(hf:4*(f+2)<=B.lt){ys:List Value}{ds:List D}{x0:V}{vr:List V}(p:Pre prog w P b5 B A env b8 F σ fp s)(ra:aM prog w F ys ds)
  (e:T.fn f (.inst c []::ds.map .d)=some (.none,x0::vr)):wpAny (model prog w) A (call (.ref (P.clsAddr c)) ys) (eH prog w P b8 true F fp s σ x0) NoE s:=by
 refine cK (kn.ps.ini c f hi) fun m1 m2=>?_;have X:K.In s.heap:=kn.gl.inK.keeps p.keeps;obtain⟨h,gg,dd,tk,os⟩:=s;refine wpAny_call (make_core (makes_of X hmk) (looks_findIn X m1) (fun self=>bind_fn X self (cX.mp m2)) (.inl rfl) ?_);have k:∀b o,h.get? b=some o->((h.push emptyDict).push (instObj (P.clsAddr c) h.objs.size)).get? b=some o:=fun b o e=>bM _ (bM _ e);have hx:((h.push emptyDict).push (instObj (P.clsAddr c) h.objs.size)).get? (h.objs.size+1)=some (instObj (P.clsAddr c) h.objs.size):=by
  have:=dQ (h:=h.push emptyDict) (o:=instObj (P.clsAddr c) h.objs.size) rfl
  rwa [Heap.size_push] at this
 have hd:((h.push emptyDict).push (instObj (P.clsAddr c) h.objs.size)).get? h.objs.size=some emptyDict:=bM _ (dQ _ rfl);have nd:h.get? h.objs.size=none:=cS h;have nx:h.get? (h.objs.size+1)=none:=Heap.get?_none_of_le (Nat.le_succ _);have fx:F (h.objs.size+1)=none:=Fz.none_of p.hF nx;have fd:F h.objs.size=none:=Fz.none_of p.hF nd;have le:=F.add_le (o:=instObj (P.clsAddr c) h.objs.size) fx;have fd':(F.add (h.objs.size+1) (instObj (P.clsAddr c) h.objs.size)) h.objs.size=none:=Fz.add_none fd (Nat.ne_of_lt (Nat.lt_succ_self _));have ar:Args prog w P (F.add (h.objs.size+1) (instObj (P.clsAddr c) h.objs.size)) ((h.push emptyDict).push (instObj (P.clsAddr c) h.objs.size)) (.ref (h.objs.size+1)::ys) (.inst c []::ds.map .d) (fun j=>if j=0 then[h.objs.size] else[]):=by
  refine⟨bU (· +1) (ra.length.trans (bT _).symm),fun i v e=>?_,fun i e=>?_,fun i j a hi hj=>?_,fun i a hi=>?_⟩
  ·cases i with
   |zero=>
    rw[<-aK e];exact(aH _ rfl ⟨_,h.objs.size,[],0,[],by rw[<-kn.ps.tini,hi];exact nofun,rfl,F.add_self _ _,hd,.nil,rfl,List.nodup_cons.mpr ⟨List.not_mem_nil,List.nodup_nil⟩⟩)
   |succ i=>
    refine aO ((eW ..).symm.trans (show(ds.map V.d)[i]?=some v from e)) fun d hd Q2=>?_;subst Q2;refine aP (ra.get hd) fun y hy hr=>?_;exact(cY y hy (hr.mono le) rfl)
  ·cases i with
   |zero=>exact dL rfl e
   |succ i=>rfl
  ·rcases fS hi with⟨q1,_⟩|⟨_,hi⟩
   ·rcases fS hj with⟨q2,_⟩|⟨_,hj⟩
    ·rw[q1,q2]
    ·cases hj
   ·cases hi
  ·rcases fS hi with⟨_,hi⟩|⟨_,hi⟩
   ·rw[dJ.mp hi];exact fd'
   ·cases hi
 have gd:Good (4*(f+1)) (A.under (.builtin "type.__call__" ⟨.ref (P.clsAddr c)::ys,[]⟩)):=(p.good.le (by omega:4*(f+1)+4<=B.lt)).tc _ _;refine codeAny_mono (kn.fn f (iU (Nat.mul_le_mul_left 4 (Nat.le_succ _)) hf) _ _ _ _ _ _ _ _ gd (fun a o e=>le _ _ (p.hb a o e)) (Fz.add_fz hx fun a o e=>k a o (p.hF a o e)) ar e) fun res s' hres=>?_;obtain⟨y,F',e9,rfl,h1,h2,h3,h4⟩:=hres;obtain rfl:=h2.inv;refine⟨rfl,?_⟩;refine aP (h3.at_ 0 x0 rfl) fun y0 e0 r0=>?_;rw[<-aK e0] at r0;have own0:∀{a},Own (fun j=>if j=0 then[h.objs.size] else[]) a->a=h.objs.size:=fun⟨j,hj⟩=>by
  rcases fS hj with⟨_,hj⟩|⟨_,hj⟩
  ·exact dJ.mp hj
  ·cases hj
 have kept:∀a o,h.get? a=some o->s'.heap.get? a=some o:=fun a o e=>h1.kept a o (k a o e) fun _ q=>dL e (own0 q▸nd);have fresh:∀a,F' a≠none->F a≠none\/h.get? a=none:=fun a q=>by
  rcases h1.fresh a q with q1|q1|q1
  ·exact(Fz.add_or q1).imp id fun q=>by rw[q];exact nx
  ·exact .inr (own0 q1▸nd)
  ·exact .inr (kA k a q1)
 have leF:F.Le F':=le.trans h1.mono;have newA:∀a,a∈e9 0->h.get? a=none:=fun a ha=>(h4 0 a ha).elim (fun q=>own0 ⟨0,q⟩▸nd) (kA k a);refine⟨F',fp,e9 0,⟨⟨leF,fun a o e _=>kept a o e,kA kept,h1.fz,fun a q=>(fresh a q).imp id .inr,h1.rest⟩,p.fi.keep leF kept fresh,fun _ _ q=> .inl q⟩,r0,fun a ha=>(cD (newA a ha) (h3.off 0 a ha) (fun i hi=>?_))⟩;exact X1 (p.fi.own_there hi) fun o ho=>dL ho (newA a ha)
theorem Qp{o:Option (D×List V)}{x:V}(h:aCA o=some x):∃r,o=some (.none,x::r):=by
 refine bN h fun Q0 Q1 h=>?_;obtain⟨d,vs⟩:=Q0;rename_i y0;clear y0;subst Q1;refine aQ h fun h1 h2=>?_
 cases vs with
 |nil=>exact(nn h2).elim
 |cons v vs=>
  obtain rfl:=kJ (x:=d) h1;obtain rfl:=aK h2;exact⟨vs,rfl⟩
theorem Yq(kn:Known prog w P K b5 T mg mb B.lt){c f:Nat}{es:List Ex}{x:Str}{q pos:Pos}{Xs:List Expr}(hg:okG B x=true)(hx:P.clsName.lookup x=some c)(hi:P.ini c=some f)(hf:4*(f+2)<=B.lt)(hpl:Xs.all Expr.plain=true)
  (ha:uB prog w P b5 T B es Xs):Snd prog w P b5 T B (.new c es) (.Call (.Name x q) Xs [] pos):=by
 intro A env b8 F σ fp s v d7 p ev;apply bc;intro Z;refine bN ev fun f' ef ev=>bG ev fun ds b9 e1 ev=>aO ev fun x0 e2 e=>cK (eC e) fun Q0 Q1=>?_;rename_i y0 y1;clear ev e y0 y1;subst Q0;subst Q1;refine X1 (Qp e2) fun vr e2=>?_;obtain rfl:=aK ((kn.ps.tini▸hi).symm.trans ef);refine cZ (kn.ps.cls x c hx) fun m1 m2 m3=>?_;apply Z;clear Z;refine Call_ (Pb kn.gl p hg m1 (callWith_of (P:=K.In) (by rw[plain_any hpl];rfl) (fun h X=>keeps_K m2 h X) (mN hpl (bX (ha A env b8 F σ fp s _ _ pos p e1) (fun ys c5 h1=>?_) fun _ _ x=>x))));apply bc;intro Z;obtain⟨c6,c7,g1,r1⟩:=h1;apply Z;clear Z;exact⟨kn.gl.inK.keeps (p.next g1).keeps,bX (aBE kn ef m3 hf (p.next g1) r1 e2) (fun z c9 h2=>h2.after (g1.up fun _=>rfl)) fun _ _ x=>x⟩
end
def Apart(F:Fz)(fp:Nat->List Addr)(h:Heap)(D:Addr):Prop:=(∃o,h.get? D=some o)/\F D=none/\∀i,D∉fp i
structure GoX(prog:Program)(w:World)(P:PS)(b8:List bF)(X:Addr->Prop)(b:Bool)(F:Fz)(fp:Nat->List Addr)(s:Shared)(F':Fz)(e9:Nat->List Addr)(s':Shared)(d7:Sg):Prop where
 mono:F.Le F'
 kept:∀a o,s.heap.get? a=some o-> ¬X a->(b=true-> ¬Own fp a)->s'.heap.get? a=some o
 alive:∀a,s'.heap.get? a=none->s.heap.get? a=none
 fz:∀a o,F' a=some o->s'.heap.get? a=some o
 fresh:∀a,F' a≠none->F a≠none\/Own fp a\/s.heap.get? a=none
 rest:s'={s with heap:=s'.heap,toks:=s'.toks}
 fi:Fi prog w P s'.heap F' b8 d7 e9
 sub:∀i a,a∈e9 i->a∈fp i\/s.heap.get? a=none
 ap:∀a,X a->Apart F' e9 s'.heap a
section
variable {prog:Program}{w:World}{P:PS}{K:Frag}{b5:Heap}{T:Tab}{mg mb:Str->Option Value}{B:Bk}{A:Around}{env:Env}{b8:List bF}{b b':Bool}{F c6 d5:Fz}{fp c7 d4:Nat->List Addr}{s c5 c9:Shared}{σ b9 c8 d7:Sg}{h h':Heap}{X Y:Addr->Prop}{D:Addr}{tk:Nat}
theorem GoX.refl(hF:∀a o,F a=some o->s.heap.get? a=some o)(fi:Fi prog w P s.heap F b8 σ fp)(ap:∀a,X a->Apart F fp s.heap a):GoX prog w P b8 X b F fp s F fp s σ:=
 ⟨.refl F,fun _ _ e _ _=>e,fun _ e=>e,hF,fun _ h=> .inl h,rfl,fi,fun _ _ h=> .inl h,ap⟩
theorem GoX.andThen(x:GoX prog w P b8 X b F fp s c6 c7 c5 b9)(y:GoX prog w P b8 Y b c6 c7 c5 d5 d4 c9 c8)(h:∀a,Y a->X a\/s.heap.get? a=none)(h':∀a,X a->Y a):GoX prog w P b8 X b F fp s d5 d4 c9 c8 where
 mono:=x.mono.trans y.mono
 kept:=fun a o e n m=>y.kept a o (x.kept a o e n m) (fun q=>(h a q).elim n fun q'=>dL e q') fun hb ⟨i,hi⟩=>(x.sub i a hi).elim (fun q=>m hb ⟨i,q⟩) fun q=>dL e q
 alive:=fun a e=>x.alive a (y.alive a e)
 fz:=y.fz
 fresh:=fun a q=>by
  rcases y.fresh a q with q|⟨i,q⟩|q
  ·exact x.fresh a q
  ·rcases x.sub i a q with q|q
   ·exact .inr (.inl ⟨i,q⟩)
   ·exact .inr (.inr q)
  ·exact .inr (.inr (x.alive a q))
 rest:=by rw[y.rest,x.rest]
 fi:=y.fi
 sub:=fun i a q=>(y.sub i a q).elim (x.sub i a) fun q=> .inr (x.alive a q)
 ap:=fun a q=>y.ap a (h' a q)
theorem GoX.trans(x:GoX prog w P b8 X b F fp s c6 c7 c5 b9)(y:GoX prog w P b8 X b c6 c7 c5 d5 d4 c9 c8):GoX prog w P b8 X b F fp s d5 d4 c9 c8:=x.andThen y (fun _ q=> .inl q) fun _ q=>q
theorem Apart.go(ap:Apart F fp s.heap D)(g:Go prog w P b8 b F fp s c6 c7 c5 b9):Apart c6 c7 c5.heap D/\c5.heap.get? D=s.heap.get? D:=by apply bc;intro Z;refine cZ ap fun Q0 h1 h2=>?_;obtain⟨o,ho⟩:=Q0;have k:c5.heap.get? D=some o:=g.tr.kept D o ho fun _ ⟨i,hi⟩=>h2 i hi;apply Z;clear Z;exact⟨(cD ⟨o,k⟩ (Classical.byContradiction fun q=>(g.tr.fresh D q).elim (fun q=>q h1) fun q=>q.elim (fun⟨i,q⟩=>h2 i q) fun q=>dL ho q) (fun i hi=>(g.sub i D hi).elim (h2 i) fun q=>dL ho q)),by rw[k,ho]⟩
theorem Go.toX(g:Go prog w P b8 b F fp s c6 c7 c5 b9)(ap:∀a,X a->Apart F fp s.heap a):GoX prog w P b8 X b F fp s c6 c7 c5 b9:=
 ⟨g.tr.mono,fun a o e _ m=>g.tr.kept a o e m,g.tr.alive,g.tr.fz,g.tr.fresh,g.tr.rest,g.fi,g.sub,fun a q=>((ap a q).go g).1⟩
theorem GoX.toGo(g:GoX prog w P b8 X b F fp s c6 c7 c5 b9)(h:∀a,X a->s.heap.get? a=none):Go prog w P b8 b F fp s c6 c7 c5 b9:=
 ⟨⟨g.mono,fun a o e m=>g.kept a o e (fun q=>dL e (h a q)) m,g.alive,g.fz,g.fresh,g.rest⟩,g.fi,g.sub⟩
theorem GoX.up(g:GoX prog w P b8 X b F fp s c6 c7 c5 b9)(hb:b=true->b'=true):GoX prog w P b8 X b' F fp s c6 c7 c5 b9:=
 ⟨g.mono,fun a o e n m=>g.kept a o e n fun q=>m (hb q),g.alive,g.fz,g.fresh,g.rest,g.fi,g.sub,g.ap⟩
theorem Pre.nextX(p:Pre prog w P b5 B A env b8 F σ fp s)(g:GoX prog w P b8 X b F fp s c6 c7 c5 b9):Pre prog w P b5 B A env b8 c6 b9 c7 c5:=
 ⟨p.good,p.bl,fun a o e=>g.mono a o (p.hb a o e),g.fz,g.fi⟩
theorem Apart.new(fi:Fi prog w P h F b8 σ fp)(hF:∀a o,F a=some o->h.get? a=some o)(hn:h.get? D=none){o:Obj}(ho:h'.get? D=some o):Apart F fp h' D:=(cD ⟨o,ho⟩ (Fz.none_of hF hn) (fi.off_new hn))
theorem Apart.keep(ap:Apart F fp h D)(hk:∀a o,h.get? a=some o->h'.get? a=some o):Apart F fp h' D:=(cD (ap.1.imp fun o ho=>hk _ _ ho) ap.2.1 ap.2.2)
theorem Fi.apart(fi:Fi prog w P h F b8 σ fp){l:bF}(hl:l∈b8):Apart F fp h l.addr:=(cD ((fi.there l hl).some) (fi.offL l hl) (fun i hi=>(fi.off i _ hi).2 l hl rfl))
theorem GoX.poke(hF:∀a o,F a=some o->s.heap.get? a=some o)(fi:Fi prog w P s.heap F b8 σ fp)(ap:∀a,X a->Apart F fp s.heap a)(hD:X D)(hl:∀l∈b8,l.addr≠D)(hk:∀a o,a≠D->s.heap.get? a=some o->h'.get? a=some o)(ht:∃o,h'.get? D=some o):
  GoX prog w P b8 X b F fp s F fp {s with heap:=h',toks:=tk} σ:=by
 apply bc;intro Z;refine cZ (ap D hD) fun h0 h1 h2=>?_;apply Z;clear Z;refine⟨.refl F,fun a o e n _=>hk a o (fun q=>n (q▸hD)) e,rJ hk ht,fun a o e=>hk a o (fun q=>dL e (q▸h1)) (hF a o e),fun a h=> .inl h,rfl,fi.keepBut hk hl h2,fun _ _ h=> .inl h,fun a q=>?_⟩;apply bc;intro Z;refine cZ (ap a q) fun Q0 k1 k2=>?_;obtain⟨o,k0⟩:=Q0;apply Z;clear Z;refine(cD ?_ k1 k2);by_cases q':a=D
 ·rw[q'];exact ht
 ·exact⟨o,hk a o q' k0⟩
structure nR(h:Heap)(l:bF)(v:Value)(h':Heap):Prop where
 but:∀b o,b≠l.addr->h.get? b=some o->h'.get? b=some o
 at_:l.At h' v
 others:∀l':bF,l'≠l->l'.addr=l.addr->l'.There h->l'.There h'/\∀u,l'.At h u->l'.At h' u
theorem nR.some{l:bF}{v:Value}(x:nR h l v h'):∃o,h'.get? l.addr=some o:=by
 cases l with
 |ns L y=>refine aP x.at_ fun m Q1 e=>?_;obtain⟨o,es,ep,ho,r⟩:=Q1;exact⟨o,ho⟩
 |cell c=>refine aP x.at_ fun o ho r=>?_;exact⟨o,ho⟩
theorem bF.Ns_unique{L:Addr}{m m':Str->Option Value}(x:h.Ns L m)(y:h.Ns L m'):m=m':=by apply bc;intro Z;refine Ad x fun o es ep ho hd _ hm=>Ad y fun o' es' ep' ho' hd' _ hm'=>?_;obtain rfl:=aK (ho.symm.trans ho');refine cK (Data.dict.inj (hd.symm.trans hd')) fun Q0 _=>?_;rename_i y0 y1;clear hd' y0;subst Q0;apply Z;clear Z;exact funext fun z=>(hm z).symm.trans (hm' z)
theorem Ia{a:Addr}{m:Str->Option Value}{v:Option Value}{p:Prop}(x:h.Ns a m)(y:h.IsCell a v):p:=by refine Kb x fun o' es ep ho' hd' _=>aP y fun o ho hd=>?_;obtain rfl:=aK (ho.symm.trans ho');exact nomatch hd.symm.trans hd'
theorem Bj{x:Str}{l:bF}{v:Value}{Q:Unit->Shared->Prop}{E:Value->Shared->Prop}(hk:env.scope.kind= .function)(hl:Oj env x l)(ht:l.There s.heap)(hfree:env.kindOf x≠some .free)
  (h:∀h' tk,nR s.heap l v h'->Q () {s with heap:=h',toks:=tk}):wpAny (model prog w) A (storeName env x v) Q E s:=by
 cases l with
 |ns L y=>
  obtain⟨rfl,e2,e3⟩:=hl;obtain⟨m,hm⟩:=ht;subst e2;refine wpAny_storeName_local e3 hm (fun h' hn hs=>h h' _ ⟨fun b o hb e=>hs.extBut b o hb e,(aH _ hn (by simp)),fun l' hne ha _=>?_⟩) (by rw[hk];rfl)
  cases l' with
  |ns L' z=>
   have ha':L'=env.locals:=ha;rename_i y0;clear y0;subst ha';have hz:z≠y:=fun q=>hne (by rw[q]);refine⟨⟨_,hn⟩,fun u ⟨m',hm',e⟩=>⟨_,hn,?_⟩⟩;obtain rfl:=bF.Ns_unique hm hm';rw[aR hz];exact e
  |cell c=>
   have ha':c=env.locals:=ha;subst ha';rename_i ht;obtain⟨v0,ht⟩:=ht;exact Ia hm ht
 |cell c=>
  obtain⟨e1,e2⟩:=hl;obtain⟨v0,hc⟩:=ht;rcases e2 with e2|e2
  ·refine wpAny_storeName_cell hk e2 e1 hc fun h' hn hs=>h h' s.toks ⟨fun b o hb e=>hs.extBut b o hb e,hn,fun l' hne ha ht=>?_⟩
   cases l' with
   |ns L' z=>
    have ha':L'=c:=ha;clear h e1 hn hs;subst ha';obtain⟨m,ht⟩:=ht;exact Ia ht hc
   |cell c'=>exact absurd (show bF.cell c'=bF.cell c from bU bF.cell ha) hne
  ·exact absurd e2 hfree
theorem nR.near{l l':bF}{v:Value}(hS:nR h l v h')(hne:l'≠l)(ht:l'.There h):l'.There h'/\∀u,l'.At h u->l'.At h' u:=by
 by_cases q:l'.addr=l.addr
 ·exact hS.others l' hne q ht
 ·exact⟨ht.keep fun o e=>hS.but _ o q e,fun u x=>x.keep fun o e=>hS.but _ o q e⟩
theorem bF.At.there{l:bF}{v:Value}(x:l.At h v):l.There h:=by
 cases l with
 |ns L y=>refine aP x fun m hm _=>?_;exact⟨m,hm⟩
 |cell c=>exact⟨_,x⟩
theorem Fi.store{i:Nat}{l:bF}{x:Value}{v:V}{fx:List Addr}(fi:Fi prog w P h F b8 σ fp)(nd:b8.Nodup)(hl:b8[i]?=some l)(hS:nR h l x h')(hv:hO prog w P F h x v fx)(hf:∀a∈fx,F a=none/\∀j,a∉fp j)(hfl:∀a∈fx,∀l∈b8,l.addr≠a):
  Fi prog w P h' F b8 (σ.put i v) (fun j=>if j=i then fx else fp j):=by
 have hi:i<σ.length:=by rw[fi.len];exact(hZ.mp hl).1
 have lm:=dT hl;refine⟨by rw[Sg.put_length];exact fi.len,fun l' hl'=>?_,fun j u e=>?_,fun j e=>?_,fun j k a hj hk=>?_,fun j a hj=>?_,fi.offL⟩
 ·by_cases q:l'=l
  ·rw[q];exact hS.at_.there
  ·exact(hS.near q (fi.there l' hl')).1
 ·by_cases q:j=i
  ·subst q;rw[Sg.get_put,aJ ⟨rfl,hi⟩] at e;rw[aJ rfl,<-aK e];exact(dW l x hl hS.at_ (hv.mono (.refl F) fun a ha o e=>hS.but a o (fun q=>hfl a ha l lm q.symm) e))
  ·rw[Sg.put_other (Ne.symm q)] at e;rw[aR q];apply bc;intro Z;refine cJ (fi.sl j u e) fun l2 y h1 h2 h3=>?_;have l2m:=dT h1;have hl2:l2≠l:=fun q2=>q ((List.getElem?_inj (hZ.mp h1).1 nd).mp (h1.trans (q2▸hl.symm)));apply Z;clear Z;exact(dW l2 y h1 ((hS.near hl2 (fi.there l2 l2m)).2 _ h2) (h3.mono (.refl F) fun a ha o e=>hS.but a o (fun q=>(fi.off j a ha).2 l lm q.symm) e))
 ·by_cases q:j=i
  ·clear hl;subst q;rw[Sg.get_put,aJ ⟨rfl,hi⟩] at e;exact dL rfl e
  ·rw[Sg.put_other (Ne.symm q)] at e;rw[aR q];exact fi.emp j e
 ·rcases fS hj with⟨q,hj⟩|⟨q,hj⟩
  ·rcases fS hk with⟨q',hk⟩|⟨_,hk⟩
   ·rw[q,q']
   ·exact absurd hk ((hf a hj).2 k)
  ·rcases fS hk with⟨_,hk⟩|⟨_,hk⟩
   ·exact absurd hj ((hf a hk).2 j)
   ·exact fi.dj j k a hj hk
 ·rcases fS hj with⟨_,hj⟩|⟨_,hj⟩
  ·exact⟨(hf a hj).1,hfl a hj⟩
  ·exact fi.off j a hj
theorem GoX.store{i:Nat}{l:bF}{x:Value}{v:V}{fx:List Addr}(hF:∀a o,F a=some o->s.heap.get? a=some o)(fi:Fi prog w P s.heap F b8 σ fp)(ap:∀a,X a->Apart F fp s.heap a)(nd:b8.Nodup)(hl:b8[i]?=some l)(hX:X l.addr)(hS:nR s.heap l x h')
  (hv:hO prog w P F s.heap x v fx) (hf:∀a∈fx,F a=none/\∀j,a∉fp j) (hfl:∀a∈fx,∀l∈b8,l.addr≠a) (hfX:∀a∈fx,¬X a) (hsub:∀a∈fx,a∈fp i\/c5.heap.get? a=none) (g:GoX prog w P b8 X b c6 c7 c5 F fp s σ):
  GoX prog w P b8 X b c6 c7 c5 F (fun j=>if j=i then fx else fp j) {s with heap:=h',toks:=tk} (σ.put i v):=by
 refine⟨g.mono,fun a o e n m=>hS.but a o (fun q=>n (q▸hX)) (g.kept a o e n m),fun a e=>g.alive a (rJ hS.but hS.some a e),fun a o e=>hS.but a o (fun q=>dL e (q▸(ap _ hX).2.1)) (g.fz a o e),g.fresh,by rw[g.rest],fi.store nd hl hS hv hf hfl,fun j a hj=>?_,fun a q=>?_⟩
 ·rcases fS hj with⟨q,hj⟩|⟨q,hj⟩
  ·exact(hsub a hj).elim (fun h=>q▸g.sub i a h) .inr
  ·exact g.sub j a hj
 ·apply bc;intro Z;refine cZ (ap a q) fun Q0 k1 k2=>?_;obtain⟨o,k0⟩:=Q0;apply Z;clear Z;refine(cD ?_ k1 (fun j hj=>(fS hj).elim (fun h=>hfX a h.2 q) fun h=>k2 j h.2));by_cases q':a=l.addr
  ·rw[q'];exact hS.some
  ·exact⟨o,hS.but a o q' k0⟩
end
noncomputable def oN(n:String):Bool:= !(["enumerate","zip","dict_itemiterator","dict_reverseitemiterator","odict_iterator","itertools.zip_longest","itertools.pairwise"].contains n)
structure Src(prog:Program)(w:World)(A:Around)(F:Fz)(I:Addr)(xs:List D)(fpw:List Addr)(n:Nat)(Pv:Nat->Value->Prop)(St:Nat->Heap->Prop):Prop where
 walks:Walks prog w A I fpw [I] n Pv St
 len:n=xs.length
 val:∀i v,Pv i v->∃d,xs[i]?=some d/\Rep prog w F v d
 foot:∀b∈fpw,b=I\/∃o,F b=some o
 quiet:∀i h,St i h->∃o n,h.get? I=some o/\o.cls= .type n/\oN n=true
section
variable {prog:Program}{w:World}{P:PS}{K:Frag}{b5:Heap}{T:Tab}{mg mb:Str->Option Value}{B:Bk}{A:Around}{env:Env}{b8:List bF}{b b':Bool}{F c6 d5:Fz}{fp c7 d4:Nat->List Addr}{s c5 c9:Shared}{σ b9 c8 d7:Sg}{h h':Heap}{X Y:Addr->Prop}{D:Addr}{tk:Nat}
inductive rO(prog:Program)(w:World)(P:PS)(A:Around)(b8:List bF)(b:Bool)(F:Fz)(fp:Nat->List Addr)(s:Shared)(d7:Sg)(xs:List Mine.D)(iv:Value)(c9:Shared):Prop
 |mk (I:Addr) (d5:Fz) (d4:Nat->List Addr) (fpw:List Addr) (n:Nat) (Pv:Nat->Value->Prop) (St:Nat->Heap->Prop):iv= .ref I->Go prog w P b8 b F fp s d5 d4 c9 d7->s.heap.get? I=none->Apart d5 d4 c9.heap I->Src prog w A d5 I xs fpw n Pv St->St 0 c9.heap->rO prog w P A b8 b F fp s d7 xs iv c9
def nS(prog:Program)(w:World)(P:PS)(b5:Heap)(T:Tab)(B:Bk)(it:It)(E:Expr):Prop:=∀A env b8 F σ fp s xs d7,Pre prog w P b5 B A env b8 F σ fp s->evI T it σ=some (xs,d7)->
 wpAny (model prog w) A (eval E env) (fun x c5=>wpAny (model prog w) A (pyIter x) (rO prog w P A b8 (!Al it) F fp s d7 xs) NoE c5) NoE s
theorem Go.iter(g:Go prog w P b8 b F fp s c6 c7 c5 b9){o:Obj}{xs:List Mine.D}{fpw:List Addr}{n:Nat}{Pv:Nat->Value->Prop}{St:Nat->Heap->Prop}(hf:o.isFreed=false)
  (hs:Src prog w A c6 c5.heap.objs.size xs fpw n Pv St) (h0:St 0 (c5.heap.push o)):rO prog w P A b8 b F fp s b9 xs (.ref c5.heap.objs.size) {c5 with heap:=c5.heap.push o}:=
 ⟨_,c6,c7,fpw,n,Pv,St,rfl,g.more (tk:=c5.toks) (fun _ _ e=>bM _ e),g.tr.alive _ (cS _),Apart.new g.fi g.tr.fz (cS _) (dQ _ hf),hs,h0⟩
theorem oO{h:Heap}{a:Addr}{o:Obj}(e:h.get? a=some o):a≠h.objs.size:=fun q=>jL _ (q▸eN e)
theorem Ib{a I:Addr}{o:Obj}(h:F a=some o)(c:Addr)(hc:c∈[I,a]):c=I\/∃o,F c=some o:=
 (iA.mp hc).imp id fun hc=>⟨o,by rw[dJ.mp hc];exact h⟩
theorem qN{I:Addr}{T:String}{p:Obj->Prop}{q:Prop}(hq:oN T=true)(st:(∃o,h.get? I=some o/\o.cls= .type T/\p o)/\q):∃o n,h.get? I=some o/\o.cls= .type n/\oN n=true:=
 st.1.elim fun o h=>(dW o T h.1 h.2.1 hq)
theorem Lf{x:Mine.D}{xs:List Mine.D}{u:Value}(p:Pre prog w P b5 B A env b8 c6 b9 c7 c5)(g:Go prog w P b8 b F fp s c6 c7 c5 b9)(r:Rep prog w c6 u x)(e:mJ x=some xs):
  wpAny (model prog w) A (pyIter u) (rO prog w P A b8 b F fp s b9 xs) NoE c5:=by
 have hh:=p.good.handled
 cases x with
 |list ds=>
  obtain rfl:=aK e;obtain⟨a,o,ys,n,rfl,h1,h2,h3,h4⟩:=r.inv;have ha:=g.tr.fz _ _ h1;exact wpAny_pyIter_list (dB o ha h2 n h3) (g.iter rfl ⟨Walks.list hh _ a (oO ha) ys,dM h4,fun i v hv=>h4.get' (by rw[Array.getElem?_toList];exact hv),Ib h1,fun i h st=>qN (by decide) st⟩ ⟨(cY _ (dQ _ rfl) rfl rfl),(dB o (bM _ ha) h2 n h3)⟩)
 |tuple ds=>
  obtain rfl:=aK e;obtain⟨a,o,ys,n,rfl,h1,h2,h3,h4⟩:=r.inv;have ha:=g.tr.fz _ _ h1;exact wpAny_pyIter_tuple (dB o ha h2 n h3) (g.iter rfl ⟨Walks.tuple hh _ a (oO ha) ys,dM h4,fun i v hv=>h4.get' (by rw[Array.getElem?_toList];exact hv),Ib h1,fun i h st=>qN (by decide) st⟩ ⟨(cY _ (dQ _ rfl) rfl rfl),(dB o (bM _ ha) h2 n h3)⟩)
 |dict l9=>
  refine aO e fun ps hps e=>?_;rename_i y0;clear y0;subst e;obtain⟨a,o,l,l',rfl,h0,h1,h2,h3,h4,h5⟩:=r.dict_inv;obtain rfl:=aK (h4.symm.trans hps);have ha:=g.tr.fz _ _ h1;refine X1 ((Heap.dictOf_iff.mpr (aH o ha h2):c5.heap.DictOf (intKind prog w) a l).dictAt) fun ep hat=>wpAny_pyIter_dict h0 hat (g.iter rfl ⟨Walks.dictKeys hh _ a (oO ha) l ep,h3.length.trans (bT _).symm,fun i v hv=>?_,Ib h1,fun i h st=>qN (by decide) st⟩ ⟨(cY _ (dQ _ rfl) rfl rfl),hat.keep fun _ _ e=>bM _ e⟩);refine fG hv fun k x hx hk=>X1 (Value.isInt_shape hk) fun t Q1=>?_;clear hv hk;subst Q1;have hk2:(l.map (·.1))[i]?=some k:=by rw[eW,hx];rfl
  rw[h3.keys,eW] at hk2;refine aO hk2 fun q hq Q2=>?_;subst Q2;exact(aH (.int q.1) (by rw[eW,hq];rfl) (.int _ _))
 |_=>exact(nn e).elim
theorem Lg{a:Ex}{X:Expr}(ha:Snd prog w P b5 T B a X):nS prog w P b5 T B (.seq a) X:=by intro A env b8 F σ fp s xs d7 p ev;apply bc;intro Z;refine bE (show bD (evE T a σ) (fun x b9=>(mJ x).map fun q=>(q,b9))=some (xs,d7) from ev) fun x b9 e1 ev=>aO ev fun ys e2 e=>cK (eC e) fun Q0 Q1=>?_;rename_i y0;clear ev e y0;subst Q0;subst Q1;apply Z;clear Z;exact ha.d p e1 fun u c6 c7 c5 g1 r1=>Lf (p.next g1) g1 r1 e2
theorem sI{a c:Int}{i:Nat}(hi:i<(c-a).toNat):(fA a c)[i]?=some (.int (a+(i:Int))):=by unfold fA;rw[eW,List.getElem?_range hi];rfl
theorem wG{a c:Int}{i:Nat}(hi:i<(a-c).toNat):(gU a c)[i]?=some (.int (a-(i:Int))):=by unfold gU;rw[eW,List.getElem?_range hi];rfl
theorem Walks.bound{I:Addr}{fpw:List Addr}{n:Nat}{Pv:Nat->Value->Prop}{St:Nat->Heap->Prop}(W:Walks prog w A I fpw [I] n Pv St):Walks prog w A I fpw [I] n (fun i v=>i<n/\Pv i v) St where
 sub:=W.sub
 frame:=W.frame
 item:=fun i s Q E hi st hQ=>W.item i s Q E hi st fun v h' tk hp=>hQ v h' tk ⟨hi,hp⟩
 done:=W.done
 self:=W.self
theorem uJ{a c:Int}{r:Addr}{t u v:Tok}(p:Pre prog w P b5 B A env b8 c6 b9 c7 c5)(g:Go prog w P b8 b F fp s c6 c7 c5 b9)(hr:IsRange c5.heap r a c 1 t u v)(ha:a.natAbs<2^40)(hc:c.natAbs<2^40):
  wpAny (model prog w) A (pyIter (.ref r)) (rO prog w P A b8 b F fp s b9 (fA a c)) NoE c5:=by
 have hsz:Builtin.Range.rangeSize a c 1=(((c-a).toNat:Nat):Int):=by rw[rangeSize_one];split<;>lia
 refine wpAny_pyIter_range hr (small_one (by lia) (by lia) (by lia) (by lia)) (g.iter rfl ⟨Walks.bound (Walks.range p.good.handled _ a 1 (c-a).toNat),by rw[fA,bT,gQ],fun i v hv=>?_,fun b hb=> .inl (dJ.mp hb),fun i h st=>(dW _ _ st rfl (by decide))⟩ ?_)
 ·obtain⟨hi,t,rfl⟩:=hv;exact(aH _ (sI hi) (by rw[Int.mul_one];exact .int _ _))
 ·show IsRangeIter _ _ _ _ _;rw[hsz];simpa using dQ _ rfl
theorem Qr(kn:Known prog w P K b5 T mg mb B.lt){a:Ex}{X E:Expr}(he:jA B "range" E=some X)(ha:Snd prog w P b5 T B a X):nS prog w P b5 T B (.r1 a) E:=by intro A env b8 F σ fp s xs d7 p ev;apply bc;intro Z;refine eM ev fun x b9 e1 ev=>aQ ev fun hl ev=>aU ev fun Q0 Q1=>?_;rename_i y0 y1;clear ev y0 y1;subst Q0;subst Q1;apply Z;clear Z;refine mY kn.gl p he (kn.free rfl) tC (by decide) (.type _) (ha.i p e1 fun t c6 c7 c5 g1=>call_range_1 ?_);have g2:=g1.more (tk:=c5.toks+1+1) (h':=c5.heap.push {cls:= .type "range",data:= .fields #[.int 0 c5.toks,.int x t,.int 1 (c5.toks+1)]}) fun _ _ e=>bM _ e;exact uJ (p.next g2) g2 (IsRange.new _ _ _ _ _ _ _) (by decide) hl
theorem Qs(kn:Known prog w P K b5 T mg mb B.lt){a c:Ex}{X Y E:Expr}(he:pA B "range" E=some (X,Y))(ha:Snd prog w P b5 T B a X)(hc:Snd prog w P b5 T B c Y):nS prog w P b5 T B (.r2 a c) E:=by intro A env b8 F σ fp s xs d7 p ev;apply bc;intro Z;refine eM ev fun x b9 e1 ev=>eM ev fun y c8 e2 ev=>aQ ev fun hl ev=>aU ev fun Q0 Q1=>?_;rename_i y0 y1 y2;clear ev y0 y1 y2;subst Q0;subst Q1;apply Z;clear Z;refine Hw kn.gl p he (kn.free rfl) tC (by decide) (.type _) (ha.i p e1 fun t c6 c7 c5 g1=>hc.i (p.next g1) e2 fun u d5 d4 c9 g2=>call_range_2 ?_);have g3:=((g1.up fV).trans (g2.up (kW (a:=pureE a)))).more (tk:=c9.toks+1) (h':=c9.heap.push {cls:= .type "range",data:= .fields #[.int x t,.int y u,.int 1 c9.toks]}) fun _ _ e=>bM _ e;exact uJ (p.next g3) g3 (IsRange.new _ _ _ _ _ _ _) hl.1 hl.2
theorem Bm{a c:Int}{r:Addr}{t u v:Tok}(p:Pre prog w P b5 B A env b8 c6 b9 c7 c5)(g:Go prog w P b8 b F fp s c6 c7 c5 b9)(hr:IsRange c5.heap r a c (-1) t u v)(ha:a.natAbs<2^40)(hc:c.natAbs<2^40):
  wpAny (model prog w) A (pyIter (.ref r)) (rO prog w P A b8 b F fp s b9 (gU a c)) NoE c5:=by
 have hsz:=rangeSize_downNat a c;have hsm:Builtin.Range.small a c (-1)=true:=small_down (by lia) (by lia) (by lia) (by lia);refine wpAny_pyIter_range hr hsm (g.iter rfl ⟨Walks.bound (Walks.range p.good.handled _ a (-1) (a-c).toNat),by rw[gU,bT,gQ],fun i v hv=>?_,fun b hb=> .inl (dJ.mp hb),fun i h st=>(dW _ _ st rfl (by decide))⟩ ?_)
 ·refine Dv hv fun hi t Q2=>?_;clear hv;subst Q2;have e:a+(i:Int)*(-1)=a-(i:Int):=by lia
  exact(aH _ (wG hi) (by rw[e];exact .int _ _))
 ·show IsRangeIter _ _ _ _ _;rw[hsz];simpa using dQ _ rfl
theorem Qt(kn:Known prog w P K b5 T mg mb B.lt){a c:Ex}{X Y E:Expr}{p1 p2:Pos}(he:∃kn':_,Ou B "range" E=some (X,Y,.UnaryOp .USub (.Constant (.int 1) kn' p1) p2))(ha:Snd prog w P b5 T B a X)(hc:Snd prog w P b5 T B c Y):nS prog w P b5 T B (.rd a c) E:=by intro A env b8 F σ fp s xs d7 p ev;apply bc;intro Z;refine X1 he fun kn' he=>eM ev fun x b9 e1 ev=>eM ev fun y c8 e2 ev=>aQ ev fun hl ev=>aU ev fun Q0 Q1=>?_;rename_i y0 y1 y2;clear ev y0 y1 y2;subst Q0;subst Q1;refine Ws (Ax he) fun q1 pos Q2 hg hp1 hp2 hp3=>?_;subst Q2;apply Z;clear Z;refine Call_ (Pc kn.gl p hg (kn.free rfl) tC (by decide) (yQ (rest:=[_,_]) (.type _) hp1 (Bool.and_eq_true_iff.mpr ⟨hp2,Bool.and_eq_true_iff.mpr ⟨hp3,rfl⟩⟩) ?_));refine args_cons (ha.i p e1 fun t c6 c7 c5 g1=>args_cons (hc.i (p.next g1) e2 fun u d5 d4 c9 g2=>args_cons (wpAny_UnaryOp (wpAny_Constant_int (PyProof.Rows.neg_int (args_nil (call_range_3 (by decide) ?_ (.inl (Ao (by decide)))))))) (bJ hp3)) (bJ hp2)) (bJ hp1);have g3:=((g1.up fV).trans (g2.up (kW (a:=pureE a)))).more (tk:=c9.toks+1+1) (h':=c9.heap.push {cls:= .type "range",data:= .fields #[.int x t,.int y u,.int (-1) (c9.toks+1)]}) fun _ _ e=>bM _ e;exact Bm (p.next g3) g3 (IsRange.new _ _ _ _ _ _ _) hl.1 hl.2
theorem Lh(kn:Known prog w P K b5 T mg mb B.lt){a:Ex}{X E:Expr}(he:jA B "reversed" E=some X)(ha:Snd prog w P b5 T B a X):nS prog w P b5 T B (.rev a) E:=by
 intro A env b8 F σ fp s xs d7 p ev;refine yD ev fun xs b9 e1 ev=>aU ev fun Q0 Q1=>?_;rename_i y0;clear ev y0;subst Q0;subst Q1;refine mY kn.gl p he (kn.free rfl) Ey (by decide) (.type _) (ha.d p e1 fun u c6 c7 c5 g1 r1=>?_);obtain⟨l,o,ys,n,rfl,q1,q2,q3,q4⟩:=r1.inv;have ha:=g1.tr.fz _ _ q1;have ln:=dM q4;have hl:c5.heap.IsList l ys:=(dB o ha q2 n q3);refine call_reversed_list hl ?_;have W:=Walks.bound (Walks.listRev (prog:=prog) (w:=w) p.good.handled c5.heap.objs.size l (oO ha) ys);have st0:0<=ys.size/\(c5.heap.push (revObj l ((ys.size:Int)-1))).IsRevIter c5.heap.objs.size l ((ys.size:Int)-1-((0:Nat):Int))/\(c5.heap.push (revObj l ((ys.size:Int)-1))).IsList l ys:=
  (cD (gS _) (cY _ (dQ _ rfl) rfl (by simp;rfl)) (dB o (bM _ ha) q2 n q3))
 refine W.self 0 _ _ _ st0 (g1.iter rfl ⟨W,ln.trans List.length_reverse.symm,fun i v hv=>?_,Ib q1,fun i h st=>qN (by decide) st.2⟩ st0);refine cK hv fun hi hv=>aP (q4.get' (k:=ys.size-1-i) (v:=v) (by simpa using hv)) fun d hd hr=>?_;exact(aH d (by rw[List.getElem?_reverse (by rw[<-ln];exact hi),<-ln];exact hd) hr)
theorem Qu{i:Nat}{x:Str}(h:okW B i x=true):okN B i x=true:=(Bool.and_eq_true_iff.mp h).1
theorem Bn{i:Nat}{x:Str}(bl:Bl B env b8)(h:okW B i x=true):env.kindOf x≠some .free:=fun q=>by
 rcases Bool.or_eq_true_iff.mp (fB h).2 with h2|h2<;>
  exact(bl.sc x _ (cX.mp h2)).elim (fun e=>nomatch (e.symm.trans q)) fun e=>nomatch e.1
theorem Ic{i:Nat}{x:Str}(bl:Bl B env b8)(h:okN B i x=true):∃l,b8[i]?=some l/\Oj env x l:=by simp only[okN,Bool.and_eq_true,bne_iff_ne,ne_eq,beq_iff_eq] at h;exact bl.res x i h.1.1
theorem Qv{i:Nat}{x:Str}{v:Value}{d:Mine.D}{Q:Unit->Shared->Prop}{E:Value->Shared->Prop}(bl:Bl B env b8)(hw:okW B i x=true)(hX:∀l,b8[i]?=some l->X l.addr)(g:GoX prog w P b8 X b c6 c7 c5 F fp s σ)(r:Rep prog w F v d)
  (h:∀h' tk e9,GoX prog w P b8 X b c6 c7 c5 F e9 {s with heap:=h',toks:=tk} (σ.put i (.d d))->Q () {s with heap:=h',toks:=tk}):wpAny (model prog w) A (storeName env x v) Q E s:=by
 apply bc;intro Z;refine aP (Ic bl (Qu hw)) fun l hl ho=>?_;have lm:=dT hl;apply Z;clear Z;refine Bj bl.kind ho (g.fi.there l lm) (Bn bl hw) fun h' tk hS=>h h' tk (fun j=>if j=i then[] else fp j) ?_;exact GoX.store (fx:=[]) g.fz g.fi g.ap bl.apart hl (hX l hl) hS ⟨r,rfl⟩ (fun _ q=>by cases q) (fun _ q=>by cases q) (fun _ q=>by cases q) (fun _ q=>by cases q) g
theorem Li{i:Nat}{is:List Nat}{es:List Expr}(h:nM B (i::is) es=true):∃x q r,es= .Name x q::r/\okW B i x=true/\nM B is r=true:=by
 cases es with
 |nil=>cases h
 |cons e r=>
  apply bc;intro Z;refine aS h fun h1 h2=>v3k h1 fun x q Q2 h3=>?_;clear h h1;subst Q2;apply Z;clear Z;exact(Wr x q r rfl h3 h2)
theorem kM{i:Nat}{is:List Nat}{es:List Expr}(h:nM B (i::is) es=true){P:Prop}(f:∀x q r,es= .Name x q::r->okW B i x=true->nM B is r=true->P):P:=Kb (Li h) f
theorem jE{is:List Nat}:∀{es:List Expr},nM B is es=true->is.length=es.length/\(assignEach es env).length=es.length/\(assignEach es env).findIdx? (·.1)=none:=by
 induction is with
 |nil=>intro es h;rw[w0 h];exact(cD rfl rfl rfl)
 |cons i is ih=>
  intro es h;apply bc;intro Z;refine kM h fun x q r Q3 _ h2=>?_;clear h;subst Q3;refine cZ (ih h2) fun a b c=>?_;apply Z;clear Z;refine(cD (bU (· +1) a) (bU (· +1) b) ?_);show List.findIdx? (·.1) ((false,_)::assignEach r env)=none;rw[List.findIdx?_cons,c];rfl
theorem Yr(bl:Bl B env b8){E:Value->Shared->Prop}{is:List Nat}:∀{es:List Expr} {vs:List Value} {ds:List Mine.D} {F:Fz} {fp:Nat->List Addr} {s:Shared} {σ:Sg} {Q:Unit->Shared->Prop},nM B is es=true->is.length=ds.length->(∀i∈is,∀l,b8[i]?=some l->X l.addr)->
  GoX prog w P b8 X b c6 c7 c5 F fp s σ->aM prog w F vs ds->
  (∀h' tk e9,GoX prog w P b8 X b c6 c7 c5 F e9 {s with heap:=h',toks:=tk} ((is.zip ds).foldl (fun s p=>s.put p.1 (.d p.2)) σ)->Q () {s with heap:=h',toks:=tk})->
  wpAny (model prog w) A (assignInOrder ((assignEach es env).map (·.2)) vs) Q E s:=by
 induction is with
 |nil=>
  intro es vs ds F fp s σ Q ok hl _ g r h;obtain rfl:=mU hl.symm;rw[w0 ok,r.inv];exact aY (h s.heap s.toks fp g)
 |cons i is ih=>
  intro es vs ds F fp s σ Q ok hl hX g r h;apply bc;intro Z;refine kM ok fun x q es Q3 h1 h2=>?_;clear ok;subst Q3;apply Z;clear Z
  cases ds with
  |nil=>cases hl
  |cons d ds=>
   apply bc;intro Z;refine cJ r.inv fun v vs r1 r2 Q4=>?_;clear r;subst Q4;apply Z;clear Z;show wpAny _ _ (holding vs (assign (.Name x q) env v) >>= fun _=>assignInOrder ((assignEach es env).map (·.2)) vs) _ _ _;exact aG (jN (wpAny_assign_Name (Qv bl h1 (hX i (.head _)) g r1 fun h' tk e9 g'=>ih h2 (Nat.succ.inj hl) (fun j hj=>hX j (.tail _ hj)) g' r2 fun h'' tk' fp'' g''=>h h'' tk' fp'' g'')))
noncomputable def gG:Tgt->List Nat
 | .n i=>[i]
 | .t is=>is
theorem aBF{t:Tgt}{E:Expr}{v:Value}{d:Mine.D}{Q:Unit->Shared->Prop}{E':Value->Shared->Prop}(hh:A.handled=none)(bl:Bl B env b8)(ok:mX B t E=true)(hX:∀i∈gG t,∀l,b8[i]?=some l->X l.addr)(g:GoX prog w P b8 X b c6 c7 c5 F fp s σ)
  (r:Rep prog w F v d) (e:iS σ t d=some d7) (h:∀h' tk e9,GoX prog w P b8 X b c6 c7 c5 F e9 {s with heap:=h',toks:=tk} d7->Q () {s with heap:=h',toks:=tk}):
  wpAny (model prog w) A (assign E env v) Q E' s:=by
 cases t with
 |n i=>
  apply bc;intro Z;refine v3k ok fun x q Q2 ok=>?_;rename_i y0;clear y0;subst Q2;obtain rfl:=aK e;apply Z;clear Z;exact wpAny_assign_Name (Qv bl ok (hX i (.head _)) g r h)
 |t is=>
  apply bc;intro Z;refine v7k ok fun es k pos Q3 ok=>?_;rename_i y0;clear y0;subst Q3;refine qG e fun ds Q1 e=>?_;subst Q1;refine aQ e fun hl e=>?_;rename_i y0 y1;clear y0 y1;obtain rfl:=aK e;obtain⟨a,o,ys,n,rfl,q1,q2,q3,q4⟩:=r.inv;refine cZ (jE (env:=env) (show nM B is es=true from ok)) fun n1 n2 n3=>?_;apply Z;clear Z;exact wpAny_assign_Tuple hh (dB o (g.fz _ _ q1) q2 n q3) ((dM q4).trans (hl.symm.trans (n1.trans n2.symm))).symm n3 fun h' hx=>Yr bl ok hl hX (g.trans ((Go.keep (b:=b) (tk:=s.toks) g.fz g.fi fun a o e=>hx a o (oO e) e).toX g.ap)) q4 fun h'' tk' fp'' g''=>h h'' tk' fp'' g''
theorem Bo{target:Expr}{I:Addr}{v:Value}{Q:Unit->Shared->Prop}{E:Value->Shared->Prop}(hI:∃o n,s.heap.get? I=some o/\o.cls= .type n/\oN n=true)(h:Q () s):wpAny (model prog w) A (letOwnedTupleGo target (.ref I) v) Q E s:=by
 apply bc;intro Z;refine cJ hI fun o n ho hc hq=>?_;have hf:(["enumerate","zip","dict_itemiterator","dict_reverseitemiterator","odict_iterator","itertools.zip_longest","itertools.pairwise"].contains n)=false:=by have hq:(!(["enumerate","zip","dict_itemiterator","dict_reverseitemiterator","odict_iterator","itertools.zip_longest","itertools.pairwise"].contains n))=true:=hq;exact(Bool.not_eq_true' _).mp hq
 have key:∀a,wpAny (model prog w) A (letOwnedTupleGo (.Tuple [] 0 default) (.ref I) (.ref a)) Q E s:=fun a=>by
  refine aG (wpAny_load ho ?_);obtain⟨cls,dd,data,sl⟩:=o;obtain rfl:cls= .type n:=hc
  cases data
  case fields=>
   show wpAny _ _ (if(_&&_)=true then _ else _) _ _ _;rw[hf];exact aY h
  all_goals exact aY h
 apply Z;clear Z;by_cases q:∃a,v= .ref a
 ·apply bc;intro Z;refine X1 q fun a Q1=>?_;subst Q1;apply Z;clear Z
  cases target<;>first|exact aY h|exact key a
 ·cases target
  case Tuple=>cases v<;>first|exact aY h|exact absurd ⟨_,rfl⟩ q
  case List=>cases v<;>first|exact aY h|exact absurd ⟨_,rfl⟩ q
  all_goals exact aY h
theorem pU{e:Expr}{x:Value}(h:fU e=true):foldedSetIterable e env x=pure x:=by cases e<;>first|rfl|exact(eX h).elim
theorem gN{it:It}{e:Expr}(h:Kl P B it e=true):fU e=true:=by
 cases it with
 |seq a=>exact(fB h).1
 |r1 a=>
  refine jP h fun _ e1 _=>fG (uF e1) fun _ _ Q2 _=>?_;subst Q2;rfl
 |r2 a c=>
  refine Ov (o:=pA B "range" e) (k:=fun x y=>okE P B a x&&okE P B c y) h fun _ _ e1 _=>fG (uG e1) fun _ _ Q2 _=>?_;subst Q2;rfl
 |rd a c=>
  obtain⟨_,_,_,_,_,e1,_⟩:=is3 (o:=Ou B "range" e) (k:=fun x y=>okE P B a x&&okE P B c y) h;refine fG (Ax e1) fun _ _ Q2 _=>?_;subst Q2;rfl
 |rev a=>
  refine jP h fun _ e1 _=>fG (uF e1) fun _ _ Q2 _=>?_;clear h e1;subst Q2;rfl
theorem Bp{I:Addr}{xs:List Mine.D}{fpw:List Addr}{n:Nat}{Pv:Nat->Value->Prop}{St:Nat->Heap->Prop}{F0:Fz}{i:Nat}{d:Mine.D}{Q:Option Value->Shared->Prop}{E:Value->Shared->Prop}(S:Src prog w A F0 I xs fpw n Pv St)(hle:F0.Le F)(g:GoX prog w P b8 X b c6 c7 c5 F fp s σ)(hX:X I)(hl:∀l∈b8,l.addr≠I)
  (hi:xs[i]?=some d) (st:St i s.heap) (h:∀v h' tk,Rep prog w F v d->St (i+1) h'->(∀b o,b≠I->s.heap.get? b=some o->h'.get? b=some o)->GoX prog w P b8 X b c6 c7 c5 F fp {s with heap:=h',toks:=tk} σ->Q (some v) {s with heap:=h',toks:=tk}):
  wpAny (model prog w) A (pyNext (.ref I)) Q E s:=by
 have hlt:i<n:=by rw[S.len];exact(hZ.mp hi).1
 refine S.walks.item i s Q E hlt st fun v h' tk hp st' hk=>?_;apply bc;intro Z;refine aP (S.val i v hp) fun d' hd' r=>?_;obtain rfl:=aK (hi.symm.trans hd');refine fG (S.quiet _ _ st') fun oI nI hI _=>?_;apply Z;clear Z;refine h v h' tk (r.mono hle) st' (fun a o hne e=>hk a o (by simpa using hne) e) (g.trans (GoX.poke g.fz g.fi g.ap hX hl (fun a o hne e=>hk a o (by simpa using hne) e) ⟨oI,hI⟩))
theorem GoX.finish{I:Addr}(x:GoX prog w P b8 X b F fp s c6 c7 c5 b9)(hI:s.heap.get? I=none)(hIX: ¬X I)(y:GoX prog w P b8 (fun a=>X a\/a=I) b c6 c7 c5 d5 d4 c9 c8)(hl:∀l∈b8,l.addr≠I)
  (hk:∀a o,a≠I->c9.heap.get? a=some o->h'.get? a=some o):GoX prog w P b8 X b F fp s d5 d4 {c9 with heap:=h',toks:=tk} c8:=by
 have apI:=y.ap I (.inr rfl);have al:∀a,h'.get? a=none->s.heap.get? a=none:=fun a e=>by
  by_cases q:a=I
  ·rw[q];exact hI
  ·refine x.alive a (y.alive a ?_)
   cases e':c9.heap.get? a with
   |none=>rfl
   |some o=>exact dL (hk a o q e') e
 have ne:∀{a o},s.heap.get? a=some o->a≠I:=fun e q=>dL e (q▸hI);refine⟨x.mono.trans y.mono,fun a o e n m=>hk a o (ne e) (y.kept a o (x.kept a o e n m) (fun q=>q.elim n (ne e)) fun hb ⟨i,hi⟩=>?_),al,fun a o e=>hk a o (fun q=>dL e (q▸apI.2.1)) (y.fz a o e),fun a q=>?_,by rw[y.rest,x.rest],y.fi.keepBut hk hl apI.2.2,fun i a q=>?_,fun a q=>?_⟩
 ·exact(x.sub i a hi).elim (fun q=>m hb ⟨i,q⟩) fun q=>dL e q
 ·rcases y.fresh a q with q|⟨i,q⟩|q
  ·exact x.fresh a q
  ·rcases x.sub i a q with q|q
   ·exact .inr (.inl ⟨i,q⟩)
   ·exact .inr (.inr q)
  ·exact .inr (.inr (x.alive a q))
 ·exact(y.sub i a q).elim (x.sub i a) fun q=> .inr (x.alive a q)
 ·apply bc;intro Z;refine cZ (y.ap a (.inl q)) fun Q0 k1 k2=>?_;obtain⟨o,k0⟩:=Q0;apply Z;clear Z;exact(cD ⟨o,hk a o (fun q'=>hIX (q'▸q)) k0⟩ k1 k2)
theorem GoX.widen(hXY:∀a,X a->Y a)(apY:∀a,Y a->Apart F fp s.heap a)(g:GoX prog w P b8 X b F fp s c6 c7 c5 b9):GoX prog w P b8 Y b F fp s c6 c7 c5 b9:=
 ⟨g.mono,fun a o e n m=>g.kept a o e (fun q=>n (hXY a q)) m,g.alive,g.fz,g.fresh,g.rest,g.fi,g.sub,fun a q=>by
  by_cases qX:X a
  ·exact g.ap a qX
  ·refine cZ (apY a q) fun Q0 h1 h2=>?_;obtain⟨o,ho⟩:=Q0;exact(cD ⟨o,g.kept a o ho qX fun _ ⟨i,hi⟩=>h2 i hi⟩ (Classical.byContradiction fun q'=>(g.fresh a q').elim (fun q=>q h1) fun q=>q.elim (fun⟨i,q⟩=>h2 i q) fun q=>dL ho q) (fun i hi=>(g.sub i a hi).elim (h2 i) fun q=>dL ho q))⟩
theorem Src.stay{I:Addr}{xs:List Mine.D}{fpw:List Addr}{n:Nat}{Pv:Nat->Value->Prop}{St:Nat->Heap->Prop}{F0:Fz}{i:Nat}(S:Src prog w A F0 I xs fpw n Pv St)(hF:∀a o,F0 a=some o->h.get? a=some o)(hF':∀a o,F0 a=some o->h'.get? a=some o)
  (hI:∀o,h.get? I=some o->h'.get? I=some o) (st:St i h):St i h':=
 S.walks.frame i h h' st fun b hb o e=>by
  rcases S.foot b hb with rfl|⟨o',ho'⟩
  ·exact hI o e
  ·rw[<-aK ((hF _ _ ho').symm.trans e)];exact hF' _ _ ho'
end
noncomputable def qO(p:Pos)(it:Value)(target:Expr)(ifs:List Expr)(env:Env)(emit:Sem Unit)(c:Code):Sem PySem.Fin:=do
 standAt p
 match<-pyNext it with
 |none=>pure (.done .next)
 |some v=>
  letOwnedTupleGo target it v
  assign target env v
  let mut ok:=true
  for c in ifs do
   if ok then ok<-isTrue c env (eval c env)
  if ok then emit
  again c
theorem Qw(l8 target iter:Expr)(ifs:List Expr)(scope:Scope)(pos:Pos)(it acc:Value)(env:Env):
  compTurn (.ListComp l8 [⟨target,iter,ifs,0⟩] scope pos) 0 it acc env=qO iter.pos it target ifs env (do let _<-call (.builtin "list.append") [acc,<-eval l8 env]) (.compLoop (.ListComp l8 [⟨target,iter,ifs,0⟩] scope pos) 0 it acc env):=by rfl
theorem Qx(l8 target iter target2 m9:Expr)(ifs m8:List Expr)(scope:Scope)(pos:Pos)(it acc:Value)(env:Env):
  compTurn (.ListComp l8 [⟨target,iter,ifs,0⟩,⟨target2,m9,m8,0⟩] scope pos) 1 it acc env=qO m9.pos it target2 m8 env (do let _<-call (.builtin "list.append") [acc,<-eval l8 env]) (.compLoop (.ListComp l8 [⟨target,iter,ifs,0⟩,⟨target2,m9,m8,0⟩] scope pos) 1 it acc env):=by rfl
noncomputable def rP(p:Pos)(it:Value)(target:Expr)(ifs:List Expr)(env:Env)(m9:Expr)(k:Value->Code)(c:Code):Sem PySem.Fin:=do
 standAt p
 match<-pyNext it with
 |none=>pure (.done .next)
 |some v=>
  letOwnedTupleGo target it v
  assign target env v
  let mut ok:=true
  for c in ifs do
   if ok then ok<-isTrue c env (eval c env)
  if ok then
   let x<-eval m9 env
   standAt m9.pos
   let x<-foldedSetIterable m9 env x
   let _<-runOwn (k (<-holding [x] (pyIter x))) env
  again c
theorem Fd(l8 target iter target2 m9:Expr)(ifs m8:List Expr)(scope:Scope)(pos:Pos)(it acc:Value)(env:Env):
  compTurn (.ListComp l8 [⟨target,iter,ifs,0⟩,⟨target2,m9,m8,0⟩] scope pos) 0 it acc env=rP iter.pos it target ifs env m9
   (fun y=> .compStart (.ListComp l8 [⟨target,iter,ifs,0⟩,⟨target2,m9,m8,0⟩] scope pos) 1 y acc env) (.compLoop (.ListComp l8 [⟨target,iter,ifs,0⟩,⟨target2,m9,m8,0⟩] scope pos) 0 it acc env):=by rfl
section
variable {prog:Program}{w:World}{P:PS}{K:Frag}{b5:Heap}{T:Tab}{mg mb:Str->Option Value}{B:Bk}{A:Around}{env:Env}{b8:List bF}{b b':Bool}{F c6 d5:Fz}{fp c7 d4:Nat->List Addr}{s c5 c9:Shared}{σ b9 c8 d7:Sg}{h h':Heap}{X Y:Addr->Prop}{D:Addr}{tk:Nat}
class inductive SndTL (prog:Program) (w:World) (P:PS) (b5:Heap) (T:Tab) (B:Bk):List Tx->List Expr->Prop
 |nil:SndTL prog w P b5 T B [] []
 |cons {t:Tx} {X:Expr} {r:List Tx} {Xs:List Expr}:nO prog w P b5 T B t X->SndTL prog w P b5 T B r Xs->SndTL prog w P b5 T B (t::r) (X::Xs)
theorem SndTL.and{ts:List Tx}{Xs:List Expr}(x:SndTL prog w P b5 T B ts Xs):uE prog w P b5 T B ts Xs:=by
 induction x with
 |nil=>exact Eu
 |cons a _ ih=>exact Aw a ih
theorem SndTL.or{ts:List Tx}{Xs:List Expr}(x:SndTL prog w P b5 T B ts Xs):Av prog w P b5 T B ts Xs:=by
 induction x with
 |nil=>exact Ks
 |cons a _ ih=>exact Ev a ih
noncomputable abbrev mA(ifs:List Expr)(env:Env)(r0:Bool):Sem Bool:=forIn ifs r0 fun c r=>if r=true then do let ok<-isTrue c env (eval c env);pure (ForInStep.yield ok) else pure (ForInStep.yield r)
theorem Bq{ifs:List Expr}{Q:Bool->Shared->Prop}{E:Value->Shared->Prop}(h:Q false s):wpAny (model prog w) A (mA ifs env false) Q E s:=by
 unfold mA
 induction ifs with
 |nil=>exact aY h
 |cons c r ih=>
  rw[List.forIn_cons];refine aG ?_;rw[aR eX];exact aY ih
theorem Lj{ts:List Tx}{Xs:List Expr}(x:SndTL prog w P b5 T B ts Xs):∀{A:Around} {env:Env} {b8:List bF} {F:Fz} {σ:Sg} {fp:Nat->List Addr} {s:Shared} {v:Bool} {d7:Sg},Pre prog w P b5 B A env b8 F σ fp s->gB T ts σ=some (v,d7)->
  wpAny (model prog w) A (mA Xs env true) (qJ prog w P b8 (!mL ts) F fp s d7 v) NoE s:=by
 induction x with
 |nil=>
  intro A env b8 F σ fp s v d7 p ev;refine aU ev fun Q0 Q1=>?_;subst Q0;subst Q1;exact aY p.go.test
 | @cons t X r Xs ha hr ih=>
  intro A env b8 F σ fp s v d7 p ev;refine bG ev fun z b9 e1 ev=>?_;unfold mA;rw[List.forIn_cons];refine aG ?_;rw[aJ rfl];refine aG (ha.t p e1 fun c6 c7 c5 g1=>aY ?_)
  cases z with
  |true=>exact bX (ih (p.next g1) ev) (fun u c9 h2=>h2.after g1 fV kW) fun _ _ x=>x
  |false=>
   refine aU ev fun Q0 Q1=>?_;rename_i y0;clear ev y0;subst Q0;subst Q1;exact Bq (g1.up fV).test
def Qy(prog:Program)(w:World)(A:Around)(it:Value)(target:Expr)(ifs:List Expr)(env:Env)(EM:(Shared->Prop)->(Value->Shared->Prop)->Shared->Prop)(dn ag:Shared->Prop)(E:Value->Shared->Prop)(s:Shared):Prop:=
 wpAny (model prog w) A (pyNext it) (fun r c5=>match r with
  |none=>dn c5
  |some v=>wpAny (model prog w) A (letOwnedTupleGo target it v) (fun _ c9=>wpAny (model prog w) A (assign target env v) (fun _ g8=>wpAny (model prog w) A (mA ifs env true) (fun ok s₄=>
    if ok=true then EM ag E s₄ else ag s₄) E g8) E c9) E c5) E s
theorem Br{p:Pos}{it:Value}{target:Expr}{ifs:List Expr}{emit:Sem Unit}{c:Code}{Q:PySem.Fin->Shared->Prop}{E:Value->Shared->Prop}
  (h:Qy prog w A it target ifs env (fun K E s=>wpAny (model prog w) A emit (fun _=>K) E s) (Q (.done .next)) (Q (.again c)) E s):wpAny (model prog w) A (qO p it target ifs env emit c) Q E s:=by
 unfold qO;refine aG (wpAny_standAt (aG (bX h (fun r c5 d6=>?_) fun _ _ x=>x)))
 cases r with
 |none=>exact aY d6
 |some v=>
  refine aG (bX d6 (fun _ c9 i9=>aG (bX i9 (fun _ g8 h₃=>aG (bX h₃ (fun ok s₄ h₄=>?_) fun _ _ x=>x)) fun _ _ x=>x)) fun _ _ x=>x)
  cases ok with
  |false=>exact aY h₄
  |true=>exact aG (bX h₄ (fun _ s₅ h₅=>aY h₅) fun _ _ x=>x)
theorem Lk{p:Pos}{it:Value}{target:Expr}{ifs:List Expr}{m9:Expr}{k:Value->Code}{c:Code}{Q:PySem.Fin->Shared->Prop}{E:Value->Shared->Prop}(hf:fU m9=true)
  (h:Qy prog w A it target ifs env (fun K E s=>wpAny (model prog w) A (eval m9 env) (fun x c5=>wpAny (model prog w) A (pyIter x) (fun y c9=>codeAny (model prog w) A (k y) (fun r s'=>match r with
   | .ok _=>K s'
   | .error e=>cameBackBy (model prog w) A env E e s') c9) E c5) E s) (Q (.done .next)) (Q (.again c)) E s):wpAny (model prog w) A (rP p it target ifs env m9 k c) Q E s:=by
 unfold rP;refine aG (wpAny_standAt (aG (bX h (fun r c5 d6=>?_) fun _ _ x=>x)))
 cases r with
 |none=>exact aY d6
 |some v=>
  refine aG (bX d6 (fun _ c9 i9=>aG (bX i9 (fun _ g8 h₃=>aG (bX h₃ (fun ok s₄ h₄=>?_) fun _ _ x=>x)) fun _ _ x=>x)) fun _ _ x=>x)
  cases ok with
  |false=>exact aY h₄
  |true=>
   refine aG (bX h₄ (fun x s₅ h₅=>aG (wpAny_standAt (aG (wpAny_of_eq (pU hf) (aG (jN (bX h₅ (fun y s₆ h₆=>?_) fun _ _ x=>x))))))) fun _ _ x=>x);exact aG (wpAny_runOwn (codeAny_mono h₆ fun r s' hr=>by cases r with|ok f=>exact aY hr|error e=>exact hr))
inductive AccAt(prog:Program)(w:World)(F:Fz)(h:Heap)(D:Addr)(acc:List Mine.D):Prop
 |mk (items:Array Value) (n:Nat):h.get? D=some (listOf items n)->aM prog w F items.toList acc->AccAt prog w F h D acc
theorem AccAt.keep{acc:List Mine.D}(a:AccAt prog w F h D acc)(hF:F.Le c6)(hk:∀o,h.get? D=some o->h'.get? D=some o):AccAt prog w c6 h' D acc:=by obtain⟨items,n,hd,hr⟩:=a;exact⟨items,n,hk _ hd,hr.mono hF⟩
def gT(T:Tab)(t:Tgt)(ts:List Tx)(f:List Mine.D->Sg->Option (List Mine.D×Sg))(s:Sg)(x:Mine.D)(acc:List Mine.D):Option (List Mine.D×Sg):=
 (iS s t x).bind fun c5=>b2 (gB T ts c5) fun q c9=>bif q then f acc c9 else some (acc,c9)
inductive tE(prog:Program)(w:World)(P:PS)(b8:List bF)(X:Addr->Prop)(b:Bool)(F:Fz)(fp:Nat->List Addr)(s:Shared)(d7:Sg)(D:Addr)(acc:List Mine.D)(s':Shared):Prop
 |mk (F':Fz) (e9:Nat->List Addr):GoX prog w P b8 X b F fp s F' e9 s' d7->AccAt prog w F' s'.heap D acc->tE prog w P b8 X b F fp s d7 D acc s'
inductive aAS(prog:Program)(w:World)(P:PS)(b8:List bF)(X:Addr->Prop)(b:Bool)(F:Fz)(fp:Nat->List Addr)(s:Shared)(St:Nat->Heap->Prop)(D:Addr)(xs:List Mine.D)(f:Sg->Mine.D->List Mine.D->Option (List Mine.D×Sg))(out:List Mine.D×Sg)(k:Nat)(s':Shared):Prop
 |mk (i:Nat) (rest acc':List Mine.D) (F':Fz) (e9:Nat->List Addr) (d7:Sg):xs.drop i=rest->k=rest.length->GoX prog w P b8 X b F fp s F' e9 s' d7->St i s'.heap->i<=xs.length->AccAt prog w F' s'.heap D acc'->lY f rest acc' d7=some out->aAS prog w P b8 X b F fp s St D xs f out k s'
theorem wY{α:Type}{xs rest:List α}{d:α}{i:Nat}(h:xs.drop i=d::rest):xs[i]?=some d/\xs.drop (i+1)=rest/\i<xs.length:=by
 have h1:xs[i]?=some d:=by rw[<-Nat.add_zero i,<-List.getElem?_drop,h];rfl
 exact(cD h1 (by rw[<-List.tail_drop,h];rfl) ((hZ.mp h1).1))
theorem drop_nil{α:Type}{xs:List α}{i:Nat}(h:xs.drop i=[])(hi:i<=xs.length):i=xs.length:=Nat.le_antisymm hi (List.drop_eq_nil_iff.mp h)
theorem Qz{I:Addr}{xs:List Mine.D}{fpw:List Addr}{n:Nat}{Pv:Nat->Value->Prop}{St:Nat->Heap->Prop}{t:Tgt}{target:Expr}{ts:List Tx}{ifs:List Expr}{f:List Mine.D->Sg->Option (List Mine.D×Sg)}{acc accF:List Mine.D}{σF:Sg}
  {EM:(Shared->Prop)->(Value->Shared->Prop)->Shared->Prop} {c:Code} {R:Result->Shared->Prop} {s0:Shared} {F0:Fz} {fp0:Nat->List Addr}
  (hq:c.quiet=true)
  (hstep:∀(s:Shared) (ag:Shared->Prop),(∀E,Qy prog w A (.ref I) target ifs env EM (R (.ok .next)) (fun s'=>c=c/\ag s') E s)->wpAny (model prog w) (A.under c) ((model prog w).den c) (fun fin s'=>match fin with| .done f=>R (.ok f) s'| .again c'=>c'=c/\ag s') (fun e s'=>R (.error e) s') s)
  (hEM:∀(Kk Kk':Shared->Prop) (E:Value->Shared->Prop) (s:Shared),(∀s',Kk s'->Kk' s')->EM Kk NoE s->EM Kk' E s)
  (S:Src prog w A F I xs fpw n Pv St) (st:St 0 s.heap) (bl:Bl B env b8) (gd:Good B.lt A) (hb:∀a o,b5.get? a=some o->F a=some o)
  (tt:mX B t target=true) (hts:SndTL prog w P b5 T B ts ifs) (hb1:(!mL ts)=true->b=true)
  (hXt:∀i∈gG t,∀l,b8[i]?=some l->X l.addr) (hD:X D) (hDl:∀l∈b8,l.addr≠D) (hIX: ¬X I) (hlI:∀l∈b8,l.addr≠I)
  (hemit:∀F fp s σ acc acc' d7,Pre prog w P b5 B A env b8 F σ fp s->(∀a,X a->Apart F fp s.heap a)->AccAt prog w F s.heap D acc->f acc σ=some (acc',d7)->
   EM (tE prog w P b8 X b F fp s d7 D acc') NoE s)
  (x:GoX prog w P b8 X b F0 fp0 s0 F fp s σ) (hI0:s0.heap.get? I=none) (apI:Apart F fp s.heap I) (ha:AccAt prog w F s.heap D acc)
  (ev:lY (gT T t ts f) xs acc σ=some (accF,σF))
  (hR:∀s' F' e9,GoX prog w P b8 X b F0 fp0 s0 F' e9 s' σF->AccAt prog w F' s'.heap D accF->R (.ok .next) s'):
  codeAny (model prog w) A c R s:=by
 have hDI:D≠I:=fun q=>hIX (q▸hD);have nX:∀a,(∀l∈b8,l.addr≠a)-> ¬∃i∈gG t,∃l,b8[i]?=some l/\l.addr=a:=fun a h ⟨i,_,l,hl,e⟩=>h l (dT hl) e;refine codeAny_loop hq (aAS prog w P b8 (fun a=>X a\/a=I) b F fp s St D xs (gT T t ts f) (accF,σF)) ?_ xs.length
  ⟨0,xs,acc,F,fp,σ,rfl,rfl,GoX.refl x.fz x.fi (fun a q=>q.elim (x.ap a) fun q=>q▸apI),st,gS _,ha,ev⟩
 rintro k s' ⟨i,rest,acc',F',e9,d7,hdr,rfl,g,st',hi,ha',ev'⟩
 refine hstep s' _ fun E=>?_;unfold Qy
 cases rest with
 |nil=>
  apply bc;intro Z;obtain rfl:=drop_nil hdr hi;refine aU ev' fun Q0 Q1=>?_;clear ev;subst Q0;subst Q1;apply Z;clear Z;exact S.walks.done s' _ E (by rw[S.len];exact st') fun h' tk hk=>hR _ F' e9 (x.finish hI0 hIX g hlI fun a o hne e=>hk a o (fun q=>hne (dJ.mp q)) e) (ha'.keep (.refl _) fun o e=>hk D o (fun q=>hDI (dJ.mp q)) e)
 |cons d rest=>
  apply bc;intro Z;refine cZ (wY hdr) fun hxi hdr' hi'=>bG ev' fun acc'' σ'' e0 ev'=>bN e0 fun b9 e1 e0=>bG e0 fun z g6 e2 e0=>?_;apply Z;clear Z;refine Bp S g.mono g (.inr rfl) hlI hxi st' fun v d6 tk₁ rv st₁ hk₁ g₁=>Bo (S.quiet _ _ st₁) ?_;have z₀:GoX prog w P b8 (fun a=>∃i∈gG t,∃l,b8[i]?=some l/\l.addr=a) b F' e9 {s' with heap:=d6,toks:=tk₁} F' e9 {s' with heap:=d6,toks:=tk₁} d7:=
   GoX.refl g₁.fz g₁.fi fun a ⟨i,hi,l,hl,e⟩=>e▸g₁.fi.apart (dT hl)
  refine aBF gd.handled bl tt (fun j hj l hl=>(tT j hj l hl rfl)) z₀ rv e1 fun i9 tk₂ d4 z₁=>?_;have kD₂:∀o,d6.get? D=some o->i9.get? D=some o:=fun o e=>z₁.kept D o e (nX D hDl) fun _ ⟨j,hj⟩=>(g₁.ap D (.inl hD)).2.2 j hj;have kI₂:∀o,d6.get? I=some o->i9.get? I=some o:=fun o e=>z₁.kept I o e (nX I hlI) fun _ ⟨j,hj⟩=>(g₁.ap I (.inr rfl)).2.2 j hj;have g₂:=g₁.trans (z₁.widen (fun a ⟨i,hi,l,hl,e⟩=> .inl (e▸hXt i hi l hl)) g₁.ap);have st₂:St (i+1) i9:=S.stay (fun a o e=>g₁.fz a o (g.mono a o e)) (fun a o e=>g₂.fz a o (g₂.mono a o e)) kI₂ st₁;have p₂:Pre prog w P b5 B A env b8 F' b9 d4 {s' with heap:=i9,toks:=tk₂}:=⟨gd,bl,fun a o e=>g.mono a o (hb a o e),g₂.fz,g₂.fi⟩;refine bX (Lj hts p₂ e2) (fun ok g8 h3=>?_) fun _ _ x=>x.elim;apply bc;intro Z;obtain⟨i7,i8,q,rfl⟩:=h3;have q':=q.up hb1;have g₃:=g₂.trans (q'.toX g₂.ap);have st₃:=S.stay (fun a o e=>g₂.fz a o (g₂.mono a o e)) (fun a o e=>q.tr.fz a o (q.tr.mono a o (g₂.mono a o e))) (fun o e=>by rw[((g₂.ap I (.inr rfl)).go q).2];exact e) st₂;apply Z;clear Z;have a₃:AccAt prog w i7 g8.heap D acc':=ha'.keep q.tr.mono fun o e=>by rw[((g₂.ap D (.inl hD)).go q).2];exact kD₂ _ (hk₁ D _ hDI e)
  cases ok with
  |true=>
   refine hEM _ _ _ _ (fun s₄ h4=>?_) (hemit i7 i8 g8 g6 acc' acc'' σ'' (p₂.next q) (fun a qa=>g₃.ap a (.inl qa)) a₃ e0);apply bc;intro Z;obtain⟨F₄,fp₄,z,a₄⟩:=h4;apply Z;clear Z;exact(nF rfl _ (Nat.lt_succ_self _) ⟨i+1,rest,acc'',F₄,fp₄,σ'',hdr',rfl,g₃.trans (z.widen (fun a q=> .inl q) g₃.ap),S.stay (fun a o e=>g₃.fz a o (g₃.mono a o e)) (fun a o e=>z.fz a o (z.mono a o (g₃.mono a o e))) (fun o e=>z.kept I o e hIX fun _ ⟨j,hj⟩=>(g₃.ap I (.inr rfl)).2.2 j hj) st₃,hi',a₄,ev'⟩)
  |false=>
   apply bc;intro Z;refine aU e0 fun Q0 Q1=>?_;rename_i y0 y1;clear e0 y0 y1;subst Q0;subst Q1;apply Z;clear Z;exact(nF rfl _ (Nat.lt_succ_self _) ⟨i+1,rest,acc',i7,i8,_,hdr',rfl,g₃,st₃,hi',a₃,ev'⟩)
end
theorem gH:∀(names:List (Str×NameKind)) (n:Nat) (acc:List (Str×Addr)),cellsFrom n names acc=cellsFrom n names []++acc
 |[],n,acc=>rfl
 |(x,k)::r,n,acc=>by
  unfold cellsFrom
  split
  ·rw[gH r (n+1) ((x,n)::acc),gH r (n+1) [(x,n)]];simp
  ·exact gH r n acc
theorem kN:∀{names:List (Str×NameKind)} {n:Nat} {acc:List (Str×Addr)} {q:Str×Addr},q∈cellsFrom n names acc->(q.1,NameKind.cell)∈names\/q∈acc
 |[],n,acc,q,h=> .inr h
 |(x,k)::r,n,acc,q,h=>by
  unfold cellsFrom at h
  split at h
  ·rename_i hk;rcases kN h with h|h
   ·exact .inl (.tail _ h)
   ·rcases iA.mp h with rfl|h
    ·refine .inl ?_;rw[show k=NameKind.cell from by simpa using hk];exact .head _
    ·exact .inr h
  ·rcases kN h with h|h
   ·exact .inl (.tail _ h)
   ·exact .inr h
noncomputable def mB(cells:List (Str×Addr)):List (Str×NameKind)->List (Str×Addr)->List (Str×Addr)
 |[],acc=>acc
 |(x,k)::r,acc=>if k== .free then mB cells r ((x,(cells.lookup x).getD 0)::acc) else mB cells r acc
theorem rQ{cells:List (Str×Addr)}:∀{names:List (Str×NameKind)} {acc:List (Str×Addr)} {q:Str×Addr},q∈mB cells names acc->q.2=(cells.lookup q.1).getD 0\/q∈acc
 |[],acc,q,h=> .inr h
 |(x,k)::r,acc,q,h=>by
  unfold mB at h
  split at h
  ·rcases rQ h with h|h
   ·exact .inl h
   ·rcases iA.mp h with rfl|h
    ·exact .inl rfl
    ·exact .inr h
  ·exact rQ h
theorem rR{cells:List (Str×Addr)}:∀{names:List (Str×NameKind)} {acc:List (Str×Addr)} {x:Str},((x,NameKind.free)∈names\/∃c,(x,c)∈acc)->∃c,(x,c)∈mB cells names acc
 |[],acc,x,h=>h.elim (fun h=>by cases h) id
 |(y,k)::r,acc,x,h=>by
  unfold mB
  split
  ·refine rR ?_;rcases h with h|⟨c,h⟩
   ·rcases iA.mp h with e|h
    ·cases e;exact .inr ⟨_,.head _⟩
    ·exact .inl h
   ·exact .inr ⟨c,.tail _ h⟩
  ·rename_i hk;refine rR ?_;rcases h with h|h
   ·rcases iA.mp h with e|h
    ·cases e;exact absurd rfl hk
    ·exact .inl h
   ·exact .inr h
theorem pF{α:Type}:∀{l:List (Str×α)} {x:Str} {c:α},(x,c)∈l->∃c',l.lookup x=some c'
 |(y,d)::r,x,c,h=>by
  rw[List.lookup_cons]
  cases hb:x==y with
  |true=>exact⟨d,rfl⟩
  |false=>
   rcases iA.mp h with e|h
   ·cases e;simp at hb
   ·exact pF h
theorem wH{scope:Scope}{env:Env}(h:∀p∈scope.names,p.2= .free->∃c,env.cells.lookup p.1=some c):closureFor scope env=pure (mB env.cells scope.names []):=by
 simp only[closureFor];have key:∀(names:List (Str×NameKind)) (acc:List (Str×Addr)),(∀p∈names,p.2= .free->∃c,env.cells.lookup p.1=some c)->
   (forIn names acc fun(x:Str×NameKind) (r:List (Str×Addr))=>(match x with
    |(name,kind)=>if(kind==NameKind.free)=true then do
      let __do_lift<-cellOf env name
      pure (ForInStep.yield ((name,__do_lift)::r))
     else pure (ForInStep.yield r):Sem (ForInStep (List (Str×Addr)))))=pure (mB env.cells names acc):=by
  intro names
  induction names with
  |nil=>intro acc _;rfl
  |cons p r ih=>
   intro acc hp;obtain⟨x,k⟩:=p;rw[List.forIn_cons];unfold mB;by_cases hk:(k==NameKind.free)=true
   ·obtain⟨c,hc⟩:=hp (x,k) (.head _) (by simpa using hk);simp only[hk,if_true];unfold cellOf;rw[hc];simp only[pure_bind,Option.getD_some];exact ih _ fun q hq=>hp q (.tail _ hq)
   ·have hk':(k==NameKind.free)=false:=by simpa using hk
    simp only[hk',Bool.false_eq_true,if_false,pure_bind];exact ih _ fun q hq=>hp q (.tail _ hq)
 have k0:=key scope.names [] h
 first
  |(rw[k0];rfl)
  |(simp only[bind_pure_comp,map_eq_pure_bind];rw[k0];simp)
theorem nT{env:Env}:∀{names:List (Str×NameKind)} {x:Str} {k:NameKind},names.lookup x=some k->
  (names.map fun(n,k)=>if(k==NameKind.free&&env.scope.kind== .function&&env.kindOf n==some .cell) then(n,NameKind.cell) else(n,k)).lookup x=some (if(k==NameKind.free&&env.scope.kind== .function&&env.kindOf x==some .cell)=true then .cell else k)
 |[],_,_,h=>by simp at h
 |(n,k')::r,x,k,h=>by
  have ih:= @nT env r x k;show List.lookup x ((if(k'==NameKind.free&&env.scope.kind== .function&&env.kindOf n==some .cell)=true then(n,NameKind.cell) else(n,k'))::_)=_
  cases hx:x==n with
  |true=>
   simp only[List.lookup_cons,hx] at h
   cases h
   obtain rfl:=cX.mp hx
   split<;>simp[List.lookup_cons]
  |false=>
   simp only[List.lookup_cons,hx] at h;by_cases hc:(k'==NameKind.free&&env.scope.kind== .function&&env.kindOf n==some .cell)=true
   ·rw[aJ hc];simp only[List.lookup_cons,hx];exact ih h
   ·rw[aR hc];simp only[List.lookup_cons,hx];exact ih h
abbrev nC(sc:Scope)(env:Env)(C:Addr):Env:=
 {scope:=relabel sc env,locals:=C,globals:=env.globals,cells:=cellsFrom (C+1) sc.names (mB env.cells sc.names []),qual:=env.qual,func:=none,code:=env.code,frame:=env.frame,builtins:=env.builtins}
noncomputable def dN(sc:Scope)(C:Addr)(ts:List Str):List bF:=ts.map fun x=>if sc.names.lookup x=some .local then .ns C x else .cell (((cellsFrom (C+1) sc.names []).lookup x).getD 0)
def cM(sc:Scope)(C:Addr)(ts:List Str):List bF:=dN sc C ts++[.ns C (".0":Str)]
structure Bs(B:Bk)(ts:List Str)(sc:Scope):Prop where
 kind:sc.kind= .function
 dot:(".0":Str)∉ts
 nd:ts.Nodup
 tg:∀x∈ts,sc.names.lookup x=some .local\/sc.names.lookup x=some .cell
 look:∀p∈sc.names,sc.names.lookup p.1=some p.2
 free:∀p∈sc.names,p.2= .free->(B.sc.names.lookup p.1=some .cell\/B.sc.names.lookup p.1=some .free)/\(B.res.lookup p.1).isSome=true
theorem mO{B:Bk}{ts:List Str}{sc:Scope}(h:tB B ts sc=true):Bs B ts sc:=by simp only[tB,Bool.and_eq_true,List.all_eq_true,beq_iff_eq,decide_eq_true_eq,Bool.or_eq_true,bne_iff_ne,ne_eq] at h;obtain⟨⟨⟨⟨⟨⟨h1,h0⟩,h2⟩,h3⟩,h4⟩,h5⟩,h6⟩:=h;exact⟨h1,by simpa using h0,h2,h3,h4,fun p hp hf=>(h6 p hp).elim (fun q=>absurd hf q) fun q=>⟨q.1.1,q.1.2⟩⟩
section
variable {prog:Program}{w:World}{P:PS}{K:Frag}{b5:Heap}{T:Tab}{mg mb:Str->Option Value}{B:Bk}{A:Around}{env:Env}{b8:List bF}{b b':Bool}{F c6 d5:Fz}{fp c7 d4:Nat->List Addr}{s c5 c9:Shared}{σ b9 c8 d7:Sg}{h h':Heap}{X Y:Addr->Prop}{D:Addr}{tk:Nat}{ts:List Str}{sc:Scope}
theorem wZ(bl:Bl B env b8)(ok:Bs B ts sc){p:Str×NameKind}(hp:p∈sc.names)(hf:p.2= .free):∃i c,B.res.lookup p.1=some i/\b8[i]?=some (.cell c)/\env.cells.lookup p.1=some c:=by
 apply bc;intro Z;refine cK (ok.free p hp hf) fun h1 h2=>X1 (wU.mp h2) fun i hi=>aP (bl.res _ _ hi) fun l hl ho=>?_;apply Z;clear Z
 cases l with
 |ns L y=>
  apply bc;intro Z;refine cZ ho fun Q0 e2 e3=>?_;subst Q0;apply Z;clear Z;rcases h1 with h1|h1
  ·rcases bl.sc _ _ h1 with e|⟨e,_⟩
   ·rw[e] at e3;cases e3
   ·cases e
  ·rcases bl.sc _ _ h1 with e|⟨_,e⟩
   ·rw[e] at e3;cases e3
   ·rw[e] at e3;cases e3
 |cell c=>exact(dW i c hi hl ho.1)
theorem Bt{C:Addr}{x:Str}{c:Addr}(ok:Bs B ts sc)(h:sc.names.lookup x=some .free):(cellsFrom (C+1) sc.names []).lookup x=none:=by
 cases e:(cellsFrom (C+1) sc.names []).lookup x with
 |none=>rfl
 |some c=>
  rcases kN (mem_of_lookup e) with q|q
  ·have:=ok.look _ q;rw[h] at this;cases this
  ·cases q
theorem yS{C:Addr}{x:Str}(h:sc.names.lookup x=some .cell):∃c,(cellsFrom (C+1) sc.names []).lookup x=some c:=
 wU.mp (cellsFrom_some _ _ _ (.inl h))
theorem iF{C:Addr}{x:Str}(h:sc.names.lookup x=some .cell){P:Prop}(f:∀c,(cellsFrom (C+1) sc.names []).lookup x=some c->P):P:=X1 (yS h) f
theorem Ra{C:Addr}{x:Str}{k:NameKind}(e:sc.names.lookup x=some k):(nC sc env C).kindOf x=some (if(k==NameKind.free&&env.scope.kind== .function&&env.kindOf x==some .cell)=true then .cell else k):=nT (env:=env) e
theorem Rb(bl:Bl B env b8)(ok:Bs B ts sc)(C:Addr)(cok:CellsOk h (C+1) (cellsFrom (C+1) sc.names []))(hC:∀l∈b8,l.addr<C):Bl (jB B ts sc) (nC sc env C) (b8++cM sc C ts) where
 kind:=ok.kind
 glob:=bl.glob
 blt:=bl.blt
 res:=fun x i hx=>by
  have hm:=mem_of_lookup hx;rcases dF.mp hm with hm|hm
  ·obtain⟨k,hk,hi⟩:∃k,ts[k]?=some x/\i=B.ns+k:=by
    apply bc;intro Z;refine cZ (List.mem_zipIdx hm) fun h1 h2 h3=>?_;apply Z;clear Z;exact(aH (i-B.ns) (by rw[h3];exact fL _) (by lia))
   have hxt:x∈ts:=dT hk;refine(aH (if sc.names.lookup x=some .local then .ns C x else .cell (((cellsFrom (C+1) sc.names []).lookup x).getD 0)) ?_ ?_)
   ·rw[hi,<-bl.ns,List.getElem?_append_right (Nat.le_add_right _ _),Nat.add_sub_cancel_left];unfold cM dN;rw[sA (by rw[bT];exact(hZ.mp hk).1),eW,hk];rfl
   ·rcases ok.tg x hxt with e|e
    ·rw[aJ e];exact(cD rfl rfl (by show List.lookup x _=_;exact lookup_relabel_local e))
    ·rw[aR (by rw[e];exact nofun)];refine iF (C:=C) e fun c hc=>?_;refine⟨?_,.inl ?_⟩
     ·show List.lookup x (cellsFrom (C+1) sc.names _)=_;rw[gH,List.lookup_append,hc];rfl
     ·rw[Ra e];rfl
  ·apply bc;intro Z;refine aP (List.mem_filterMap.mp hm) fun p hp he=>?_;apply Z;clear Z
   split at he<;>try (cases he;done)
   apply bc;intro Z;rename_i hf;refine aP (Option.map_eq_some_iff.mp he) fun i' hi' e=>?_
   cases e
   have hf':p.2= .free:=cX.mp hf;refine cJ (wZ bl ok hp hf') fun i2 c q1 q2 q3=>?_;rw[hi'] at q1;cases q1;have hlk:sc.names.lookup p.1=some .free:=by rw[ok.look p hp,hf']
   apply Z;clear Z;refine(aH (.cell c) (by rw[sA (hZ.mp q2).1];exact q2) ⟨?_,?_⟩)
   ·show List.lookup p.1 (cellsFrom (C+1) sc.names _)=_;rw[gH,List.lookup_append,Bt (c:=c) ok hlk];show List.lookup p.1 (mB env.cells sc.names [])=some c;apply bc;intro Z;refine X1 (rR (cells:=env.cells) (names:=sc.names) (acc:=[]) (x:=p.1) (.inl (by rw[<-hf'];exact hp))) fun c0 hc0=>?_;refine X1 (pF hc0) fun c1 hc1=>?_;apply Z;clear Z;rcases rQ (mem_of_lookup hc1) with q|q
    ·have q':c1=(env.cells.lookup p.1).getD 0:=q;rw[hc1,q',q3];rfl
    ·cases q
   ·rw[Ra hlk]
    split
    ·exact .inl rfl
    ·exact .inr rfl
 apart:=by
  have adr:∀l∈dN sc C ts,∃x∈ts,(l= .ns C x/\sc.names.lookup x=some .local)\/∃c,l= .cell c/\C<c:=fun l hl=>by
   apply bc;intro Z;unfold dN at hl;refine aP (eO.mp hl) fun x hx e=>?_;apply Z;clear Z;refine(aH x hx ?_);rcases ok.tg x hx with q|q
   ·rw[aJ q] at e;exact .inl ⟨e.symm,q⟩
   ·rw[aR (by rw[q];exact nofun)] at e;refine iF (C:=C) q fun c hc=>?_;rw[hc] at e;exact .inr (aH c e.symm ((cok.empty x c (mem_of_lookup hc)).2))
  refine List.nodup_append.mpr (cD bl.apart ?_ (fun l hl l' hl' q=>?_))
  ·refine List.nodup_append.mpr (cD ?_ (by simp) (fun l hl l' hl' q=>?_))
   ·unfold dN;refine List.pairwise_map.mpr (List.Pairwise.imp_of_mem (fun{x y} hx hy hne e=>hne ?_) ok.nd);rcases ok.tg x hx with q|q<;>rcases ok.tg y hy with q'|q'
    ·rw[aJ q,aJ q'] at e;injection e
    ·rw[aJ q,aR (by rw[q'];exact nofun)] at e
     cases e
    ·rw[aJ q',aR (by rw[q];exact nofun)] at e
     cases e
    ·apply bc;intro Z;rw[aR (by rw[q];exact nofun),aR (by rw[q'];exact nofun)] at e;refine iF (C:=C) q fun c hc=>iF (C:=C) q' fun c' hc'=>?_;rw[hc,hc'] at e;have e':c=c':=by injection e
     subst e';apply Z;clear Z;exact name_of_addr cok.apart (mem_of_lookup hc) (mem_of_lookup hc')
   ·rw[dJ.mp hl'] at q;obtain⟨x,hx,⟨e,_⟩|⟨c,e,_⟩⟩:=adr l hl
    ·rw[e] at q;injection q with _ q;exact ok.dot (q▸hx)
    ·rw[e] at q;cases q
  ·subst q;have h1:=hC l hl;rcases dF.mp hl' with hl'|hl'
   ·obtain⟨x,hx,⟨e,_⟩|⟨c,e,hc⟩⟩:=adr l hl'
    ·rw[e] at h1;exact jL _ h1
    ·rw[e] at h1;exact jL _ (Nat.lt_trans (show c<C from h1) hc)
   ·rw[dJ.mp hl'] at h1;exact jL _ h1
 sc:=fun x k hx=>by
  have hx':sc.names.lookup x=some k:=hx;rw[Ra hx']
  split
  ·rename_i q;simp only[Bool.and_eq_true,beq_iff_eq] at q;exact .inr ⟨q.1.1,rfl⟩
  ·exact .inl rfl
 ns:=by show(b8++cM sc C ts).length=B.ns+ts.length+1;rw[dI,bl.ns];unfold cM dN;rw[dI,bT];rfl
variable {nl:List bF}{C:Addr}
theorem Fe{cl:List (Str×Addr)}{Q:Env->Shared->Prop}{E:Value->Shared->Prop}
  (h:Q {scope:=sc,locals:=s.heap.objs.size,globals:=env.globals,cells:=cellsFrom (s.heap.objs.size+1) sc.names cl,qual:=env.qual,func:=none,code:=env.code,frame:=env.frame,builtins:=env.builtins}
   {s with heap:=pushCells (s.heap.push {cls:= .type "dict",data:= .dict #[]}) sc.names}):
  wpAny (model prog w) A (newFunctionEnv sc env.globals cl [] env.qual none .none (some env)) Q E s:=by
 simp only[newFunctionEnv,Option.isSome_some,if_true];refine aG (wpAny_alloc ?_);refine aG (wpAny_layCells _ (fun name kind cells=>by cases hkc:kind==NameKind.cell<;>simp[hkc]) _ _ _ _ ?_);rw[show({s with heap:=s.heap.push {cls:= .type "dict",data:= .dict #[]}}:Shared).heap.objs.size=s.heap.objs.size+1 from Heap.size_push ..];exact aG (aY (aY h))
theorem xA{ρ:List (Option V)}{i:Nat}{v:V}(h:(σ++ρ:Sg).get i=some v)(hρ:∀x∈ρ,x=none):σ.get i=some v:=by
 unfold Sg.get at h ⊢;by_cases hi:i<σ.length
 ·rw[sA hi] at h;exact h
 ·rw[List.getElem?_append_right (Nat.le_of_not_lt ‹_›)] at h
  cases e:ρ[i-σ.length]? with
  |none=>rw[e] at h;exact(nn h).elim
  |some x=>rw[e,hρ x (dT e)] at h;exact(nn h).elim
theorem Fi.extend{n:Nat}(fi:Fi prog w P h F b8 σ fp)(hn:nl.length=n)(hk:∀a o,h.get? a=some o->h'.get? a=some o)(ht:∀l∈nl,l.There h'/\h.get? l.addr=none/\F l.addr=none):Fi prog w P h' F (b8++nl) (σ++List.replicate n none) fp where
 len:=by rw[dI,dI,List.length_replicate,fi.len,hn]
 there:=fun l hl=>by
  rcases dF.mp hl with hl|hl
  ·exact(fi.there l hl).keep fun o e=>hk _ o e
  ·exact(ht l hl).1
 sl:=fun i v e=>by apply bc;intro Z;refine cJ (fi.sl i v (xA e fun x hx=>(List.mem_replicate.mp hx).2)) fun l y h1 h2 h3=>?_;apply Z;clear Z;exact(dW l y (by rw[sA (hZ.mp h1).1];exact h1) (h2.keep fun o e=>hk _ o e) (h3.mono (.refl F) fun a _ o e=>hk a o e))
 emp:=fun i e=>by
  cases e':σ.get i with
  |none=>exact fi.emp i e'
  |some v=>
   have hi:=Sg.lt_of_get e';have:(σ++List.replicate n none:Sg).get i=σ.get i:=by unfold Sg.get;rw[sA hi]
   exact dL e' (this▸e)
 dj:=fi.dj
 off:=fun i a ha=>⟨(fi.off i a ha).1,fun l hl q=>by
  rcases dF.mp hl with hl|hl
  ·exact(fi.off i a ha).2 l hl q
  ·exact X1 (fi.own_there ha) fun o ho=>dL ho (q▸(ht l hl).2.1)⟩
 offL:=fun l hl=>by
  rcases dF.mp hl with hl|hl
  ·exact fi.offL l hl
  ·exact(ht l hl).2.2
theorem lG{c:Prop}[Decidable c]{x:List Addr}{a:Addr}(h:a∈(if c then x else[])):a∈x:=(fS h).elim (·.2) fun h=>nomatch h.2
theorem Fi.restrict(fi:Fi prog w P h F (b8++nl) σ fp):Fi prog w P h F b8 (σ.take b8.length) (fun i=>if i<b8.length then fp i else[]) where
 len:=by rw[List.length_take,fi.len,dI];lia
 there:=fun l hl=>fi.there l (dF.mpr (.inl hl))
 sl:=fun i v e=>by
  apply bc;intro Z;have hi:i<b8.length:=by have:=Sg.lt_of_get e;rw[List.length_take] at this;lia
  have e':σ.get i=some v:=by
   unfold Sg.get at e ⊢
   rwa [List.getElem?_take_of_lt hi] at e
  refine cJ (fi.sl i v e') fun l y h1 h2 h3=>?_;apply Z;clear Z;rw[aJ hi];exact(dW l y (by rwa [sA hi] at h1) h2 h3)
 emp:=fun i e=>by
  split
  ·rename_i hi;refine fi.emp i ?_;unfold Sg.get at e ⊢
   rwa [List.getElem?_take_of_lt hi] at e
  ·rfl
 dj:=fun i j a hi hj=>fi.dj i j a (lG hi) (lG hj)
 off:=fun i a ha=>⟨(fi.off i a (lG ha)).1,fun l hl=>(fi.off i a (lG ha)).2 l (List.mem_append_left _ hl)⟩
 offL:=fun l hl=>fi.offL l (dF.mpr (.inl hl))
theorem Ff(p:Pre prog w P b5 B A env b8 F σ fp s)(g:GoX prog w P (b8++nl) X b F fp s c6 c7 c5 d7)(hX:∀a,X a->s.heap.get? a=none)(hC:X C)(hk:∀a o,a≠C->c5.heap.get? a=some o->h'.get? a=some o):
  Go prog w P b8 b F fp s c6 (fun i=>if i<b8.length then c7 i else[]) {c5 with heap:=h',toks:=tk} (d7.take b8.length):=by
 apply bc;intro Z;refine cZ (g.ap C hC) fun _ c1 c2=>?_;have ne:∀{a o},s.heap.get? a=some o->a≠C:=fun e q=>dL e (q▸hX C hC);apply Z;clear Z;refine⟨⟨g.mono,fun a o e m=>hk a o (ne e) (g.kept a o e (fun q=>dL e (hX a q)) m),fun a e=>?_,fun a o e=>hk a o (fun q=>dL e (q▸c1)) (g.fz a o e),g.fresh,by rw[g.rest]⟩,g.fi.restrict.keepBut hk (fun l hl q=>?_) (fun i hi=>c2 i (lG hi)),fun i a hi=>g.sub i a (lG hi)⟩
 ·by_cases q:a=C
  ·rw[q];exact hX C hC
  ·refine g.alive a ?_
   cases e':c5.heap.get? a with
   |none=>rfl
   |some o=>exact dL (hk a o q e') e
 ·exact X1 ((p.fi.there l hl).some) fun o ho=>dL ho (q▸hX C hC)
theorem Rc(fi:Fi prog w P h F b8 σ fp){l:bF}(hl:l∈b8):l.addr<h.objs.size:=by exact X1 ((fi.there l hl).some) fun o ho=>eN ho
structure aAT(prog:Program)(w:World)(P:PS)(b5:Heap)(B':Bk)(A:Around)(env':Env)(b8 nl:List bF)(b:Bool)(F0:Fz)(fp0:Nat->List Addr)(s0:Shared)(D C:Addr)(F:Fz)(fp:Nat->List Addr)(s:Shared)(σ:Sg):Prop where
 go:GoX prog w P (b8++nl) (fun a=>a=D\/∃l∈nl,l.addr=a) b F0 fp0 s0 F fp s (σ++List.replicate nl.length none)
 bl:Bl B' env' (b8++nl)
 new:∀a,(a=D\/∃l∈nl,l.addr=a)->s0.heap.get? a=none
 acc:AccAt prog w F s.heap D []
 dl:∀l∈b8++nl,l.addr≠D
 ns:bF.ns C (".0":Str)∈nl
theorem Rd{I:Addr}(p:Pre prog w P b5 B A env b8 F σ fp s)(ok:Bs B ts sc)(g:Go prog w P b8 b F fp s c6 c7 c5 b9){Q:Value->Env->Shared->Prop}{E:Value->Shared->Prop}
  (h:∀c9 C,aAT prog w P b5 (jB B ts sc) A (nC sc env C) b8 (cM sc C ts) b F fp s c5.heap.objs.size C c6 c7 c9 b9->(∀a o,c5.heap.get? a=some o->c9.heap.get? a=some o)->C≠I->c5.heap.objs.size≠I->
   (∀l∈b8++cM sc C ts,(l∈b8\/c5.heap.get? l.addr=none))->
   Q (.ref c5.heap.objs.size) {scope:=sc,locals:=C,globals:=env.globals,cells:=cellsFrom (C+1) sc.names (mB env.cells sc.names []),qual:=env.qual,func:=none,code:=env.code,frame:=env.frame,builtins:=env.builtins} c9) (hI:∃o,c5.heap.get? I=some o):
  wpAny (model prog w) A (newList []) (fun acc g8=>wpAny (model prog w) A (newFunctionEnv sc env.globals (mB env.cells sc.names []) [] env.qual none .none (some env)) (Q acc) E g8) E c5:=by
 refine wpAny_newObj_type (Fe ?_);have hs1:(c5.heap.push {cls:= .type "list",dict:=none,data:= .seq ([]:List Value).toArray}).objs.size=c5.heap.objs.size+1:=Heap.size_push ..;generalize hH:c5.heap.push {cls:= .type "list",dict:=none,data:= .seq ([]:List Value).toArray}=H at hs1 ⊢;have kH:∀a o,c5.heap.get? a=some o->H.get? a=some o:=fun a o e=>hH▸bM _ e;have kC:∀a o,H.get? a=some o->(pushCells (H.push {cls:= .type "dict",data:= .dict #[]}) sc.names).get? a=some o:=fun a o e=>pushCells_keeps _ _ a o (bM _ e);have cok:=cellsFrom_ok sc.names (H.push {cls:= .type "dict",data:= .dict #[]}) (H.objs.size+1) [] ⟨fun _ _ hm=>(nomatch hm),List.Pairwise.nil⟩ (by rw[Heap.size_push];exact eQ _);rw[Heap.size_push] at cok;have hDs:c5.heap.get? c5.heap.objs.size=none:=cS _;have hDH:H.get? c5.heap.objs.size=some (listOf #[] 0):=by rw[<-hH];exact dQ _ rfl
 have nw:∀l∈cM sc H.objs.size ts,l.There (pushCells (H.push {cls:= .type "dict",data:= .dict #[]}) sc.names)/\H.objs.size<=l.addr:=by
  intro l hl;have hns:(bF.ns H.objs.size (".0":Str)).There (pushCells (H.push {cls:= .type "dict",data:= .dict #[]}) sc.names):=⟨_,(Heap.Ns.new H (.type "dict")).keeps (pushCells_keeps _ _)⟩;rcases dF.mp hl with hl|hl
  ·unfold dN at hl;refine aP (eO.mp hl) fun x hx e=>?_;rcases ok.tg x hx with q|q
   ·rw[aJ q] at e;rename_i y0;clear y0;subst e;exact⟨hns,eQ _⟩
   ·rw[aR (by rw[q];exact nofun)] at e;refine iF (C:=H.objs.size) q fun c hc=>?_;rw[hc] at e;rename_i y0;clear y0;subst e;refine cK (cok.empty x c (mem_of_lookup hc)) fun q1 q2=>?_;exact⟨⟨_,q1⟩,Nat.le_of_succ_le q2⟩
  ·rw[dJ.mp hl];exact⟨hns,eQ _⟩
 have le1:c5.heap.objs.size<=H.objs.size:=by rw[hs1];exact Nat.le_succ _
 have lt1:c5.heap.objs.size<H.objs.size:=by rw[hs1];exact Nat.lt_succ_self _
 have fr:∀l∈cM sc H.objs.size ts,c5.heap.get? l.addr=none:=fun l hl=>Heap.get?_none_of_le (iU le1 (nw l hl).2);have g3:Go prog w P b8 b F fp s c6 c7 {c5 with heap:=pushCells (H.push {cls:= .type "dict",data:= .dict #[]}) sc.names,toks:=c5.toks} b9:=g.more fun a o e=>kC a o (kH a o e);have fi3:=g.fi.extend (nl:=cM sc H.objs.size ts) (n:=(cM sc H.objs.size ts).length) rfl (fun a o e=>kC a o (kH a o e)) fun l hl=>(cD ((nw l hl).1) (fr l hl) (Fz.none_of g.tr.fz (fr l hl)));have new:∀a,(a=c5.heap.objs.size\/∃l∈cM sc H.objs.size ts,l.addr=a)->c5.heap.get? a=none:=fun a q=>by
  rcases q with rfl|⟨l,hl,rfl⟩
  ·exact hDs
  ·exact fr l hl
 refine X1 hI fun oI hoI=>h _ _ ⟨⟨g3.tr.mono,fun a o e _ m=>g3.tr.kept a o e m,g3.tr.alive,g3.tr.fz,g3.tr.fresh,g3.tr.rest,fi3,g3.sub,fun a q=>?_⟩,Rb p.bl ok _ cok fun l hl=>?_,fun a q=>g.tr.alive a (new a q),⟨#[],0,kC _ _ hDH,.nil⟩,fun l hl q=>?_,dF.mpr (.inr (.head _))⟩ (fun a o e=>kC a o (kH a o e)) (fun q=>?_) (fun q=>?_) fun l hl=>?_
 ·have e:=new a q;refine(cD ?_ (Fz.none_of g.tr.fz e) (g.fi.off_new e));rcases q with rfl|⟨l,hl,rfl⟩
  ·exact⟨_,kC _ _ hDH⟩
  ·exact(nw l hl).1.some
 ·exact nE (Rc g.fi hl) le1
 ·rcases dF.mp hl with hl|hl
  ·have:=Rc g.fi hl;rw[q] at this;exact jL _ this
  ·have:=(nw l hl).2;rw[q] at this;exact jL _ (nE lt1 this)
 ·have:=eN hoI;rw[<-q] at this;exact jL _ (nE this le1)
 ·have:=eN hoI;rw[<-q] at this;exact jL _ this
 ·rcases dF.mp hl with hl|hl
  ·exact .inl hl
  ·exact .inr (fr l hl)
theorem AccAt.go{acc:List Mine.D}(ap:Apart F fp s.heap D)(g:Go prog w P b8 b F fp s c6 c7 c5 b9)(a:AccAt prog w F s.heap D acc):AccAt prog w c6 c5.heap D acc:=
 a.keep g.tr.mono fun o e=>(ap.go g).2.trans e
theorem Ie{l8:Ex}{x:Expr}{acc acc':List Mine.D}(he:Snd prog w P b5 T B l8 x)(hb1:(!pureE l8)=true->b=true)(hD:X D)(hDl:∀l∈b8,l.addr≠D)(p:Pre prog w P b5 B A env b8 F σ fp s)(ap:∀a,X a->Apart F fp s.heap a)(ha:AccAt prog w F s.heap D acc)
  (ev:sF (evE T l8 σ) acc=some (acc',d7)):wpAny (model prog w) A (do let _<-call (.builtin "list.append") [.ref D,<-eval x env]) (fun _=>tE prog w P b8 X b F fp s d7 D acc') NoE s:=by
 apply bc;intro Z;refine bE ev fun y b9 e1 ev=>aQ ev fun hl ev=>aU ev fun Q0 Q1=>?_;rename_i y0 y1;clear ev y0 y1;subst Q0;subst Q1;apply Z;clear Z;refine aG (he.d p e1 fun u c6 c7 c5 g1 r1=>?_);apply bc;intro Z;obtain⟨items,n,hd,hr⟩:=AccAt.go (ap D hD) g1 ha;apply Z;clear Z;refine aG (wpAny_list_append_plain (hsz:=gF (by rw[dM hr];exact hl)) (⟨n,hd⟩:c5.heap.PlainList D items) fun h' hp hs=>aY ?_);refine X1 hp fun n' hp=>?_;have gX:=(g1.up hb1).toX ap;refine⟨c6,c7,gX.trans (GoX.poke (tk:=c5.toks) gX.fz gX.fi gX.ap hD hDl (fun a o hne e=>(hs.2 a hne).trans e) ⟨_,hp⟩),items.push u,n',hp,?_⟩;rw[Array.toList_push];exact hr.append (.one r1)
inductive xB(prog:Program)(w:World)(P:PS)(b8:List bF)(b:Bool)(F:Fz)(fp:Nat->List Addr)(s:Shared)(d7:Sg)(v:V)(x:Value)(C:Addr)(s':Shared):Prop
 |mk (F':Fz) (e9:Nat->List Addr) (fx:List Addr):Go prog w P b8 b F fp s F' e9 s' d7->hO prog w P F' s'.heap x v fx->(∀a∈fx,s.heap.get? a=none/\F' a=none/\∀i,a∉e9 i)->F' C=none->(∀i,C∉e9 i)->C∉fx->s.heap.get? C=none->(∃m,s'.heap.Ns C m)->xB prog w P b8 b F fp s d7 v x C s'
def uK(prog:Program)(w:World)(P:PS)(b5:Heap)(T:Tab)(B:Bk)(e:Ex)(E:Expr):Prop:=∀l8 gens sc pos,E= .ListComp l8 gens sc pos->∀A env b8 F σ fp s v d7,Pre prog w P b5 B A env b8 F σ fp s->evE T e σ=some (v,d7)->
 ∀(use:Option (Value->Sem Unit)) (Q:Value->Shared->Prop),(∀s₅ x C,xB prog w P b8 (!pureE e) F fp s d7 v x C s₅->compPost (model prog w) A NoE use Q x C (.ok .next) s₅)->
 wpAny (model prog w) A (comprehension E sc env (firstIterPos gens pos) (newList []) (firstAsync gens) (firstIter gens env) use) Q NoE s
theorem GoX.letGo(g:GoX prog w P b8 X b F fp s c6 c7 c5 b9)(hC:s.heap.get? C=none)(h1:c6 C=none)(h2:∀i,C∉c7 i)(hCX: ¬X C)(hl:∀l∈b8,l.addr≠C)(hk:∀a o,a≠C->c5.heap.get? a=some o->h'.get? a=some o):
  GoX prog w P b8 X b F fp s c6 c7 {c5 with heap:=h',toks:=tk} b9:=by
 have ne:∀{a o},s.heap.get? a=some o->a≠C:=fun e q=>dL e (q▸hC);refine⟨g.mono,fun a o e n m=>hk a o (ne e) (g.kept a o e n m),fun a e=>?_,fun a o e=>hk a o (fun q=>dL e (q▸h1)) (g.fz a o e),g.fresh,by rw[g.rest],g.fi.keepBut hk hl h2,g.sub,fun a q=>?_⟩
 ·by_cases q:a=C
  ·rw[q];exact hC
  ·refine g.alive a ?_
   cases e':c5.heap.get? a with
   |none=>rfl
   |some o=>exact dL (hk a o q e') e
 ·apply bc;intro Z;refine cZ (g.ap a q) fun Q0 k1 k2=>?_;obtain⟨o,k0⟩:=Q0;apply Z;clear Z;exact(cD ⟨o,hk a o (fun q'=>hCX (q'▸q)) k0⟩ k1 k2)
theorem Go.noX(g:Go prog w P b8 b F fp s c6 c7 c5 b9):GoX prog w P b8 (fun _=>False) b F fp s c6 c7 c5 b9:=g.toX fun _ q=>q.elim
theorem uK.snd{e:Ex}{l8:Expr}{gens:List Comprehension}{sc:Scope}{pos:Pos}(h:uK prog w P b5 T B e (.ListComp l8 gens sc pos)):Snd prog w P b5 T B e (.ListComp l8 gens sc pos):=by
 intro A env b8 F σ fp s v d7 p ev;rw[eval_ListComp];refine h _ _ _ _ rfl A env b8 F σ fp s v d7 p ev none _ fun s₅ x C hp=>?_;apply bc;intro Z;obtain⟨F',e9,fx,g,r,n,c1,c2,c3,c4,m,hm⟩:=hp;have lC:∀l∈b8,l.addr≠C:=fun l hl q=>by obtain⟨o,ho⟩:=(p.fi.there l hl).some;exact dL ho (q▸c4)
 apply Z;clear Z;refine(aH m hm (fun h' hs=>⟨F',e9,fx,(g.noX.letGo (tk:=s₅.toks) c4 c1 c2 (fun q=>q) lC fun a o hne e=>(hs.2 a hne).trans e).toGo (fun _ q=>q.elim),r.mono (.refl F') fun a ha o e=>(hs.2 a (fun q=>c3 (q▸ha))).trans e,n⟩))
abbrev XX(D:Addr)(sc:Scope)(C:Addr)(ts:List Str)(a:Addr):Prop:=a=D\/∃l∈cM sc C ts,l.addr=a
structure aBG(prog:Program)(w:World)(P:PS)(b5:Heap)(B:Bk)(A:Around)(env:Env)(b8:List bF)(b:Bool)(F:Fz)(fp:Nat->List Addr)(s:Shared)(xs:List Mine.D)(b9:Sg)(ts:List Str)(sc:Scope)(I D C:Addr)(d5:Fz)(d4:Nat->List Addr)(g8:Shared)(fpw:List Addr)(n:Nat)(Pv:Nat->Value->Prop)(St:Nat->Heap->Prop):Prop where
 en:aAT prog w P b5 (jB B ts sc) A (nC sc env C) b8 (cM sc C ts) b F fp s D C d5 d4 g8 b9
 src:Src prog w A d5 I xs fpw n Pv St
 st:St 0 g8.heap
 li:∀l∈b8++cM sc C ts,l.addr≠I
 ix: ¬XX D sc C ts I
 ap:Apart d5 d4 g8.heap I
 i0:s.heap.get? I=none
 le:F.Le d5
 slot:∀i,B.ns<=i->∀l,(b8++cM sc C ts)[i]?=some l->XX D sc C ts l.addr
 done:∀s' F' e9 d7 acc,GoX prog w P (b8++cM sc C ts) (XX D sc C ts) b F fp s F' e9 s' d7->AccAt prog w F' s'.heap D acc->xB prog w P b8 b F fp s (d7.take b9.length) (.c (.lst acc)) (.ref D) C s'
theorem Ig(kn:Known prog w P K b5 T mg mb B.lt){it:It}{x y iter:Expr}{cs:List Expr}{gs:List Comprehension}{pos:Pos}{xs:List Mine.D}{use:Option (Value->Sem Unit)}{Qq:Value->Shared->Prop}(ok:Bs B ts sc)(hip:fU iter=true)(hit:nS prog w P b5 T B it iter)(p:Pre prog w P b5 B A env b8 F σ fp s)
  (e1:evI T it σ=some (xs,b9)) (b1:(!Al it)=true->b=true)
  (h:∀I D C d5 d4 g8 fpw n Pv St,aBG prog w P b5 B A env b8 b F fp s xs b9 ts sc I D C d5 d4 g8 fpw n Pv St->
   codeAny (model prog w) A (.compLoop (.ListComp x (⟨y,iter,cs,0⟩::gs) sc pos) 0 (.ref I) (.ref D) (nC sc env C)) (compPost (model prog w) A NoE use Qq (.ref D) C) g8):
  wpAny (model prog w) A (comprehension (.ListComp x (⟨y,iter,cs,0⟩::gs) sc pos) sc env (firstIterPos (⟨y,iter,cs,0⟩::gs) pos) (newList []) (firstAsync (⟨y,iter,cs,0⟩::gs)) (firstIter (⟨y,iter,cs,0⟩::gs) env) use) Qq NoE s:=by
 refine wpAny_comprehension_free (use:=use) (g:=⟨y,iter,cs,0⟩) (gs:=gs) rfl (fun x=>pU hip) (wH fun q hq hf=>(wZ p.bl ok hq hf).elim fun _ q=>q.imp fun c q=>q.2.2) ok.kind (fun q hq hl=>by rw[ok.look q hq,hl]) ?_;refine bX (hit A env b8 F σ fp s _ _ p e1) (fun xv c5 h1=>bX h1 (fun iv c9 h2=>?_) fun _ _ x=>x) fun _ _ x=>x;apply bc;intro Z;obtain⟨I,d5,d4,fpw,nn,Pv,St,rfl,g,hI0,apI,S,st⟩:=h2;apply Z;clear Z;refine Rd (I:=I) p ok (g.up b1) (fun g8 C en hk hCI hDI hfr=>?_) apI.1;have lI:∀l∈b8++cM sc C ts,l.addr≠I:=fun l hl q=>by
  rcases hfr l hl with h|h
  ·exact X1 ((p.fi.there l h).some) fun o ho=>dL ho (q▸hI0)
  ·exact X1 apI.1 fun o ho=>dL ho (q▸h)
 have st3:St 0 g8.heap:=S.stay (fun a o e=>g.tr.fz a o e) (fun a o e=>hk a o (g.tr.fz a o e)) (fun o e=>hk I o e) st;have loop:=h I c9.heap.objs.size C d5 d4 g8 fpw nn Pv St ⟨en,S,st3,lI,fun q=>q.elim (fun q=>hDI q.symm) fun⟨l,hl,q⟩=>lI l (List.mem_append_right _ hl) q,apI.keep hk,hI0,g.tr.mono,fun i hlt l hl=> .inr ⟨l,(by
   rw[List.getElem?_append_right (by rw[p.bl.ns];exact hlt)] at hl;exact dT hl),rfl⟩,fun s' F' e9 d7 acc gg aa=>by
  apply bc;intro Z;obtain⟨items,nn',hd,hr⟩:=aa;have hCX:XX c9.heap.objs.size sc C ts C:= .inr ⟨_,en.ns,rfl⟩;refine cZ (gg.ap c9.heap.objs.size (.inl rfl)) fun _ d1 d2=>cZ (gg.ap C hCX) fun _ f1 f2=>?_;apply Z;clear Z;rw[show b9.length=b8.length from g.fi.len];exact⟨F',_,[c9.heap.objs.size],Ff (h':=s'.heap) (tk:=s'.toks) p gg en.new hCX fun a o hne e=>e,⟨_,rfl,kn.gl.above (p.next g).keeps,⟨_,hd,items,nn',rfl,hr⟩,rfl⟩,fun a ha=>(by rw[dJ.mp ha];exact⟨en.new _ (.inl rfl),d1,fun i hi=>d2 i (lG hi)⟩),f1,fun i hi=>f2 i (lG hi),fun q=>en.dl _ (List.mem_append_right _ en.ns) (dJ.mp q),en.new C hCX,gg.fi.there _ (List.mem_append_right _ en.ns)⟩⟩
 exact codeAny_compStart_list loop (S.walks.self 0 _ _ _ st3 loop)
theorem sJ{C:Addr}:(cM sc C ts).length=ts.length+1:=by unfold cM dN;rw[dI,bT];rfl
theorem xC(kn:Known prog w P K b5 T mg mb B.lt){n:Nat}{l8:Ex}{t:Tgt}{it:It}{ifs:List Tx}{x y iter:Expr}{cs:List Expr}{pos:Pos}(hn:ts.length+1=n)(ok:Bs B ts sc)(ht:mX (jB B ts sc) t y=true)(hip:fU iter=true)
  (hit:nS prog w P b5 T B it iter) (hts:SndTL prog w P b5 T (jB B ts sc) ifs cs) (he:Snd prog w P b5 T (jB B ts sc) l8 x) (htn:∀i∈gG t,B.ns<=i):
  uK prog w P b5 T B (.comp n l8 t it ifs) (.ListComp x [⟨y,iter,cs,0⟩] sc pos):=by
 intro _ _ _ _ hE A env b8 F σ fp s v d7 p ev use Qq hfin;apply bc;intro Z;refine pP (Expr.ListComp.inj hE) fun Q0 Q1 Q2 Q3=>?_;clear hE;subst Q0;subst Q1;subst Q2;subst Q3;refine bG ev fun xs b9 e1 ev=>bG ev fun acc c8 e2 ev=>aU ev fun Q0 Q1=>?_;rename_i y0 y1;clear ev y0 y1;subst Q0;subst Q1;apply Z;clear Z;refine Ig (b:= !pureE (.comp n l8 t it ifs)) kn ok hip hit p e1 (fun q=>fV (kW q)) fun I D C d5 d4 g8 fpw nn Pv St ci=>Qz (B:=jB B ts sc) (b5:=b5) (T:=T) (X:=XX D sc C ts) (D:=D) (I:=I) (f:=fun acc s=>sF (evE T l8 s) acc)
  (EM:=fun K E s=>wpAny (model prog w) A (do let _<-call (.builtin "list.append") [.ref D,<-eval x (nC sc env C)]) (fun _=>K) E s)
  (s0:=s) (F0:=F) (fp0:=fp) rfl (fun s' ag eG=>?_) (fun Kk Kk' E s' hh h0=>bX h0 (fun _ s'' q=>hh s'' q) fun _ _ q=>q.elim) ci.src ci.st ci.en.bl p.good (fun a o e=>ci.le a o (p.hb a o e)) ht hts kW (fun i hi l hl=>ci.slot i (htn i hi) l hl) (.inl rfl) ci.en.dl ci.ix ci.li
  (fun F' e9 s' d7 acc acc' σ'' p' ap' a' e'=>Ie he (fun q=>fV (fV q)) (.inl rfl) ci.en.dl p' ap' a' e') ci.en.go ci.i0 ci.ap ci.en.acc (by rw[sJ,hn];exact e2) (fun s' F' e9 gg aa=>hfin _ _ _ (ci.done _ _ _ _ _ gg aa))
 show wpAny _ A ((compTurn (.ListComp x [⟨y,iter,cs,0⟩] sc pos) 0 (.ref I) (.ref D) (nC sc env C)).onRaise (fun x=>do noteFrame x (nC sc env C);theTreesLotGoes x)) _ _ _;refine wpAny_noted ?_;rw[Qw];exact Br (eG _)
theorem uL{x:Str}{i:Nat}{r:List (Str×Nat)}:∀{ts:List Str} {n:Nat},x∈ts->(ts.zipIdx n++r).lookup x=some i->n<=i
 |[],n,h,_=>by cases h
 |y::ts,n,h,e=>by
  rw[List.zipIdx_cons,List.cons_append,List.lookup_cons] at e
  cases hb:x==y with
  |true=>rw[hb] at e;cases e;exact eQ _
  |false=>
   rw[hb] at e;rcases iA.mp h with q|q
   ·rw[q] at hb;simp at hb
   ·exact Nat.le_of_succ_le (uL q e)
theorem oP{t:Tgt}{y:Expr}{ns:List Str}(h:mX (jB B ts sc) t y=true)(hy:qL y=some ns)(hs:∀x∈ns,x∈ts):∀i∈gG t,B.ns<=i:=by
 have one:∀{i:Nat} {x:Str},okW (jB B ts sc) i x=true->x∈ts->B.ns<=i:=fun{i x} hw hx=>uL hx (cX.mp (fB (fB (Qu hw)).1).1)
 cases t with
 |n i=>
  apply bc;intro Z;refine v3k h fun x q Q2 h=>?_;rename_i y0;clear y0;subst Q2;obtain rfl:[x]=ns:=aK hy;apply Z;clear Z;intro j hj;rw[dJ.mp hj];exact one h (hs _ (.head _))
 |t is=>
  apply bc;intro Z;refine v7k h fun es k pos Q3 h=>?_;rename_i y0;clear y0;subst Q3;have key:∀{is:List Nat} {es:List Expr} {ns:List Str},nM (jB B ts sc) is es=true->es.mapM yL=some ns->(∀x∈ns,x∈ts)->∀i∈is,B.ns<=i:=by
   intro is
   induction is with
   |nil=>intro es ns _ _ _ i hi;cases hi
   |cons j is ih=>
    intro es ns h hm hs i hi;refine kM h fun x q r Q3 h1 h2=>?_;subst Q3;rw[List.mapM_cons] at hm;refine bN hm fun x' hx' hm=>bN hm fun r' hr e=>?_;rename_i y0;clear hm y0;obtain rfl:=aK e;obtain rfl:=aK hx';rcases iA.mp hi with rfl|hi
    ·exact one h1 (hs _ (.head _))
    ·exact ih h2 hr (fun x hx=>hs x (.tail _ hx)) i hi
  apply Z;clear Z;exact key h hy hs
theorem pV{l8 t1 i1 t2 i2:Expr}{c1 c2:List Expr}{scope:Scope}{pos:Pos}{it acc:Value}{env:Env}{R:Result->Shared->Prop}
  (h0:codeAny (model prog w) A (.compLoop (.ListComp l8 [⟨t1,i1,c1,0⟩,⟨t2,i2,c2,0⟩] scope pos) 1 it acc env) R s)
  (h:wpAny (model prog w) A (pyIter it) (fun it' s'=>codeAny (model prog w) A (.compLoop (.ListComp l8 [⟨t1,i1,c1,0⟩,⟨t2,i2,c2,0⟩] scope pos) 1 it' acc env) R s')
   (notedBy (model prog w) A env fun x s'=>R (.error x) s') s):
  codeAny (model prog w) A (.compStart (.ListComp l8 [⟨t1,i1,c1,0⟩,⟨t2,i2,c2,0⟩] scope pos) 1 it acc env) R s:=by
 refine codeAny_of_tree ?_;show wpAny _ _ ((compStart (.ListComp l8 [⟨t1,i1,c1,0⟩,⟨t2,i2,c2,0⟩] scope pos) 1 it acc env).onRaise (fun x=>do noteFrame x env;standAt theWindowsPlace)) _ _ s;refine wpAny_notedAt ?_;unfold compStart;show wpAny _ _ (ask >>= _) _ _ s;refine aG (wpAny_askSetting (wpAny_ite ?_))
 split
 ·first
   |exact aG (aY (aY (And.intro rfl h0)))
   |exact aY (And.intro rfl h0)
 ·first
   |exact aG (wpAny_rule (aG (wpAny_standAt (aG (bX h (fun it' s' h'=>aY (And.intro rfl h')) fun _ _ x=>x)))))
   |(refine aG (wpAny_rule ?_);show wpAny _ _ (standAt i2.pos >>= _) _ _ s;exact aG (wpAny_standAt (aG (bX h (fun it' s' h'=>aY (And.intro rfl h')) fun _ _ x=>x))))
theorem uM(kn:Known prog w P K b5 T mg mb B.lt){n:Nat}{l8:Ex}{t t2:Tgt}{it it2:It}{ifs m8:List Tx}{x y iter y2 m9:Expr}{cs cs2:List Expr}{pos:Pos}(hn:ts.length+1=n)(ok:Bs B ts sc)(ht:mX (jB B ts sc) t y=true)(hip:fU iter=true)
  (ht2:mX (jB B ts sc) t2 y2=true) (hip2:fU m9=true)
  (hit:nS prog w P b5 T B it iter) (hts:SndTL prog w P b5 T (jB B ts sc) ifs cs) (hit2:nS prog w P b5 T (jB B ts sc) it2 m9) (hts2:SndTL prog w P b5 T (jB B ts sc) m8 cs2) (he:Snd prog w P b5 T (jB B ts sc) l8 x)
  (htn:∀i∈gG t,B.ns<=i) (htn2:∀i∈gG t2,B.ns<=i):
  uK prog w P b5 T B (.comp2 n l8 t it ifs t2 it2 m8) (.ListComp x [⟨y,iter,cs,0⟩,⟨y2,m9,cs2,0⟩] sc pos):=by
 intro _ _ _ _ hE A env b8 F σ fp s v d7 p ev use Qq hfin;apply bc;intro Z;refine pP (Expr.ListComp.inj hE) fun Q0 Q1 Q2 Q3=>?_;clear hE;subst Q0;subst Q1;subst Q2;subst Q3;refine bG ev fun xs b9 e1 ev=>bG ev fun acc c8 e2 ev=>aU ev fun Q0 Q1=>?_;rename_i y0 y1;clear ev y0 y1;subst Q0;subst Q1;apply Z;clear Z;refine Ig (b:= !pureE (.comp2 n l8 t it ifs t2 it2 m8)) kn ok hip hit p e1 (fun q=>fV (fV (fV (kW q)))) fun I D C d5 d4 g8 fpw nn Pv St ci=>Qz (B:=jB B ts sc) (b5:=b5) (T:=T) (b:= !pureE (.comp2 n l8 t it ifs t2 it2 m8)) (X:=XX D sc C ts) (D:=D) (I:=I)
  (f:=fun acc c9=>b2 (evI T it2 c9) fun ys g8=>lY (gT T t2 m8 fun acc s=>sF (evE T l8 s) acc) ys acc g8)
  (EM:=fun K E s=>wpAny (model prog w) A (eval m9 (nC sc env C)) (fun x' c5=>wpAny (model prog w) A (pyIter x') (fun y' s₂'=>codeAny (model prog w) A (.compStart (.ListComp x [⟨y,iter,cs,0⟩,⟨y2,m9,cs2,0⟩] sc pos) 1 y' (.ref D) (nC sc env C)) (fun r s'=>r= .ok .next/\K s') s₂') NoE c5) NoE s)
  (s0:=s) (F0:=F) (fp0:=fp) rfl (fun s' ag eG=>?_) (fun Kk Kk' E s' hh h0=>bX h0 (fun _ s'' q=>bX q (fun _ s3 q'=>codeAny_mono q' fun r s4 q4=>⟨q4.1,hh _ q4.2⟩) fun _ _ q=>q) fun _ _ q=>q) ci.src ci.st ci.en.bl p.good (fun a o e=>ci.le a o (p.hb a o e)) ht hts (fun q=>fV (fV (kW q))) (fun i hi l hl=>ci.slot i (htn i hi) l hl) (.inl rfl) ci.en.dl ci.ix ci.li
  (fun F' e9 s' d7 acc acc' σ'' p' ap' a' e'=>?_) ci.en.go ci.i0 ci.ap ci.en.acc (by rw[sJ,hn];exact e2) (fun s' F' e9 gg aa=>hfin _ _ _ (ci.done _ _ _ _ _ gg aa))
 ·show wpAny _ A ((compTurn (.ListComp x [⟨y,iter,cs,0⟩,⟨y2,m9,cs2,0⟩] sc pos) 0 (.ref I) (.ref D) (nC sc env C)).onRaise (fun x=>do noteFrame x (nC sc env C);theTreesLotGoes x)) _ _ _;refine wpAny_noted ?_;rw[Fd];refine Lk hip2 ?_;have tt:=eG (notedBy (model prog w) A (nC sc env C) fun e s'=>compPost (model prog w) A NoE use Qq (.ref D) C (.error e) s');unfold Qy at tt ⊢;refine bX tt (fun r c5 d6=>?_) fun _ _ q=>q
  cases r with
  |none=>exact d6
  |some v=>
   refine bX d6 (fun _ c9 i9=>bX i9 (fun _ g8 h₃=>bX h₃ (fun okk s₄ h₄=>?_) fun _ _ q=>q) fun _ _ q=>q) fun _ _ q=>q
   cases okk with
   |false=>exact h₄
   |true=>
    refine bX h₄ (fun _ s₅ h₅=>bX h₅ (fun _ s₆ h₆=>codeAny_mono h₆ fun r s₇ h₇=>?_) fun _ _ q=>q.elim) fun _ _ q=>q.elim;apply bc;intro Z;obtain⟨rfl,h₇⟩:=h₇;apply Z;clear Z;exact h₇
 ·-- the inner walk
  apply bc;intro Z;refine bG e' fun ys g6 f1 e'=>?_;apply Z;clear Z;refine bX (hit2 A (nC sc env C) _ F' d7 e9 s' _ _ p' f1) (fun xv c5 h1=>bX h1 (fun iv s₅ h2=>?_) fun _ _ x=>x) fun _ _ x=>x;apply bc;intro Z;obtain⟨I2,F₅,fp₅,fpw5,nn5,Pv5,St5,rfl,g5,hI5,ap5,S5,st5⟩:=h2;have lI2:∀l∈b8++cM sc C ts,l.addr≠I2:=fun l hl q=>by exact X1 ((p'.fi.there l hl).some) fun o ho=>dL ho (q▸hI5)
  have IX2: ¬XX D sc C ts I2:=fun q=>by exact X1 ((ap' I2 q).1) fun o ho=>dL ho hI5
  have loop2:codeAny (model prog w) A (.compLoop (.ListComp x [⟨y,iter,cs,0⟩,⟨y2,m9,cs2,0⟩] sc pos) 1 (.ref I2) (.ref D) (nC sc env C)) (fun r s₆=>r= .ok .next/\tE prog w P (b8++cM sc C ts) (XX D sc C ts) (!pureE (.comp2 n l8 t it ifs t2 it2 m8)) F' e9 s' σ'' D acc' s₆) s₅:=by
   refine Qz (B:=jB B ts sc) (b5:=b5) (T:=T) (b:= !pureE (.comp2 n l8 t it ifs t2 it2 m8)) (X:=XX D sc C ts) (D:=D) (I:=I2) (f:=fun acc s=>sF (evE T l8 s) acc)
    (EM:=fun K E s=>wpAny (model prog w) A (do let _<-call (.builtin "list.append") [.ref D,<-eval x (nC sc env C)]) (fun _=>K) E s)
    (s0:=s') (F0:=F') (fp0:=e9) rfl (fun s' ag eG=>?_) (fun Kk Kk' E s' hh h0=>bX h0 (fun _ s'' q=>hh s'' q) fun _ _ q=>q.elim) S5 st5 ci.en.bl p.good (fun a o e=>g5.tr.mono a o (p'.hb a o e)) ht2 hts2 kW (fun i hi l hl=>ci.slot i (htn2 i hi) l hl) (.inl rfl) ci.en.dl IX2 lI2
    (fun F' e9 s' d7 acc acc' σ'' p' ap' a' e'=>Ie he (fun q=>fV (fV (fV (fV q)))) (.inl rfl) ci.en.dl p' ap' a' e') ((g5.up fun q=>fV (kW q)).toX ap') hI5 ap5 (AccAt.go (ap' _ (.inl rfl)) g5 a') e' (fun s' F' e9 gg aa=>⟨rfl,F',e9,gg,aa⟩)
   show wpAny _ A ((compTurn (.ListComp x [⟨y,iter,cs,0⟩,⟨y2,m9,cs2,0⟩] sc pos) 1 (.ref I2) (.ref D) (nC sc env C)).onRaise (fun x=>do noteFrame x (nC sc env C);theTreesLotGoes x)) _ _ _;refine wpAny_noted ?_;rw[Qx];exact Br (eG _)
  apply Z;clear Z;exact pV loop2 (S5.walks.self 0 _ _ _ st5 loop2)
end
theorem iG:entryFor table "dict.update.loop"=some Builtin.«dict.update.loop»:=entryFor_of_tree (by kernel_rfl)
theorem dP:plainId "dict.update.loop"=true:=by decide+kernel
theorem Ll:typeLookup (.type "list") (Str.ofString "keys")=pure none:=by rw[typeLookup_type,builtinLookup_eq_fast];kernel_rfl
section
variable {prog:Program}{w:World}{A:Around}{E:Value->Shared->Prop}{s:Shared}
theorem Ys{a:Addr}{xs:Array Value}{k:Nat}{Q:Option Value->Shared->Prop}(hx:s.heap.get? a=some (listOf xs k))(hA:A.handled=none)
  (h:∀h' tk,(∀b o,s.heap.get? b=some o->h'.get? b=some o)->Q none {s with heap:=h',toks:=tk}):wpAny (model prog w) A (getAttr? (.ref a) "keys") Q E s:=by
 apply bc;intro Z;obtain⟨hp,g,d,tk,os⟩:=s;have hT:∀tk',(⟨hp,g,d,tk',os⟩:Shared).TypeIs (.ref a) "list":=fun _=>(aH _ hx rfl);have f1:=sub_AttributeError;have f3:=PySem.F.slot_list_getattribute.lookup;have f4:=PySem.F.slot_list_getattribute.bind (.ref a);have f5:=am_list_getattr_none;apply Z;clear Z;unfold getAttr? getAttrBy? getAttrBy
 repeat (any_goals (first|assumption|exact hT _|((with_reducible show wpAny _ _ (call (Value.builtin "list.__getattribute__") _ _) _ _ _);refine call_meets PySem.F.slot_list_getattribute (hT _) am_entry_list_getattribute (PySem.F.args_list_getattribute_2 _ _) (meets_getattribute_miss_list a xs k #[] "keys" _ Ll (by decide) (by decide+kernel)) (cD hx hA (fun h' tk' e hx'=>?_)))|wp_step))
 apply bc;intro Z;refine X2 hx'.there fun t' u' he=>?_;apply Z;clear Z;show wpAny _ _ (getattributeRaised _ _ _ _ _ _ _) _ _ _;unfold getattributeRaised
 repeat (any_goals (first|assumption|wp_step))
 exact h _ _ hx'.of.1
end
theorem Re{x:D}{q:Int×D}(h:aAI x=some q):x= .tuple [.int q.1,q.2]:=by
 refine qG h fun l Q1 h=>?_;rename_i y0;clear y0;subst Q1
 cases l with
 |nil=>exact(nn h).elim
 |cons a l=>
  cases l with
  |nil=>exact(nn h).elim
  |cons c l=>
   refine aQ h fun h1 h=>eZ h fun k Q1 h=>?_;subst Q1;rw[mU h1,<-aK h]
theorem sL{x:D}{r:List D}{ps:List (Int×D)}(h:lA (x::r)=some ps):∃q qs,x= .tuple [.int q.1,q.2]/\lA r=some qs/\ps=q::qs:=by apply bc;intro Z;refine bN h fun q hq h=>aO h fun qs h1 h2=>?_;apply Z;clear Z;exact(dW q qs (Re hq) h1 h2.symm)
theorem Lm{xs:List D}:∀{ps:List (Int×D)} {i:Nat} {d:D},lA xs=some ps->xs[i]?=some d->∃k x,d= .tuple [.int k,x]/\ps[i]?=some (k,x):=by
 induction xs with
 |nil=>intro ps i d _ e;exact(nn e).elim
 |cons x r ih=>
  intro ps i d h e;apply bc;intro Z;refine cJ (sL h) fun q qs h1 h2 hq=>?_;clear h;subst hq;apply Z;clear Z
  cases i with
  |zero=>exact(hN q.1 q.2 ((aK e).symm.trans h1) rfl)
  |succ i=>exact ih (ps:=qs) h2 e
theorem Fg{xs:List D}:∀{ps:List (Int×D)},lA xs=some ps->ps.length=xs.length:=by
 induction xs with
 |nil=>intro ps h;rw[<-aK h];rfl
 |cons x r ih=>
  intro ps h;refine cJ (sL h) fun q qs _ h2 hq=>?_;clear h;subst hq;exact bU (· +1) (ih h2)
theorem sM{KT:Type}[DecidableEq KT](j:KT)(u v:Value)(l:List (KT×Value))(nd:((j,u)::l).map (·.1) |>.Nodup):stored ((j,u)::l) j v=(j,v)::l:=by
 have nd':=List.nodup_cons.mp (show(j::l.map (·.1)).Nodup from nd);unfold stored;rw[aJ (by simp),List.map_cons,aJ rfl]
 congr 1
 refine(List.map_congr_left fun x hx=>?_).trans (List.map_id l);rw[aR fun(q:x.1=j)=>nd'.1 (q▸eO.mpr (aH x hx rfl))];rfl
theorem qP{KT:Type}[DecidableEq KT]{j k:KT}(h:j≠k)(u v:Value)(l:List (KT×Value)):stored ((j,u)::l) k v=(j,u)::stored l k v:=by
 unfold stored;simp only[List.any_cons,h,decide_false,Bool.false_or,List.map_cons,if_false]
 split<;>rfl
theorem RepKV.storedI{v:Value}{d:Mine.D}(hv:Rep prog w F v d)(k:Int){l:List (Int×Value)}{l':List (Int×Mine.D)}(r:RepKV prog w F l l')(nd:(l.map (·.1)).Nodup):RepKV prog w F (stored l k v) (jO k d l'):=by
 induction r with
 |nil=>exact .cons hv .nil
 | @cons j u d' l l' a r ih=>
  have nd':=List.nodup_cons.mp (show(j::l.map (·.1)).Nodup from nd);by_cases q:j=k
  ·subst q;rw[sM _ _ _ _ nd,jO,aJ rfl];exact .cons hv r
  ·rw[qP q,jO,aR q];exact .cons a (ih nd'.2)
theorem RepKV.storedS{v:Value}{d:Mine.D}(hv:Rep prog w F v d)(k:Str){l:List (Str×Value)}{l':List (Str×Mine.D)}(r:RepKV prog w F l l')(nd:(l.map (·.1)).Nodup):RepKV prog w F (stored l k v) (Nz k d l'):=by
 induction r with
 |nil=>exact .cons hv .nil
 | @cons j u d' l l' a r ih=>
  have nd':=List.nodup_cons.mp (show(j::l.map (·.1)).Nodup from nd);by_cases q:j=k
  ·subst q;rw[sM _ _ _ _ nd,Nz,aJ rfl];exact .cons hv r
  ·rw[qP q,Nz,aR q];exact .cons a (ih nd'.2)
theorem IsDictOf.nodup{KT:Type}[DecidableEq KT]{knd:PySem.KeyKind prog w KT}{o:Obj}{l:List (KT×Value)}(h:o.IsDictOf knd l):(l.map (·.1)).Nodup:=by exact Ws h fun _ _ _ _ _ _ nd=>nd
section
variable {prog:Program}{w:World}{A:Around}{F:Fz}{s:Shared}
def Bu(ps:List (Int×D)):List (Int×D):=ps.foldl (fun d p=>jO p.1 p.2 d) []
theorem Rf(k:Int)(x:D)(l:List (Int×D)):(jO k x l).length<=l.length+1:=by
 induction l with
 |nil=>exact eQ _
 |cons p r ih=>
  by_cases q:p.1=k
  ·rw[jO,aJ q];exact Nat.le_succ _
  ·rw[jO,aR q];exact Nat.succ_le_succ ih
theorem Ln(ps:List (Int×D)):∀l:List (Int×D),(ps.foldl (fun d p=>jO p.1 p.2 d) l).length<=l.length+ps.length:=by
 induction ps with
 |nil=>intro l;exact eQ _
 |cons p r ih=>intro l;exact iU (ih _) (by rw[List.length_cons,Nat.add_comm r.length 1,<-Nat.add_assoc];exact Nat.add_le_add_right (Rf p.1 p.2 l) _)
theorem Fh{ps:List (Int×D)}{i:Nat}{k:Int}{x:D}(e:ps[i]?=some (k,x)):Bu (ps.take (i+1))=jO k x (Bu (ps.take i)):=by unfold Bu;rw[List.take_add_one,e,List.foldl_append];rfl
theorem Bv{R:Result->Shared->Prop}{I C:Addr}{fpw:List Addr}{n:Nat}{Pv:Nat->Value->Prop}{St:Nat->Heap->Prop}{ps:List (Int×D)}(W:Walks prog w A.in1 I fpw [I] n Pv St)(hC:C∉fpw)(hI:F I=none)(fC:F C=none)(hn:n<=1000)(hl:ps.length=n)
  (hv:∀i v,Pv i v->∃k x,ps[i]?=some (k,x)/\Rep prog w F v (.tuple [.int k,x])):∀(k i:Nat) (h:Heap) (tk:Nat) (l9:List (Int×Value)),n-i=k->i<=n->St i h->(∀a o,F a=some o->h.get? a=some o)->
  h.DictOf (intKind prog w) C l9->RepKV prog w F l9 (Bu (ps.take i))->
  (∀h' tk' kvs',(∀b o,b≠C->b≠I->h.get? b=some o->h'.get? b=some o)->h'.DictOf (intKind prog w) C kvs'->RepKV prog w F kvs' (Bu ps)->R (.ok (.ret .none)) {s with heap:=h',toks:=tk'})->
  codeAny (model prog w) A (.builtin "dict.update.loop" ⟨[.ref C,.ref I,.int i 0,.none],[]⟩) R {s with heap:=h,toks:=tk}:=by
 have hCI:C≠I:=fun q=>hC (q▸W.sub I (.head _));intro k
 induction k with
 |zero=>
  intro i h tk l9 hk hi hst hF hd hr hR;obtain rfl:i=n:=Nat.le_antisymm hi (Nat.le_of_sub_eq_zero hk);refine codeAny_builtin iG ?_;rw[Around.under_plainId dP _];show wpAny _ A.in1 (pyNext (.ref I) >>= _) _ _ _;refine aG (W.done _ _ _ hst fun h' tk' hm=>?_);refine aG (m:=Builtin.Dict.addKeywords C []) (aY (aY ?_));apply bc;intro Z;rw[List.take_of_length_le (by lia)] at hr;refine sX hd fun o es ep ho rest=>?_;apply Z;clear Z;exact hR h' tk' l9 (fun b o hb1 hb2 e=>hm b o (fun q=>hb2 (dJ.mp q)) e) (nA o es ep (hm C o (fun q=>hCI (dJ.mp q)) ho) rest) hr
 |succ k ih=>
  intro i h tk l9 hk hi hst hF hd hr hR;have hlt:=nS4 hk;refine codeAny_builtin iG ?_;rw[Around.under_plainId dP _];show wpAny _ A.in1 (pyNext (.ref I) >>= _) _ _ _;refine aG (W.item i _ _ _ hlt hst fun v h' tk' hP hst' hm=>?_);apply bc;intro Z;refine fG (hv i v hP) fun key x hps rv=>?_;obtain⟨a,o,xs,m,rfl,h1,h2,h3,h4⟩:=rv.inv;have hF':∀a o,F a=some o->h'.get? a=some o:=fun a o e=>hm a o (fun q=>dL e (dJ.mp q▸hI)) (hF a o e);have ho:=hF' _ _ h1;have hd':h'.DictOf (intKind prog w) C l9:=by refine sX hd fun oc es ep hoc rest=>?_;exact(nA oc es ep (hm C oc (fun q=>hCI (dJ.mp q)) hoc) rest)
  refine cJ h4.inv fun _ _ a1 h4 e1=>cJ h4.inv fun xv _ a2 h4 e2=>X1 a1.inv fun t Q1=>?_;clear a1;subst Q1;rw[h4.inv] at e2;rw[e2] at e1;apply Z;clear Z;refine aG (jN (aG (wpAny_tryCatch ?_)));unfold Builtin.Dict.pairItems;refine aG (wpAny_typeOf (T:="tuple") (aH o ho h2) ?_);rw[aJ (by decide)];refine aG (wpAny_seqItems ho h3 (aY ?_));show wpAny _ A.in1 (match xs.toList with|[k,v]=>_|l=>_) _ _ _;rw[e1];refine jN ?_;have h7:l9.length<=1000:=by rw[hr.length];refine iU (Ln (ps.take i) []) (iU (Nat.le_of_eq (Nat.zero_add _)) ?_);rw[List.length_take];exact iU (Nat.min_le_right _ _) (hl▸hn)
  refine wpAny_dictSet_pairs (knd:=intKind prog w) (intKind_is _ _ _ _) hd' (fun h2' hd2 hs2=>?_) (by rw[fR];lia);refine aY ⟨plainId_quiet dP _,?_⟩;have hk2:∀b o,b≠C->h'.get? b=some o->h2'.get? b=some o:=fun b o hb e=>(hs2.2 b hb).trans e;refine ih (i+1) h2' (tk'+1) (stored l9 key xv) (bU Nat.pred hk) hlt (W.frame _ _ _ hst' fun b hb o e=>hk2 b o (fun q=>hC (q▸hb)) e) (fun a o e=>hk2 a o (fun q=>dL e (q▸fC)) (hF' a o e)) hd2 ?_ fun h3' tk3 kvs3 hk3 hd3 hr3=>hR h3' tk3 kvs3 (fun b o hb1 hb2 e=>hk3 b o hb1 hb2 (hk2 b o hb1 (hm b o (fun q=>hb2 (dJ.mp q)) e))) hd3 hr3;rw[Fh hps];apply bc;intro Z;refine aCx hd fun _ _ _ _ _ _ _ _ nd=>?_;apply Z;clear Z;exact RepKV.storedI a2 key hr nd
end
section
variable {prog:Program}{w:World}{P:PS}{K:Frag}{b5:Heap}{T:Tab}{mg mb:Str->Option Value}{B:Bk}
theorem wI(kn:Known prog w P K b5 T mg mb B.lt){a:Ex}{X E:Expr}(he:jA B "dict" E=some X)(ha:Snd prog w P b5 T B a X):Snd prog w P b5 T B (.dictPairs a) E:=by
 intro A env b8 F σ fp s v d7 p ev;apply bc;intro Z;refine yC ev fun c b9 e1 ev=>yE ev fun xs Q1 ev=>?_;rename_i y0;clear y0;subst Q1;refine aQ ev fun hl ev=>aO ev fun ps hps e=>cK (eC e) fun Q0 Q1=>?_;subst Q0;subst Q1;apply Z;clear Z;refine mY kn.gl p he (kn.free rfl) Qa (by decide) (.type _) (ha.run p e1 fun u c5 h1=>?_);apply bc;intro Z;obtain⟨c6,c7,fx,g1,⟨l,rfl,hs,⟨o,ho,ys,m,rfl,r1⟩,rfl⟩,hn⟩:=h1;have hh:=p.good.handled;apply Z;clear Z;refine callType_codes (Q₁:=fun obj s'=>obj= .ref c5.heap.objs.size/\s'={c5 with heap:=c5.heap.push {cls:= .type "dict",data:= .dict #[]}}) PySem.F.kt_called_dict (PySem.F.kt_typeCall_dict_1 _) PySem.F.entry_dict_init (kt_code_dict_new _ ⟨rfl,rfl⟩) ?_
 rintro obj s' ⟨rfl,rfl⟩
 have hnew:(c5.heap.push {cls:= .type "dict",data:= .dict #[]}).DictOf (intKind prog w) c5.heap.objs.size []:=Heap.DictOf.new c5.heap;have ho1:(c5.heap.push {cls:= .type "dict",data:= .dict #[]}).get? l=some (listOf ys m):=bM _ ho;refine(cD hnew.typeIs (PySem.F.args_dict_init_2 _ _) ?_);unfold Builtin.«dict.__init__»;refine aG ?_;unfold Builtin.Dict.selfAndRest;refine aG (wpAny_notOrdered_dict hnew.typeIs ?_);show wpAny _ _ (pure (c5.heap.objs.size,[Value.ref l])) _ _ _;refine aY ?_;show wpAny _ _ (Builtin.Dict.updateFrom "dict.__init__" c5.heap.objs.size (.ref l) [] .none) _ _ _;unfold Builtin.Dict.updateFrom;refine aG (wpAny_typeOf (T:="list") (aH _ ho1 rfl) ?_);rw[aJ (by decide)];refine aG (Ys ho1 hh fun h2 tk2 k2=>?_);rw[aJ (show(none:Option Value).isNone=true from rfl)];refine aG (wpAny_rule ?_);have ho2:=k2 _ _ ho1;have hd2:h2.DictOf (intKind prog w) c5.heap.objs.size []:=by apply bc;intro Z;refine sX hnew fun oc es ep hoc rest=>?_;apply Z;clear Z;exact(nA oc es ep (k2 _ _ hoc) rest)
 have hlt2:c5.heap.objs.size<h2.objs.size:=by refine sX hd2 fun oc _ _ hoc _=>?_;exact eN hoc
 have llt:l<c5.heap.objs.size:=eN ho;refine aG (wpAny_pyIter_list (dB _ ho2 rfl _ rfl) ?_);refine aY ⟨plainId_quiet dP _,?_⟩;have fC:c6 c5.heap.objs.size=none:=yN g1.tr.fz;have fI:c6 h2.objs.size=none:=Fz.none_of (fun a o e=>k2 _ _ (bM _ (g1.tr.fz a o e))) (cS _);have hlen:=Fg hps;have hsz:ys.size=xs.length:=dM r1;have hh3:A.in1.in1.handled=none:=hh;refine Bv (F:=c6) (ps:=ps) (Walks.list hh3 h2.objs.size l (Nat.ne_of_lt (Nat.lt_trans llt hlt2)) ys) (by simp only[List.mem_cons,List.not_mem_nil,or_false,not_or];exact⟨Nat.ne_of_lt hlt2,Nat.ne_of_gt llt⟩) fI fC (hsz▸hl) (hlen.trans hsz.symm)
  (fun i v hv=>?_) (ys.size-0) 0 _ _ [] rfl (gS _) ⟨(cY _ (dQ _ rfl) rfl rfl),(dB _ (bM _ ho2) rfl _ rfl)⟩ (fun b o e=>bM _ (k2 _ _ (bM _ (g1.tr.fz _ _ e)))) (hd2.push _) .nil fun h' tk' kvs' hk hd hr=>?_
 ·apply bc;intro Z;refine aP (r1.get' (k:=i) (v:=v) (by rw[Array.getElem?_toList];exact hv)) fun d hd rd=>?_;refine fG (Lm hps hd) fun k x Q2 h2=>?_;subst Q2;apply Z;clear Z;exact(hN k x h2 rd)
 ·refine⟨rfl,?_⟩;apply bc;intro Z;refine aP (Heap.dictOf_iff.mp hd) fun o' ho' hd'=>?_;apply Z;clear Z;refine g1.newC (tk:=tk') (fun b o e=>?_) (cS _) (kn.gl.above (p.next g1).keeps) ⟨o',ho',kvs',hd',hr⟩;have hb:=eN e;exact hk b o (Nat.ne_of_lt hb) (Nat.ne_of_lt (Nat.lt_trans hb hlt2)) (bM _ (k2 _ _ (bM _ e)))
end
def jR(N:Nat){α:Type}(P:α->Prop):KasT α->Prop
 | .ret a=>P a
 | .ask i j k=>i<N/\j<N/\∀b,jR N P (k b)
theorem jR.bind{N:Nat}{α β:Type}{P:α->Prop}{Q:β->Prop}{f:α->KasT β}:∀{t:KasT α},jR N P t->(∀a,P a->jR N Q (f a))->jR N Q (t.bind f)
 | .ret a,h,k=>k a h
 | .ask _ _ _,h,k=>(cD h.1 h.2.1 (fun b=>jR.bind (h.2.2 b) k))
theorem jR.run{N:Nat}{α:Type}{P:α->Prop}(f:Nat->Nat->Bool):∀{t:KasT α},jR N P t->P (yG f t)
 | .ret _,h=>h
 | .ask i j k,h=>jR.run (t:=k (f i j)) f (h.2.2 (f i j))
abbrev Pm(N:Nat)(p:Array Nat):Prop:=p.Perm (List.toArray (List.range N))
section
variable {N:Nat}{p:Array Nat}
theorem Pm.getD(h:Pm N p)(h0:0<N)(k:Nat):p.getD k 0<N:=by
 by_cases hk:k<p.size
 ·have e:p.getD k 0=p[k]:=by simp[Array.getD,hk]
  have hm:p[k]∈p:=Array.getElem_mem hk;have:=h.mem_iff.mp hm;rw[e];simpa using this
 ·rw[show p.getD k 0=0 by simp[Array.getD,hk]];exact h0
theorem Pm.rev(h:Pm N p)(i j:Nat):Pm N (kas_rev p i j):=(mirror_perm _ _ _ _).trans h
theorem Pm.bub(h:Pm N p)(i j:Nat):Pm N (bubble p i j):=(bubble_perm _ _ _).trans h
theorem Fj(h:Pm N p)(h0:0<N):∀f n,jR N (fun _=>True) (kas_asc p f n)
 |0,_=>trivial
 |f+1,n=>(cD (h.getD h0 _) (h.getD h0 _) (fun b=>by cases b;exact Fj h h0 f _;exact trivial))
theorem tF(h0:0<N):∀f (p:Array Nat) n q,Pm N p->jR N (fun r=>Pm N r.1) (kas_desc f p n q)
 |0,_,_,_,h=>h
 |f+1,p,n,q,h=>(cD (h.getD h0 _) (h.getD h0 _) (fun b=>by
  cases b
  ·exact(cD (h.getD h0 _) (h.getD h0 _) (fun d=>by cases d;exact tF h0 f _ _ _ h;exact h))
  ·show jR N _ (if q>0 then _ else _)
   split
   ·exact tF h0 f _ _ _ (h.rev _ _)
   ·exact tF h0 f _ _ _ h))
theorem Bw(h:Pm N p)(h0:0<N)(n r:Nat):jR N (fun r=>Pm N r.2) (kas_tail3 n r p):=
 jR.bind (Fj (h.rev _ _) h0 _ _) fun _ _=>h.rev _ _
theorem sN(h:Pm N p)(h0:0<N)(n r:Nat):jR N (fun r=>Pm N r.2) (kas_descPart n r p):=
 jR.bind (tF h0 _ _ _ _ h) fun r hr=>by
  split
  ·exact Bw (hr.rev _ _) h0 _ _
  ·exact Bw hr h0 _ _
theorem Rh(h:Pm N p)(h0:0<N)(r:Nat):jR N (fun r=>Pm N r.2) (kas_count r p):=
 jR.bind (Fj h h0 _ _) fun n _=>by
  split
  ·exact h
  ·split
   ·refine(cD (h.getD h0 _) (h.getD h0 _) (fun b=>?_))
    cases b
    ·exact sN (h.rev _ _) h0 _ _
    ·exact h
   ·exact sN h h0 _ _
theorem uN(h:Pm N p)(h0:0<N)(k:Nat):∀f l r,jR N (fun _=>True) (kas_place p k f l r)
 |0,_,_=>trivial
 |f+1,l,r=>by
  unfold kas_place
  split
  ·exact trivial
  ·refine(cD (h.getD h0 _) (h.getD h0 _) (fun b=>?_))
   cases b
   ·exact uN h h0 k f _ _
   ·exact uN h h0 k f _ _
theorem Ri(h0:0<N):∀f (p:Array Nat) k,Pm N p->jR N (Pm N) (kas_bin f p k)
 |0,_,_,h=>h
 |f+1,p,k,h=>jR.bind (uN h h0 k _ _ _) fun l _=>Ri h0 f _ _ (h.bub _ _)
theorem yT(h0:0<N):jR N (Pm N) (kas_sort N):=
 jR.bind (Rh (Array.Perm.refl _) h0 _) fun r hr=>by
  split
  ·exact Ri h0 _ _ _ hr
  ·exact hr
end
theorem xD{N:Nat}{α:Type}{P:α->Prop}{cmp:Nat->Nat->(Bool->Shared->Prop)->Shared->Prop}{f:Nat->Nat->Bool}{J:Shared->Prop}{Q:α->Shared->Prop}
  (hc:∀i j,i<N->j<N->∀(C:Bool->Shared->Prop) s,J s->(∀s',J s'->C (f i j) s')->cmp i j C s):∀{t:KasT α} {s:Shared},jR N P t->J s->(∀s',J s'->Q (yG f t) s')->t.kasWp cmp Q s
 | .ret _,s,_,hs,h=>h s hs
 | .ask i j k,s,o,hs,h=>hc i j o.1 o.2.1 _ s hs fun s' hs'=>xD hc (o.2.2 _) hs' h
section
variable {prog:Program}{w:World}{A:Around}{E:Value->Shared->Prop}{s:Shared}
def jY{α:Type}(d:α)(f:Nat->Nat->Bool)(l:List α):List α:=if l.length<2 then l else(yG f (kas_sort l.length)).toList.map fun i=>l.getD i d
theorem Yt{a:Addr}{vs:List Value}{n:Nat}{κ:SortKind}{f:Nat->Nat->Bool}{P:PySem.Fin->Shared->Prop}(ho:s.heap.get? a=some (seqObj "list" vs.toArray n))(h64:vs.length<64)
  (hk:2<=vs.length->∀(s':Shared) (Q:SortKind->Shared->Prop),(∀b o,b≠a->s.heap.get? b=some o->s'.heap.get? b=some o)->Q κ s'->wpAny (model prog w) A (keyKind' vs.toArray) Q (fun _ _=>False) s')
  (hc:∀i j,i<vs.length->j<vs.length->∀(C:Bool->Shared->Prop) (s':Shared),(∀b o,b≠a->s.heap.get? b=some o->s'.heap.get? b=some o)->(∀tk,C (f i j) {s' with toks:=tk})->
   wpAny (model prog w) A (keyLt' κ (vs.getD i Value.none) (vs.getD j Value.none)) C (fun _ _=>False) s')
  (h:∀h' tk c,(∀b o,b≠a->s.heap.get? b=some o->h'.get? b=some o)->h'.get? a=some (seqObj "list" (List.toArray (jY Value.none f vs)) c)->P (.done (.ret .none)) {s with heap:=h',toks:=tk}):
  wpAny (model prog w) A (Builtin.«list.sort» ⟨[.ref a],[]⟩) P E s:=by
 have ha:a<s.heap.objs.size:=eN ho;obtain⟨e1,ho1⟩:∃e1,(s.heap.update a (Obj.mapSeq fun _=>(#[]:Array Value))).get? a=some (seqObj "list" #[] e1):=⟨_,get?_update_seq ho fun _=> #[]⟩;rw[list_sort_plain];refine aG (listItems_at ho rfl ?_);refine aG (listUpdate_at ho rfl ?_ (by rw[List.size_toArray,fR];lia) (gS _));refine aG (seqEpoch_at ho1 rfl ?_);refine aG (wpAny_newTuple ?_ (by show vs.length<=_;rw[fR];lia));refine aG (wpAny_newList ?_ (gS _));refine jN ?_;have ho6:(((s.heap.update a (Obj.mapSeq fun _=>(#[]:Array Value))).push (seqObj "tuple" vs.toArray 0)).push (seqObj "list" #[] 0)).get? a=some (seqObj "list" #[] e1):=bM _ (bM _ ho1);have keep:∀b o,b≠a->s.heap.get? b=some o->(((s.heap.update a (Obj.mapSeq fun _=>(#[]:Array Value))).push (seqObj "tuple" vs.toArray 0)).push (seqObj "list" #[] 0)).get? b=some o:=
  fun b o hb e=>bM _ (bM _ ((Heap.get?_update_ne _ _ _ _ hb).trans e))
 show wpAny (model prog w) A _ P E {s with heap:=((s.heap.update a (Obj.mapSeq fun _=>(#[]:Array Value))).push (seqObj "tuple" vs.toArray 0)).push (seqObj "list" #[] 0)};generalize((s.heap.update a (Obj.mapSeq fun _=>(#[]:Array Value))).push (seqObj "tuple" vs.toArray 0)).push (seqObj "list" #[] 0)=h6 at ho6 keep ⊢;dsimp only;have fin:∀(out:Array Value) (tk:Nat),out=List.toArray (jY Value.none f vs)->P (.done (.ret .none)) {s with heap:=h6.update a (Obj.mapSeq fun _=>out),toks:=tk}:=fun out tk e=>by subst e;obtain⟨c2,hc2⟩:∃c2,(h6.update a (Obj.mapSeq fun _=>List.toArray (jY Value.none f vs))).get? a=some (seqObj "list" (List.toArray (jY Value.none f vs)) c2):=⟨_,get?_update_seq ho6 fun _=>List.toArray (jY Value.none f vs)⟩;exact h _ tk c2 (fun b o hb e=>(Heap.get?_update_ne _ _ _ _ hb).trans (keep b o hb e)) hc2
 by_cases h2:vs.toArray.size<2
 ·have h2':vs.length<2:=by simpa using h2
  rw[aJ h2,aJ h2];refine aG (aY ?_);rw[StateT.run_pure];refine aG (aY ?_);dsimp only;have hout:(arrOf (SortSt.mk' general' (vs.toArray.zip vs.toArray) #[] 7 none)).map (·.2)=vs.toArray:=by show(vs.toArray.zip vs.toArray).map (·.2)=vs.toArray;apply Array.toList_inj.mp;simp[List.map_snd_zip]
  rw[hout];refine aG (seqEpoch_at ho6 rfl ?_);refine aG (listUpdate_at ho6 rfl ?_ (gS _) (by rw[List.size_toArray,fR];lia));simp only[bne_self_eq_false,Bool.false_eq_true,if_false];exact aY (fin _ s.toks (by unfold jY;rw[aJ h2']))
 ·have h2':2<=vs.length:=by simpa using h2
  rw[aR h2,aR h2];refine aG (bX (hk h2' _ (fun κ' s'=>κ'=κ/\s'={s with heap:=h6}) keep ⟨rfl,rfl⟩) (fun κ' s' hx=>?_) fun _ _ x=>x.elim);obtain⟨rfl,rfl⟩:=hx;have tree:(kas_sort vs.length).kasWp (kas_ask prog w A κ' vs) (fun p s'=>p=yG f (kas_sort vs.length)/\∃tk,s'={s with heap:=h6,toks:=tk}) {s with heap:=h6}:=
   xD (J:=fun s'=>∃tk,s'={s with heap:=h6,toks:=tk}) (fun i j hi hj C s' hs' hC=>by obtain⟨tk,rfl⟩:=hs';exact hc i j hi hj C _ keep fun tk'=>hC _ ⟨tk',rfl⟩) (yT (jM ‹_›)) ⟨_,rfl⟩ fun s' hs'=>⟨rfl,hs'⟩
  refine aG (bX (kat_run (Q:=fun st' s'=>∃p:Array Nat,p.size=vs.length/\arrOf st'=p.map (kas_item (vs.toArray.zip vs.toArray))/\failedOf st'=none/\p=yG f (kas_sort vs.length)/\∃tk,s'={s with heap:=h6,toks:=tk})
   rfl h2' h64 (fun p' st' s' a1 a2 a3 a4=>(zZ p' a1 a2 a3 a4)) tree) ?_ fun _ _ e=>e)
  rintro ⟨⟨⟩,st'⟩ s' ⟨p,hp,har,hf,hpr,tk,rfl⟩
  dsimp only;have hout:=kat_snds rfl har;have hsz:(List.toArray (p.toList.map fun i=>vs.getD i Value.none)).size=vs.length:=by rw[List.size_toArray,bT,Array.length_toList,hp]
  rw[hout];refine aG (seqEpoch_at ho6 rfl ?_);refine aG (listUpdate_at ho6 rfl ?_ (gS _) (iU (Nat.le_of_eq hsz) (by rw[fR];lia)));rw[hf];simp only[bne_self_eq_false,Bool.false_eq_true,if_false];exact aY (fin _ tk (by unfold jY;rw[aR (by assumption),hpr]))
end
def nU(h:Heap)(d:Addr)(keys:List Value)(ep:Nat):Prop:=∃o es,h.get? d=some o/\o.ExactDict/\o.data= .dict es ep/\es.toList.map (·.key)=keys
section
variable {prog:Program}{w:World}{A:Around}{E:Value->Shared->Prop}{s:Shared}{d it:Addr}{keys:List Value}{i ep:Nat}
theorem nU.at'{h h':Heap}(x:nU h d keys ep)(e:∀o,h.get? d=some o->h'.get? d=some o):nU h' d keys ep:=fG x fun o es ho r=>hN o es (e _ ho) r
theorem nU.typeIs(x:nU s.heap d keys ep):s.TypeIs (.ref d) "dict":=cJ x fun o _ ho hc _=>⟨o,ho,hc.1⟩
theorem Rj{Q:Value->Shared->Prop}(hd:(d==sysModules)=false)(hm:nU s.heap d keys ep)
  (hQ:Q (.ref s.heap.objs.size) {s with heap:=s.heap.push {cls:= .type "dict_keyiterator",data:= .fields #[.ref d,.int 0 0,.int keys.length 0,.int ep 0]}}):wpAny (model prog w) A (pyIter (.ref d)) Q E s:=by
 apply bc;intro Z;have hT:=hm.typeIs;refine oZ hm fun o es ho hc hdat Q5=>?_;clear hm;subst Q5;apply Z;clear Z;refine wpAny_pyIter_slot hT PySem.F.slot_dict_iter (wpAny_call_entry PySem.F.slot_dict_iter hT PySem.F.entry_dict_iter ?_ (PySem.F.args_dict_iter_1 _));refine aG (m:=Builtin.Dict.dictSlotNone _ _) (aG (wpAny_notOrdered_dict hT (aY ?_)));refine aG (m:=Builtin.Dict.showsAll d) ?_;unfold Builtin.Dict.showsAll;rw[aR (by rw[hd];exact eX)];refine aY (aG (wpAny_dictEntries ho hdat (aG (wpAny_dictEpoch ho hdat ?_))));refine aG (wpAny_newObj_type (aY ⟨_,rfl,"dict_keyiterator",_,⟨_,dQ _ rfl,rfl⟩,PySem.F.slot_dict_keyiterator_next.lookup,?_⟩));simpa [rawInt] using hQ
theorem Rk{Q:Option Value->Shared->Prop}{key:Value}(hit:s.heap.IsKeyIter it d i keys.length ep)(hm:nU s.heap d keys ep)(hx:keys[i]?=some key)
  (hQ:∀h',h'.IsKeyIter it d (i+1) keys.length ep->Heap.SameBut it s.heap h'->Q (some key) {s with heap:=h'}):wpAny (model prog w) A (pyNext (.ref it)) Q E s:=by
 apply bc;intro Z;have hT:=hit.typeIs;refine eR (id hit) fun o ho hc hd=>oZ (id hm) fun od es hod hcd hdd Q5=>?_;clear hit hm;subst Q5;have hlen:(es.toList.map (·.key)).length=es.size:=by simp
 apply Z;clear Z;have hlt:i<es.size:=by rw[<-hlen];exact(hZ.mp hx).1
 have hke:es[i].key=key:=by rw[eW,Array.getElem?_toList,Array.getElem?_eq_getElem hlt] at hx;exact aK hx
 unfold pyNext;refine aG (wpAny_attempt (wpAny_callSpecial?_slot (name:=Str.ofString "__next__") hT PySem.F.slot_dict_keyiterator_next (wpAny_call_entry PySem.F.slot_dict_keyiterator_next hT PySem.F.entry_dict_keyiterator_next ?_ (PySem.F.args_dict_keyiterator_next_1 _))));refine aG (aY (aG (aG ?_)));refine aG (wpAny_typeNameOfWhole_keyiter hT (aY (aG (wpAny_fieldsOf ho hd ?_))));rw[show Builtin.Dict_items.ownsTuple "dict_keyiterator"=false by decide];show wpAny _ _ (if(Value.ref d==Value.none)=true then _ else _) _ _ s;rw[aR (show¬((Value.ref d==Value.none)=true) from eX)];refine aG (aY (aG (wpAny_dictEntries hod hdd ?_)));rw[aR (by simp)];refine aG (aY (aG (wpAny_dictEpoch hod hdd ?_)));rw[aR (by simp)];refine aY ?_;dsimp only;rw[aR (show¬((i:Int)<0) from by lia),sE,Array.getElem?_eq_getElem hlt];refine aG (aG (wpAny_typeNameOfWhole_keyiter hT (aY (aG (wpAny_isOneOf_keyiter hT ?_)))));show wpAny _ _ (setField (.ref it) 1 (rawInt ((i:Int)+1)) >>= _) _ _ s;refine aG (wpAny_setField ho hd (by simp) ?_);have hit':(s.heap.update it (Obj.mapFields (·.setIfInBounds 1 (rawInt ((i:Int)+1))))).IsKeyIter it d (i+1) (es.toList.map (·.key)).length ep:=
  (cY _ (sC _ ho (Obj.isFreed_of_fields (Obj.data_mapFields hd _))) ((Obj.cls_mapFields ..).trans hc) (by rw[Obj.data_mapFields hd];simp[rawInt]))
 refine aG (jN (aG (wpAny_isOneOf_keyiter (s:={s with heap:=s.heap.update it (Obj.mapFields (·.setIfInBounds 1 (rawInt ((i:Int)+1))))}) hit'.typeIs ?_)));show wpAny _ _ (pure es[i].key) _ _ _;rw[hke];exact aY (aY (aH _ rfl (aY (hQ _ hit' (Heap.SameBut.update ..)))))
theorem xE{Q:Option Value->Shared->Prop}{Z:PySem.Fin->Shared->Prop}(hh:A.handled=none){h':Heap}(hQ:∀h'',(∀b o,h'.get? b=some o->h''.get? b=some o)->Q none {s with heap:=h''}):
  wpAny (model prog w) A.in1 (newExc (.type "StopIteration") [] >>= fun e=>raiseNew e) Z (fun e s'=>wpAny (model prog w) A (do if<-isInstance e (.type "StopIteration") then pure none else throw e) Q E s') {s with heap:=h'}:=by
 refine aG ?_;simp only[newExc,newTuple];refine aG (wpAny_newObj_type ?_ (by size_fits));refine aG (m:=firstArgMember _ _) (wpAny_of_eq (a:=Value.none) (by first|rfl|(simp only[firstArgMember];rfl)) ?_);refine wpAny_newObj_type ?_ (by size_fits);unfold raiseNew;refine aG (wpAny_handled ?_);rw[show A.in1.handled=none from hh];refine aG (aY (wpAny_throw ?_));refine aG (wpAny_isInstance (T:="StopIteration") (b:=true) (aH _ (dQ _ rfl) rfl) isSubtype_stop ?_);exact aY (hQ _ fun b o e=>bM _ (bM _ e))
theorem Yu{Q:Option Value->Shared->Prop}(hh:A.handled=none)(hit:s.heap.IsKeyIter it d keys.length keys.length ep)(hm:nU s.heap d keys ep)
  (hQ:∀h',(∀b o,b≠it->s.heap.get? b=some o->h'.get? b=some o)->Q none {s with heap:=h'}):wpAny (model prog w) A (pyNext (.ref it)) Q E s:=by
 apply bc;intro Z;have hT:=hit.typeIs;refine eR (id hit) fun o ho hc hd=>oZ (id hm) fun od es hod hcd hdd Q5=>?_;clear hit hm;subst Q5;apply Z;clear Z;unfold pyNext;refine aG (wpAny_attempt (wpAny_callSpecial?_slot (name:=Str.ofString "__next__") hT PySem.F.slot_dict_keyiterator_next (wpAny_call_entry PySem.F.slot_dict_keyiterator_next hT PySem.F.entry_dict_keyiterator_next ?_ (PySem.F.args_dict_keyiterator_next_1 _))));refine aG (aY (aG (aG ?_)));refine aG (wpAny_typeNameOfWhole_keyiter hT (aY (aG (wpAny_fieldsOf ho hd ?_))));rw[show Builtin.Dict_items.ownsTuple "dict_keyiterator"=false by decide];show wpAny _ _ (if(Value.ref d==Value.none)=true then _ else _) _ _ s;rw[aR (show¬((Value.ref d==Value.none)=true) from eX)];refine aG (aY (aG (wpAny_dictEntries hod hdd ?_)));rw[aR (by simp)];refine aG (aY (aG (wpAny_dictEpoch hod hdd ?_)));rw[aR (by simp)];refine aY ?_;dsimp only;rw[aR (show¬(((es.toList.map (·.key)).length:Int)<0) from by lia),sE,Array.getElem?_eq_none (show es.size<=(es.toList.map (·.key)).length by simp)];refine aG (aG (wpAny_typeNameOfWhole_keyiter hT (aY ?_)));show wpAny _ _ (setField (.ref it) 0 .none >>= _) _ _ s;refine aG (wpAny_setField ho hd (by simp) ?_);refine xE hh fun h'' k=>hQ h'' fun b o' hb e=>k b o' ((pC _ _ (fun q:it=b=>hb q.symm)).trans e)
theorem Walks.raw(hh:A.handled=none)(I d:Addr)(hne:d≠I)(keys:List Value)(ep:Nat):
  Walks prog w A I [I,d] [I] keys.length (fun i v=>keys[i]?=some v) (fun i h=>h.IsKeyIter I d i keys.length ep/\nU h d keys ep) where
 sub:=fun b hb=>by simp at hb;simp[hb]
 frame:=fun _ _ _ st hk=>⟨st.1.at fun o e=>hk I (by simp) o e,st.2.at' fun o e=>hk d (by simp) o e⟩
 item:=fun i s Q E hi st hQ=>by refine Rk st.1 st.2 (key:=keys[i]) (by simp[hi]) fun h' hit' hs'=>?_;exact hQ _ h' s.toks (by simp[hi]) ⟨hit',st.2.at' fun o e=>(hs'.2 d hne).trans e⟩ fun b o hb e=>(hs'.2 b (fun h=>hb (by simp[h]))).trans e
 done:=fun s Q E st hQ=>Yu hh st.1 st.2 fun h' he'=>hQ h' s.toks fun b o hb e=>he' b o (fun h=>hb (by simp[h])) e
 self:=fun _ _ _ _ st hQ=>wpAny_pyIter_keyiter st.1 hQ
theorem Yv(lo:(d==sysModules)=false):KdlSrc prog w "dict" d d keys.length (fun i v=>keys[i]?=some v) (fun h=>nU h d keys ep) where
 type:=fun _ hm=>hm.typeIs
 there:=fun h hm=>fG hm fun o es ho _=>⟨eN ho,eN ho⟩
 keep:=fun _ _ hm hk=>hm.at' fun o e=>hk d (.inl rfl) o e
 notList:=by decide
 notTuple:=by decide
 hint:=fun A E s Q hm h=>kdl_hint_dict hm.typeIs h
 iter:=fun _ _ hh hm=>(dW _ _ (fun _ _ hq=>Rj lo hm hq) (Walks.raw hh _ d (fG hm fun _ _ ho _=>Nat.ne_of_lt (eN ho)) keys ep) ⟨⟨_,dQ _ rfl,rfl,rfl⟩,hm.at' fun _ e=>bM _ e⟩)
end
theorem xF{k k':Int×Int}(e:nK k=nK k'):k=k':=by obtain⟨h1,e⟩:=List.cons.inj e;obtain⟨_,e⟩:=List.cons.inj e;exact Prod.ext (Sum.inl.inj h1) (Sum.inl.inj (List.cons.inj e).1)
section
variable {prog:Program}{w:World}{A:Around}{F:Fz}{s:Shared}
inductive aDi(h:Heap)(k:Int×Int)(v:Value):Prop
 |mk (a:Addr) (o:Obj) (xs:Array Value) (n:Nat) (t₁ t₂ t₃:Tok):v= .ref a->h.get? a=some o->o.cls= .type "tuple"->o.data= .seq xs n->xs.toList=[.int k.1 t₁,.str sNe t₂,.int k.2 t₃]->aDi h k v
theorem Yw{h:Heap}{v:Value}{k:Int×Int}(hF:∀a o,F a=some o->h.get? a=some o)(r:Rep prog w F v (lP k)):aDi h k v:=by apply bc;intro Z;obtain⟨a,o,xs,n,e,h1,h2,h3,h4⟩:=r.tuple_inv;refine cJ h4.inv fun _ _ a1 h4 e1=>cJ h4.inv fun _ _ a2 h4 e2=>cJ h4.inv fun _ _ a3 h4 e3=>X1 a1.inv fun t1 Q1=>?_;clear a1;subst Q1;refine X1 a2.inv fun t2 Q1=>?_;clear a2;subst Q1;refine X1 a3.inv fun t3 Q1=>?_;clear a3;subst Q1;rw[h4.inv] at e3;rw[e3] at e2;rw[e2] at e1;apply Z;clear Z;exact⟨a,o,xs,n,t1,t2,t3,e,hF _ _ h1,h2,h3,e1⟩
theorem Yx{u v:Value}{k l:Int×Int}{Q:Bool->Shared->Prop}{E:Value->Shared->Prop}(hF:∀a o,F a=some o->s.heap.get? a=some o)(r:Rep prog w F u (lP k))(r':Rep prog w F v (lP l))(h:Q (ltP k l) s):
  wpAny (model prog w) A (keyLt' (tuples' true) u v) Q E s:=by
 obtain⟨a,o,xs,n,t1,t2,t3,rfl,h1,h2,h3,h4⟩:=Yw hF r;obtain⟨a',o',xs',n',t1',t2',t3',rfl,h1',h2',h3',h4'⟩:=Yw hF r';refine kat_lt h1 h3 h1' h3' ?_;have e1:xs.size=3:=by rw[<-Array.length_toList,h4];rfl
 have e2:xs'.size=3:=by rw[<-Array.length_toList,h4'];rfl
 rw[h4,h4',e1,e2];refine kat_cons ((intKind prog w).eqBool (a:=k.1) (b:=l.1) (intKind_is _ _ _ _) (intKind_is _ _ _ _) (kat_go (fun q1=>kat_yes (kat_cons ((strKind prog w).eqBool (a:=sNe) (b:=sNe) (strKind_is _ _ _ _) (strKind_is _ _ _ _) (kat_go (fun _=>kat_yes (kat_cons ((intKind prog w).eqBool (a:=k.2) (b:=l.2) (intKind_is _ _ _ _) (intKind_is _ _ _ _) (kat_go (fun q2=>kat_yes (kat_nil ?_)) fun q2=>kat_no ?_)))) fun q=>?_)))) fun q1=>kat_no ?_))
 ·have q1:=lO q1;have q2:=lO q2;have:ltP k l=false:=by unfold ltP;rw[q1,q2];simp
  rw[this] at h;exact h
 ·have q1:=lO q1;have:ltP k l=decide (k.2<l.2):=by unfold ltP;rw[q1];simp
  rw[this] at h;exact kat_one _ _ (PyProof.Rows.lt_int h)
 ·exact absurd q (by simp)
 ·have q1:=of_decide_eq_false q1;have:ltP k l=decide (k.1<l.1):=by unfold ltP;rw[show(k.1==l.1)=false from wT.mpr q1];simp
  rw[this] at h;exact oneLt_int h
theorem Lo{vs:List Value}{ks:List (Int×Int)}{Q:SortKind->Shared->Prop}(hF:∀a o,F a=some o->s.heap.get? a=some o)(r:aM prog w F vs (ks.map lP))(h2:2<=vs.length)(h:Q (tuples' true) s):
  wpAny (model prog w) A (keyKind' vs.toArray) Q (fun _ _=>False) s:=by
 obtain⟨fs,t,hi⟩:∃fs,KatTups s.heap vs fs/\∀v∈fs,∃n t,v=Value.int n t:=by
  clear h h2
  induction ks generalizing vs with
  |nil=>rw[r.inv];exact(aH ([]) trivial (fun _ h=>by cases h))
  |cons k ks ih=>
   apply bc;intro Z;refine cJ r.inv fun v us a r' e=>?_;subst e;refine aP (ih r') fun fs t hi=>?_;obtain⟨a,o,xs,n,t1,t2,t3,rfl,h1,h2,h3,h4⟩:=Yw hF a;apply Z;clear Z;refine(aH (.int k.1 t1::fs) (.cons h1 h2 h3 (by rw[<-Array.getElem?_toList,h4];rfl) t) (fun v hv=>?_));exact(iA.mp hv).elim (fun e=>(I2 _ _ e)) (hi v)
 have hl:vs.length=fs.length:=by
  clear hi h h2 r
  induction vs generalizing fs with
  |nil=>cases fs with
   |nil=>rfl
   |cons _ _=>exact t.elim
  |cons v vs ih=>cases fs with
   |nil=>exact t.elim
   |cons f fs=>simp[ih fs t.2]
 refine kat_kind (T:= .type "int") t (by lia) (fun v hv=>by refine X2 (hi v hv) fun n t Q2=>?_;clear hv;subst Q2;exact Looks.of_pure rfl) (by decide) ?_;rw[show(Value.type "int" != Value.type "tuple")=true by decide];exact h
theorem Bx{vs:List Value}{ks:List (Int×Int)}(r:aM prog w F vs (ks.map lP)):aM prog w F (jY Value.none (fun i j=>ltP (ks.getD i (0,0)) (ks.getD j (0,0))) vs) ((nJ ks).map lP):=by
 have hl:vs.length=ks.length:=r.length.trans (bT _);unfold jY nJ;rw[hl]
 split
 ·exact r
 ·rename_i h2;have hp:=(yT (N:=ks.length) (by omega)).run (fun i j=>ltP (ks.getD i (0,0)) (ks.getD j (0,0)));have hm:∀i∈(yG (fun i j=>ltP (ks.getD i (0,0)) (ks.getD j (0,0))) (kas_sort ks.length)).toList,i<ks.length:=fun i hi=>by
   have:=hp.mem_iff.mp (Array.mem_toList_iff.mp hi);simpa using this
  generalize(yG (fun i j=>ltP (ks.getD i (0,0)) (ks.getD j (0,0))) (kas_sort ks.length)).toList=is at hm;clear hp
  induction is with
  |nil=>exact .nil
  |cons i is ih=>
   refine .cons ?_ (ih fun j hj=>hm j (.tail _ hj));apply bc;intro Z;have hi:=hm i (.head _);refine aP (r.get (k:=i) (d:=lP (ks.getD i (0,0))) (by rw[eW];simp[hi])) fun v hv rv=>?_;apply Z;clear Z;show Rep prog w F (vs.getD i Value.none) _;rw[dS,hv];exact rv
end
section
variable {prog:Program}{w:World}{P:PS}{K:Frag}{b5:Heap}{T:Tab}{mg mb:Str->Option Value}{B:Bk}
theorem Rl{F:Fz}{xs:List (List IS×Addr×Value)}:∀{ks:List (Int×Int)},xs.map (·.1)=ks.map nK->(∀x∈xs,x.2.2= .bool true/\∃k,x.1=nK k/\Rep prog w F (.ref x.2.1) (lP k))->aM prog w F (xs.map fun x=>Value.ref x.2.1) (ks.map lP):=by
 induction xs with
 |nil=>intro ks hxk _;rw[List.map_eq_nil_iff.mp hxk.symm];exact .nil
 |cons x xs ih=>
  intro ks hxk hxs
  cases ks with
  |nil=>cases hxk
  |cons k ks=>
   apply bc;intro Z;refine cK (List.cons.inj hxk) fun e1 e2=>tS (hxs x (.head _)) fun _ k' hk' rk'=>?_;rw[xF (hk'.symm.trans e1)] at rk';apply Z;clear Z;exact .cons rk' (ih e2 fun y hy=>hxs y (.tail _ hy))
theorem uO(kn:Known prog w P K b5 T mg mb B.lt){i:Nat}{x:Str}{q:Pos}{E:Expr}(he:jA B "sorted" E=some (.Name x q))(hn:okN B i x=true):Snd prog w P b5 T B (.sortedKeys i) E:=by
 intro A env b8 F σ fp s v d7 p ev;apply bc;intro Z;refine qH ev fun c hv ev=>Wy ev fun ks Q1 ev=>?_;rename_i y0;clear y0;subst Q1;refine aQ ev fun h64 ev=>aU ev fun Q0 Q1=>?_;subst Q0;subst Q1;apply Z;clear Z;refine mY kn.gl p he (kn.free rfl) Ay (by decide) (.builtin _) (load p hn hv fun l y hl hy hr=>?_);apply bc;intro Z;obtain⟨a,rfl,hs,⟨o,ho,xs,es,ep,hex,hd,hes,hnd,hxk,hxs⟩,-⟩:=hr;apply Z;clear Z;have hkeys:es.toList.map (·.key)=xs.map fun x=>Value.ref x.2.1:=by rw[hes,List.map_map];rfl
 have rk:=Rl hxk hxs;have hlen:(xs.map fun x=>Value.ref x.2.1).length=ks.length:=rk.length.trans (bT _);have hraw:nU s.heap a (xs.map fun x=>Value.ref x.2.1) ep:=(fH o es ho hex hd hkeys);generalize(xs.map fun x=>Value.ref x.2.1)=vs at rk hlen hraw;refine Calls.call_function_entry kind_sorted plain_sorted entry_sorted (args_sorted1 _) ?_;unfold Builtin.«sorted»;refine aG (m:=checkCount "sorted" 1 1 _) (aY ?_);refine aG (kdu_collect (A:=A.in1) (Yv hs) p.good.handled hraw (by rw[fR];lia) fun h' tk acc hk hacc=>?_);have hacc':acc.toList=vs:=by
  apply List.ext_getElem?;intro j;rcases Nat.lt_or_ge j acc.size with hj|hj
  ·rw[Array.getElem?_toList,Array.getElem?_eq_getElem hj];exact(hacc.2 j _ (Array.getElem?_eq_getElem hj)).symm
  ·rw[List.getElem?_eq_none (by simpa using hj),List.getElem?_eq_none (by rw[<-hacc.1];exact hj)]
 rw[hacc'];refine aG (wpAny_newList ?_ (by rw[fR];lia));have hoL:(h'.push (seqObj "list" vs.toArray 0)).get? h'.objs.size=some (seqObj "list" vs.toArray 0):=dQ _ rfl;have ltL:∀{b:Addr} {o:Obj},s.heap.get? b=some o->b≠h'.objs.size:=fun e=>Nat.ne_of_lt (eN (hk _ _ e));have kF:∀{h2:Heap},(∀b o,b≠h'.objs.size->(h'.push (seqObj "list" vs.toArray 0)).get? b=some o->h2.get? b=some o)->∀b o,s.heap.get? b=some o->h2.get? b=some o:=
  fun k b o e=>k b o (ltL e) (bM _ (hk b o e))
 refine aG (jN (wpAny_call_entry slot_list_sort (aH _ hoL rfl) entry_list_sort (Yt (κ:=tuples' true) (f:=fun i j=>ltP (ks.getD i (0,0)) (ks.getD j (0,0))) hoL (by lia) (fun h2 s' Q k hQ=>?_) (fun i j hi hj C s' k hC=>?_) fun h2 tk2 c k hL=>(aH _ rfl ?_)) (args_list_sort _)))
 ·exact Lo (fun b o e=>kF k b o (p.hF b o e)) rk h2 hQ
 ·apply bc;intro Z;refine aP (rk.get (k:=i) (d:=lP (ks.getD i (0,0))) (by rw[eW];simp[show i<ks.length by lia])) fun u hu ru=>?_;refine aP (rk.get (k:=j) (d:=lP (ks.getD j (0,0))) (by rw[eW];simp[show j<ks.length by lia])) fun v hv' rv=>?_;apply Z;clear Z;rw[dS,dS,hu,hv'];exact Yx (fun b o e=>kF k b o (p.hF b o e)) ru rv (hC s'.toks)
 ·refine aY (aH _ rfl ?_);have hn':s.heap.get? h'.objs.size=none:=kA hk _ (cS _);have fn:=Fz.none_of p.hF hn';exact(Go.made (b:= !pureE (.sortedKeys i)) (tk:=tk2) p.hF p.fi (kF k) hn' hL).postE (.list (Fz.add_self _ _ _) rfl rfl ((Bx rk).mono (Fz.add_le _ fn)))
end
structure Q4 where
 (a b c d:Option Tok)
noncomputable def Q4.get(q:Q4):Nat->Option Tok
 |0=>q.a
 |1=>q.b
 |2=>q.c
 |_=>q.d
noncomputable def Q4.put(q:Q4)(u:Tok):Nat->Q4
 |0=>{q with a:=some (q.a.getD u)}
 |1=>{q with b:=some (q.b.getD u)}
 |2=>{q with c:=some (q.c.getD u)}
 |_=>{q with d:=some (q.d.getD u)}
noncomputable def By(k:Nat):Option Tok->List (Nat×Tok)
 |none=>[]
 |some t=>[(k,t)]
def Q4.list(q:Q4):List (Nat×Tok):=By 0 q.a++(By 1 q.b++(By 2 q.c++By 3 q.d))
def Q4.es(q:Q4):Array (Int×Value):=(q.list.map fun p=>((p.1:Int),Value.int p.1 p.2)).toArray
def Q4.tb(q:Q4)(led:Bool):SetTable:={mask:=7,place:=(q.list.map (·.1)).toArray,dummies:= #[],finger:=0,led,moves:=0,plain:=true}
def Q4.obj(q:Q4)(led:Bool)(ep:Nat):Obj:={cls:= .type "set",data:= .set q.es ep (q.tb led)}
noncomputable def Q4.none_:Q4:=⟨none,none,none,none⟩
theorem Bz{k:Nat}(h:k<4):k=0\/k=1\/k=2\/k=3:=by exact(by decide:∀k,k<4->k=0\/k=1\/k=2\/k=3) k h
theorem Q4.lay{q:Q4}{k:Nat}{u:Tok}{led:Bool}(hk:k<4)(h:q.get k=none):layNew (q.tb led) q.es (k:Int) (.int k u)=((q.put u k).es,(q.put u k).tb led,false,false):=by
 obtain⟨a,b,c,d⟩:=q;rcases Bz hk with rfl|rfl|rfl|rfl
 ·obtain rfl:a=none:=h;cases b<;>cases c<;>cases d<;>kernel_rfl
 ·obtain rfl:b=none:=h;cases a<;>cases c<;>cases d<;>kernel_rfl
 ·obtain rfl:c=none:=h;cases a<;>cases b<;>cases d<;>kernel_rfl
 ·obtain rfl:d=none:=h;cases a<;>cases b<;>cases c<;>kernel_rfl
theorem Q4.full(q:Q4)(led:Bool):(q.tb led).fits q.es.size=true/\(q.tb led).tooFull=false/\q.es.size<scanBound:=by
 obtain⟨a,b,c,d⟩:=q
 cases a<;>cases b<;>cases c<;>cases d<;>exact(cD (by kernel_rfl) (by kernel_rfl) (Nat.le_of_ble_eq_true (by kernel_rfl)))
theorem Q4.put_some{q:Q4}{k:Nat}{u t:Tok}(hk:k<4)(h:q.get k=some t):q.put u k=q:=by
 obtain⟨a,b,c,d⟩:=q;rcases Bz hk with rfl|rfl|rfl|rfl
 ·obtain rfl:a=some t:=h;rfl
 ·obtain rfl:b=some t:=h;rfl
 ·obtain rfl:c=some t:=h;rfl
 ·obtain rfl:d=some t:=h;rfl
section
variable {prog:Program}{w:World}{A:Around}{E:Value->Shared->Prop}{s:Shared}{a:Addr}{q:Q4}{led:Bool}{ep:Nat}
theorem Rm{k:Nat}{o:Option Tok}{p:Nat×Tok}:p∈By k o↔o=some p.2/\p.1=k:=by
 cases o with
 |none=>simp[By]
 |some t=>
  simp only[By,List.mem_singleton,Option.some.injEq];exact⟨fun h=>by subst h;exact⟨rfl,rfl⟩,fun h=>Prod.ext h.2 h.1.symm⟩
theorem Q4.mem{p:Nat×Tok}:p∈q.list↔p.1<4/\q.get p.1=some p.2:=by
 unfold Q4.list;simp only[List.mem_append,Rm];constructor
 ·rintro (⟨h1,h2⟩|⟨h1,h2⟩|⟨h1,h2⟩|⟨h1,h2⟩)<;>rw[h2]<;>exact⟨by decide,h1⟩
 ·rintro ⟨h1,h2⟩
  obtain⟨k,t⟩:=p;rcases Bz h1 with rfl|rfl|rfl|rfl
  ·exact .inl ⟨h2,rfl⟩
  ·exact .inr (.inl ⟨h2,rfl⟩)
  ·exact .inr (.inr (.inl ⟨h2,rfl⟩))
  ·exact .inr (.inr (.inr ⟨h2,rfl⟩))
theorem Q4.elems:ElemsOf (intKind prog w) q.es.toList:=by intro e he;simp only[Q4.es,List.mem_map] at he;obtain⟨p,hp,rfl⟩:=he;have h4:=(Q4.mem.mp hp).1;obtain⟨k,t⟩:=p;refine⟨(aH (k:Int) (intKind_is _ _ _ _) ?_),rfl⟩;rcases Bz h4 with rfl|rfl|rfl|rfl<;>rfl
theorem Q4.find{k:Nat}(hk:k<4):(q.es.toList.findIdx? fun e=>(intKind prog w).is (k:Int) e.2).isSome=(q.get k).isSome:=by
 cases hq:q.get k with
 |none=>
  rw[Option.isSome_none,Option.isSome_eq_false_iff,Option.isNone_iff_eq_none,List.findIdx?_eq_none_iff];intro e he;simp only[Q4.es,List.mem_map] at he;obtain⟨p,hp,rfl⟩:=he;have h4:=Q4.mem.mp hp;rw[Nq];intro h;have:(k:Int)=p.1:=(intKind prog w).inj _ _ _ h (intKind_is _ _ _ _);have e:p.1=k:=by lia
  rw[e,hq] at h4;cases h4.2
 |some t=>
  rw[Option.isSome_some,List.findIdx?_isSome,List.any_eq_true];refine(aH ((k:Int),Value.int k t) ?_ (intKind_is _ _ _ _));simp only[Q4.es,List.mem_map];exact(aH (k,t) (Q4.mem.mpr ⟨hk,hq⟩) rfl)
theorem Fk{k:Nat}(hk:k<4):hashInt (k:Int)=(k:Int):=by rcases Bz hk with rfl|rfl|rfl|rfl<;>rfl
theorem Yy{k:Nat}{u:Tok}{Q:Bool->Shared->Prop}(hk:k<4)(ho:s.heap.get? a=some (q.obj led ep))
  (h:∀r h' ep',Heap.SameBut a s.heap h'->h'.get? a=some ((q.put u k).obj led ep')->Q r {s with heap:=h',toks:=s.toks+1}):wpAny (model prog w) A (setAdd a (.int k u)) Q E s:=by
 refine cZ (q.full led) fun f1 f2 f3=>?_;unfold setAdd;refine jN (aG ((intKind prog w).pyHash (k:=(k:Int)) (intKind_is _ _ _ _) ?_));unfold setAddHashed setAddHashedIn;refine jN (aG (wpAny_setState_of (s:={s with toks:=s.toks+1}) ho rfl f1 ?_));dsimp only;rw[byScan_of (knd:=intKind prog w) rfl f3 Q4.elems];simp only[↓reduceIte];unfold setAddByScan;refine aG (aG (wpAny_rule (aG (wpAny_setScan_of (knd:=intKind prog w) (k:=(k:Int)) (s:={s with toks:=s.toks+1}) (intKind_is _ _ _ _) ho rfl f1 Q4.elems ?_))));have hf:=Q4.find (prog:=prog) (w:=w) (q:=q) hk
 cases hr:q.es.toList.findIdx? (fun e=>(intKind prog w).is (k:Int) e.2) with
 |some j=>
  dsimp only;rw[hr] at hf;refine X1 (wU.mp hf.symm) fun t ht=>?_;have e:s.heap.get? a=some ((q.put u k).obj led ep):=by rw[Q4.put_some hk ht];exact ho
  exact aY (aY (h _ _ ep (Heap.SameBut.refl a s.heap) e))
 |none=>
  dsimp only;rw[hr] at hf;have hn:q.get k=none:=by simpa using hf.symm
  rw[show(intKind prog w).hash (k:Int)=(k:Int) from Fk hk,Q4.lay hk hn];dsimp only;refine cZ ((q.put u k).full led) fun g1 g2 g3=>aG (aY ?_);show wpAny _ _ (hashByValue 8 _ >>= _) _ _ _;rw[hashByValue_scannable 8 rfl];refine aG (aY ?_);simp only[show plainKind (Value.int (k:Int) u)=true from rfl,if_true];refine aG (wpAny_storeSet_of (s:={s with toks:=s.toks+1}) ho rfl ?_ (fits_of_scanBound g3));rw[g2];simp only[Bool.and_false,Bool.false_eq_true,if_false];have hg:=sC (Obj.putSet (q.put u k).es ((q.put u k).tb led)) ho (by rw[putSet_of _ _ rfl];rfl);rw[putSet_of _ _ rfl] at hg;refine aY (aY (h _ _ (ep+1) (Heap.SameBut.update s.heap a _) hg))
end
noncomputable def cV(w:World):Bool:=w.params.followText "set-order"
def Has(q:Q4)(l:List Nat):Prop:=∀k<4,(q.get k).isSome=l.contains k
theorem Has.nil:Has .none_ []:=fun k hk=>by rcases Bz hk with rfl|rfl|rfl|rfl<;>rfl
theorem Q4.get_put{q:Q4}{u:Tok}{k j:Nat}(hk:k<4)(hj:j<4):((q.put u k).get j).isSome=((q.get j).isSome||j==k):=by rcases Bz hk with rfl|rfl|rfl|rfl<;>rcases Bz hj with rfl|rfl|rfl|rfl<;>first|exact(Bool.or_true _).symm|exact(Bool.or_false _).symm
theorem Has.put{q:Q4}{l:List Nat}{u:Tok}{k:Nat}(h:Has q l)(hk:k<4):Has (q.put u k) (l++[k]):=fun j hj=>by rw[Q4.get_put hk hj,h j hj];by_cases q:j=k<;>simp[q]
section
variable {prog:Program}{w:World}{A:Around}{E:Value->Shared->Prop}{s:Shared}
theorem Rn{R:Result->Shared->Prop}{I S:Addr}{fpw:List Addr}{n:Nat}{Pv:Nat->Value->Prop}{St:Nat->Heap->Prop}{ns:List Nat}{led:Bool}(W:Walks prog w A.in1 I fpw [I] n Pv St)(hS:S∉fpw)(hl:ns.length=n)
  (hv:∀i v,Pv i v->∃(k:Nat) (t:Tok),v= .int ((k:Nat):Int) t/\k<4/\ns[i]?=some k):∀(m i:Nat) (h:Heap) (tk:Nat) (q:Q4) (ep:Nat),n-i=m->i<=n->St i h->h.get? S=some (q.obj led ep)->Has q (ns.take i)->
  (∀h' tk' q' ep',(∀b o,b≠S->b≠I->h.get? b=some o->h'.get? b=some o)->h'.get? S=some (q'.obj led ep')->Has q' ns->R (.ok (.ret .none)) {s with heap:=h',toks:=tk'})->
  codeAny (model prog w) A (.builtin "set.update.loop" ⟨[.ref S,.ref I],[]⟩) R {s with heap:=h,toks:=tk}:=by
 have hSI:S≠I:=fun q=>hS (q▸W.sub I (.head _));intro m
 induction m with
 |zero=>
  intro i h tk q ep hm hi hst ho hq hR;obtain rfl:i=n:=Nat.le_antisymm hi (Nat.le_of_sub_eq_zero hm);refine codeAny_builtin PyProof.Rows.F.entry_set_update_loop ?_;rw[Around.under_plainId PyProof.Rows.F.plain_set_update_loop _];show wpAny _ A.in1 (pyNext (.ref I) >>= _) _ _ _;refine aG (W.done _ _ _ hst fun h' tk' hk=>aY ?_);rw[List.take_of_length_le (Nat.le_of_eq ‹_›)] at hq;exact hR h' tk' q ep (fun b o _ hb2 e=>hk b o (by simpa using hb2) e) (hk S _ (by simpa using hSI) ho) hq
 |succ m ih=>
  intro i h tk q ep hm hi hst ho hq hR;refine codeAny_builtin PyProof.Rows.F.entry_set_update_loop ?_;rw[Around.under_plainId PyProof.Rows.F.plain_set_update_loop _];show wpAny _ A.in1 (pyNext (.ref I) >>= _) _ _ _;refine aG (W.item i _ _ _ (nS4 hm) hst fun v h' tk' hP hst' hk=>?_);refine cJ (hv i v hP) fun k t Q2 hk4 hns=>?_;subst Q2;refine aG (jN (Yy hk4 (hk S _ (by simpa using hSI) ho) fun r h2 ep2 hs2 ho2=>?_));refine aY ⟨plainId_quiet PyProof.Rows.F.plain_set_update_loop _,?_⟩;have hk2:∀b o,b≠S->h'.get? b=some o->h2.get? b=some o:=fun b o hb e=>(hs2.2 b hb).trans e;refine ih (i+1) h2 (tk'+1) (q.put t k) ep2 (bU Nat.pred hm) (nS4 hm) (W.frame _ _ _ hst' fun b hb o e=>hk2 b o (fun q=>hS (q▸hb)) e) ho2 ?_ fun h3 tk3 q3 ep3 hk3 ho3 hq3=>hR h3 tk3 q3 ep3 (fun b o hb1 hb2 e=>hk3 b o hb1 hb2 (hk2 b o hb1 (hk b o (by simpa using hb2) e))) ho3 hq3;rw[List.take_add_one,hns];exact hq.put hk4
theorem code_set_new{a:Value}{Q₁:Value->Shared->Prop}(h:Q₁ (.ref s.heap.objs.size) {s with heap:=s.heap.push (Q4.none_.obj (!cV w) 0)}):
  codeAny (model prog w) A (.call (.builtin "set.__new__") ⟨[.type "set",a],[]⟩) (wants Q₁ E) s:=by
 refine codeAny_of_tree ?_;show wpAny _ A.in1 (do checkBuiltinCall "set.__new__" ⟨[.type "set",a],[]⟩;again (.builtin "set.__new__" ⟨[.type "set",a],[]⟩)) _ _ s;refine aG (wpAny_of_eq (PySem.F.newCall_set_1 a) (aY ⟨plainId_quiet PySem.F.plain_set_new _,codeAny_builtin PySem.F.entry_set_new ?_⟩));rw[Around.under_plainId PySem.F.plain_set_new _];unfold Builtin.«set.__new__» Builtin.Frozenset.newClass;have hsub:=sub_set_self;obtain⟨hp,g,d,tk,os⟩:=s;dsimp only
 wp_walk
 refine wpAny_askSetting (aY ?_);unfold newObj;refine aG (wpAny_alloc (aY ?_));exact aY h
set_option maxHeartbeats 4000000 in
theorem Ca{v:Value}{ty:String}{l:Addr}{n:Nat}{oI:Obj}{Pv:Nat->Value->Prop}{St:Addr->Nat->Heap->Prop}{ns:List Nat}{Q:Value->Shared->Prop}
  (hh:A.handled=none) (hl:l<s.heap.objs.size) (ht:∀s':Shared,(∀b o,s.heap.get? b=some o->s'.heap.get? b=some o)->s'.TypeIs v ty) (h1:isSubtype (.type ty) (.type "set")=pure false) (h2:isSubtype (.type ty) (.type "frozenset")=pure false) (h3:(Value.type ty==Value.type "dict")=false)
  (hit:∀(s':Shared) (A':Around) (Q':Value->Shared->Prop) (E':Value->Shared->Prop),(∀b o,s.heap.get? b=some o->s'.heap.get? b=some o)->Q' (.ref s'.heap.objs.size) {s' with heap:=s'.heap.push oI}->wpAny (model prog w) A' (pyIter v) Q' E' s')
  (W:∀(A':Around) (I:Addr),A'.handled=none->l≠I->Walks prog w A' I [I,l] [I] n Pv (St I)) (st:∀h:Heap,(∀b o,s.heap.get? b=some o->h.get? b=some o)->St h.objs.size 0 (h.push oI)) (hn:ns.length=n)
  (hv:∀i v,Pv i v->∃(k:Nat) (t:Tok),v= .int ((k:Nat):Int) t/\k<4/\ns[i]?=some k)
  (h:∀h' tk q ep,(∀b o,s.heap.get? b=some o->h'.get? b=some o)->h'.get? s.heap.objs.size=some (q.obj (!cV w) ep)->Has q ns->Q (.ref s.heap.objs.size) {s with heap:=h',toks:=tk}):
  wpAny (model prog w) A (call (.type "set") [v]) Q E s:=by
 obtain⟨c,tl,hmro⟩:=PySem.F.called_set.mro;have hmade:=PySem.F.called_set.made;have hsub:=PySem.F.called_set.sub;have q1:=PySem.F.called_set.notType;have q2:=PySem.F.called_set.canCreate;have hct:=PySem.F.typeCall_set_1 v;refine wpAny_call (codeAny_of_tree ?_);show wpAny _ _ (callAny (.type "set") _) _ _ _;refine aY ⟨Code.quiet_builtin _ (by decide+kernel),codeAny_builtin PySem.F.entry_type_call ?_⟩;rw[Around.under_plain (weight_type_call_type "set" [v] []) rfl]
 repeat (any_goals (first|assumption|wp_step))
 refine codeAny_mono (code_set_new (a:=v) (E:=E) (Q₁:=fun obj c5=>obj= .ref s.heap.objs.size/\c5={s with heap:=s.heap.push (Q4.none_.obj (!cV w) 0)}) ⟨rfl,rfl⟩) fun r c5 hr=>?_
 cases r with
 |error e=>exact hr
 |ok fl=>
  cases fl<;>try exact hr.elim
  obtain⟨rfl,rfl⟩:=hr;have ho:(s.heap.push (Q4.none_.obj (!cV w) 0)).get? s.heap.objs.size=some (Q4.none_.obj (!cV w) 0):=dQ _ rfl;have hT:Shared.TypeIs {s with heap:=s.heap.push (Q4.none_.obj (!cV w) 0)} (.ref s.heap.objs.size) "set":=(aH _ ho rfl);have hli:=PySem.F.called_set.init.lookup;have hbi:=PySem.F.called_set.init.bind (.ref s.heap.objs.size)
  repeat (any_goals (first|assumption|wp_step))
  have k1:∀b o,s.heap.get? b=some o->(s.heap.push (Q4.none_.obj (!cV w) 0)).get? b=some o:=fun b o e=>bM _ e;refine codeAny_mono (codeAny_call_builtin (R:=wants (fun r c9=>r= .none/\Q (.ref s.heap.objs.size) c9) E) PySem.F.called_set.init.plain PySem.F.entry_set_init (check_set_init_1 hT ?_)) fun r₂ c9 hr₂=>?_
  ·have ht1:=ht {s with heap:=s.heap.push (Q4.none_.obj (!cV w) 0)} k1;unfold Builtin.«set.__init__» noKeywords Builtin.Frozenset.updateFrom;generalize hPI:pyIter=PI
   wp_walk
   subst hPI;refine hit _ _ _ _ k1 ?_;refine aG (wpAny_runValue ?_);have hlt:s.heap.objs.size<(s.heap.push (Q4.none_.obj (!cV w) 0)).objs.size:=by rw[size_push'];exact Nat.lt_succ_self _
   have hlI:l≠(s.heap.push (Q4.none_.obj (!cV w) 0)).objs.size:=Nat.ne_of_lt (Nat.lt_trans hl hlt);have hh3:A.in1.in1.in1.handled=none:=hh;refine Rn (W _ _ hh3 hlI) (by simp only[List.mem_cons,List.not_mem_nil,or_false,not_or];exact⟨Nat.ne_of_lt hlt,Nat.ne_of_gt hl⟩) hn hv n 0 _ _ _ 0 (by rfl) (gS _) (st _ k1) (bM _ ho) Has.nil fun h' tk' q' ep' hk ho' hq'=>?_;refine aY (aY ⟨rfl,h h' tk' q' ep' (fun b o e=>?_) ho' hq'⟩);have hb:=eN e;exact hk b o (Nat.ne_of_lt hb) (Nat.ne_of_lt (Nat.lt_trans hb hlt)) (bM _ (k1 _ _ e))
  ·cases r₂ with
   |error e=>exact hr₂
   |ok fl₂=>
    cases fl₂<;>try exact hr₂.elim
    obtain⟨rfl,hq⟩:=hr₂
    repeat (any_goals (first|assumption|wp_step))
end
theorem kO:Manifest.owners.lookup (String.ofList ['r','o','t','a','r','e','t','i','_','t','e','s'].reverse)=some Manifest.sig_set_iterator:=by kernel_rfl
theorem cF:Slot "set_iterator" "__next__" "set_iterator.__next__":=
 .of (owner:="set_iterator") (n:="__next__") (by rw[typeLookup_type,builtinLookup_eq_fast];kernel_rfl) (by decide+kernel) (by decide+kernel) (by decide+kernel) (by first|exact .inl (by decide+kernel)|exact .inr (by decide+kernel)) (by rw[isSubtype_type];kernel_rfl)
theorem gY:entryFor table "set_iterator.__next__"=some Builtin.«set_iterator.__next__»:=entryFor_of_tree (by kernel_rfl)
theorem iH(a:Value):argsOk "set_iterator.__next__" ⟨[a],[]⟩:=by unfold argsOk;rw[signature?_of (id:="set_iterator.__next__") (n:=['_','_','t','x','e','n','_','_']) (o:=['r','o','t','a','r','e','t','i','_','t','e','s']) (by kernel_rfl) kO];kernel_rfl
theorem iI:Slot "set_iterator" "__iter__" "set_iterator.__iter__":=
 .of (owner:="set_iterator") (n:="__iter__") (by rw[typeLookup_type,builtinLookup_eq_fast];kernel_rfl) (by decide+kernel) (by decide+kernel) (by decide+kernel) (by first|exact .inl (by decide+kernel)|exact .inr (by decide+kernel)) (by rw[isSubtype_type];kernel_rfl)
theorem mC:entryFor table "set_iterator.__iter__"=some Builtin.«dict_keyiterator.__iter__»:=
 entryFor_alias (id':="dict_keyiterator.__iter__") (by kernel_rfl) rfl (by decide+kernel) (by kernel_rfl)
theorem mP(a:Value):argsOk "set_iterator.__iter__" ⟨[a],[]⟩:=by unfold argsOk;rw[signature?_of (id:="set_iterator.__iter__") (n:=['_','_','r','e','t','i','_','_']) (o:=['r','o','t','a','r','e','t','i','_','t','e','s']) (by kernel_rfl) kO];kernel_rfl
theorem uP:entryFor table "set.__iter__"=some Builtin.«frozenset.__iter__»:=entryFor_alias (id':="frozenset.__iter__") (by kernel_rfl) rfl (by decide+kernel) (by kernel_rfl)
theorem Fl{α:Type}{l:List α}:∀{i:Nat} (h:i<l.length),([l[i]]++l.eraseIdx i).Perm l:=by
 induction l with
 |nil=>intro i h;exact absurd h (Nat.not_lt_zero i)
 |cons x r ih=>
  intro i h
  cases i with
  |zero=>exact .refl _
  |succ i=>exact(List.Perm.swap _ _ _).trans ((ih (Nat.lt_of_succ_lt_succ h)).cons x)
theorem Lp{α:Type}(next:Nat->Nat)(n:Nat):∀(k:Nat) (left:List α) (out:Array α),n=left.length->(pickOrder.go next n k left out).toList.Perm (out.toList++left):=by
 induction n with
 |zero=>
  intro k left out h;rw[mU h.symm,List.append_nil];exact .refl _
 |succ n ih=>
  intro k left out h;have hi:next k%left.length<left.length:=Nat.mod_lt _ (by lia)
  show(match left[next k%left.length]? with|some x=>pickOrder.go next n (k+1) (left.eraseIdx (next k%left.length)) (out.push x)|none=>_:Array α).toList.Perm _;rw[fL hi];refine(ih (k+1) _ _ (by rw[List.length_eraseIdx_of_lt hi];lia)).trans ?_;rw[Array.toList_push,List.append_assoc];exact List.Perm.append_left _ (Fl hi)
def Q4.vals(w:World)(a:Addr)(ep:Nat)(q:Q4):List Value:=if cV w then(pickOrder (w.params.setOrder a ep) q.es).toList.map (·.2) else q.es.toList.map (·.2)
theorem Q4.vals_perm{w:World}{a:Addr}{ep:Nat}{q:Q4}:(q.vals w a ep).Perm (q.es.toList.map (·.2)):=by
 unfold Q4.vals
 split
 ·refine List.Perm.map _ ?_;have:=Lp (w.params.setOrder a ep) q.es.size 0 q.es.toList #[] (by simp);simpa [pickOrder] using this
 ·exact .refl _
theorem Q4.vals_len{w:World}{a:Addr}{ep:Nat}{q:Q4}:(q.vals w a ep).length=q.es.size:=by have:=(Q4.vals_perm (w:=w) (a:=a) (ep:=ep) (q:=q)).length_eq;simpa using this
def Q4.slot(q:Q4):Nat->Nat
 |0=>0
 |i+1=>((q.list[i]?).map (·.1)).getD 0+1
noncomputable def sl(a b c d:Bool):List Nat:=(bif a then[0] else[])++((bif b then[1] else[])++((bif c then[2] else[])++(bif d then[3] else[])))
theorem qQ{k:Nat}{o:Option Tok}:(By k o).map (·.1)=bif o.isSome then[k] else[]:=by cases o<;>rfl
theorem Q4.keys{q:Q4}:q.list.map (·.1)=sl q.a.isSome q.b.isSome q.c.isSome q.d.isSome:=by unfold Q4.list sl;rw[List.map_append,List.map_append,List.map_append,qQ,qQ,qQ,qQ]
theorem Q4.size{q:Q4}:q.es.size=(sl q.a.isSome q.b.isSome q.c.isSome q.d.isSome).length:=by rw[<-Q4.keys,bT];unfold Q4.es;rw[List.size_toArray,bT]
noncomputable def Cb(l:List Nat)(i:Nat):Nat:=match i with
 |0=>0
 |i+1=>l[i]?.getD 0+1
theorem Q4.slot_eq{q:Q4}{i:Nat}:q.slot i=Cb (q.list.map (·.1)) i:=by
 cases i with
 |zero=>rfl
 |succ i=>show _=(q.list.map (·.1))[i]?.getD 0+1;rw[eW];rfl
theorem uQ:∀a b c d:Bool,(sl a b c d).length<=4/\SetTable.below (sl a b c d).toArray (Cb (sl a b c d) (sl a b c d).length)=(sl a b c d).length/\
  ∀i:Fin 4,i.1<(sl a b c d).length->SetTable.below (sl a b c d).toArray (Cb (sl a b c d) i.1)=i.1/\(sl a b c d)[i.1]?=some (Cb (sl a b c d) (i.1+1)-1)/\0<Cb (sl a b c d) (i.1+1):=by decide+kernel
theorem Q4.next{q:Q4}{led:Bool}(i:Nat)(hi:i<q.es.size):SetTable.below (q.tb led).place (q.slot i)=i/\(q.tb led).place[i]?=some ((q.slot (i+1))-1)/\0<q.slot (i+1):=by apply bc;intro Z;refine cZ (uQ q.a.isSome q.b.isSome q.c.isSome q.d.isSome) fun h4 _ h=>?_;rw[Q4.size] at hi;refine cZ (h ⟨i,nE hi h4⟩ hi) fun h1 h2 h3=>?_;apply Z;clear Z;rw[Q4.slot_eq,Q4.slot_eq,Q4.keys];unfold Q4.tb;rw[Q4.keys];exact(cD h1 (by rw[List.getElem?_toArray];exact h2) h3)
theorem Q4.over{q:Q4}{led:Bool}:q.es[SetTable.below (q.tb led).place (q.slot q.es.size)]?=none:=by apply bc;intro Z;refine cZ (uQ q.a.isSome q.b.isSome q.c.isSome q.d.isSome) fun _ h _=>?_;apply Z;clear Z;refine Array.getElem?_eq_none (Nat.le_of_eq ?_);rw[Q4.slot_eq,Q4.size,Q4.keys];unfold Q4.tb;rw[Q4.keys];exact h.symm
section
variable {prog:Program}{w:World}{A:Around}{E:Value->Shared->Prop}{s:Shared}{a it:Addr}{q:Q4}{i ep:Nat}
def pG(w:World)(a:Addr)(q:Q4)(ep:Nat)(it:Addr)(i:Nat)(h:Heap):Prop:=∃slot:Nat,(cV w=false->slot=q.slot i)/\
 (∃o,h.get? it=some o/\o.cls= .type "set_iterator"/\o.data= .fields #[.int slot 0,.int i 0,.ref a,.int q.es.size 0,.int ep 0])/\h.get? a=some (q.obj (!cV w) ep)
theorem Ro{Q:Value->Shared->Prop}(ho:s.heap.get? a=some (q.obj (!cV w) ep))
  (hQ:Q (.ref s.heap.objs.size) {s with heap:=s.heap.push {cls:= .type "set_iterator",data:= .fields #[.int 0 0,.int 0 0,.ref a,.int q.es.size 0,.int ep 0]}}):wpAny (model prog w) A (pyIter (.ref a)) Q E s:=by
 apply bc;intro Z;refine cZ (q.full (!cV w)) fun f1 f2 f3=>?_;have hT:s.TypeIs (.ref a) "set":=(aH _ ho rfl);apply Z;clear Z;refine wpAny_pyIter_slot hT PySem.F.slot_set_iter (wpAny_call_entry PySem.F.slot_set_iter hT uP ?_ (PySem.F.args_set_iter_1 _));unfold Builtin.«frozenset.__iter__»;refine aG (m:=Builtin.Frozenset.slot0 _ _) (aY ?_);refine aG (m:=Builtin.Frozenset.sizeOf _) (aG (wpAny_setEntries_of ho rfl f1 (aY ?_)));unfold setDrawn setsByText;refine aG (aG (wpAny_setState_of ho rfl f1 (aG (aG (wpAny_askSetting (aY (aY ?_)))))));dsimp only;rw[aR (by show¬((!cV w&&(!(q.tb (!cV w)).plain&&decide (q.es.size>1)))=true);simp[Q4.tb])];refine aG (aY (aG (wpAny_setEpoch_of ho rfl f1 ?_)));refine aG (wpAny_newObj_type (aY (aH _ rfl (dW ("set_iterator") _ (aH _ (dQ _ rfl) rfl) cF.lookup ?_))));simpa [rawInt] using hQ
theorem pG.typeIs(x:pG w a q ep it i s.heap):s.TypeIs (.ref it) "set_iterator":=eR x fun _ _ z _=>eR z fun o ho hc _=>(aH o ho hc)
theorem uR{slot:Nat}{Q:Option (Value×Nat)->Shared->Prop}(hs:cV w=false->slot=q.slot i)(ho:s.heap.get? a=some (q.obj (!cV w) ep))(hi:i<=q.es.size)
  (h:∀r,((q.vals w a ep)[i]?=none->r=none)->(∀v,(q.vals w a ep)[i]?=some v->∃n,r=some (v,n)/\(cV w=false->n=q.slot (i+1)))->Q r s):
  wpAny (model prog w) A (setNext a slot i ep) Q E s:=by
 apply bc;intro Z;refine cZ (q.full (!cV w)) fun f1 f2 f3=>?_;apply Z;clear Z;unfold setNext setsByText;refine aG (wpAny_setState_of ho rfl f1 ?_);dsimp only;refine aG (aG (wpAny_askSetting (aY ?_)));show wpAny _ _ (if cV w=true then _ else _) _ _ _
 cases hb:cV w with
 |true=>
  rw[aJ rfl,aR (by simp)];refine aG ?_;unfold setWalk setsByText;refine aG (wpAny_setState_of ho rfl f1 ?_);dsimp only;refine aG (aG (wpAny_askSetting (aY ?_)));show wpAny _ _ (if cV w=true then _ else _) _ _ _;rw[hb,aJ rfl];have hv:(q.vals w a ep)[i]?=((pickOrder (w.params.setOrder a ep) q.es)[i]?).map (·.2):=by unfold Q4.vals;rw[hb,aJ rfl,eW,Array.getElem?_toList]
  rw[hv] at h;refine aG (wpAny_askSetting (aY (aY (h _ (fun hn=>?_) fun v hv=>?_))))
  ·rw[Option.map_eq_none_iff] at hn ⊢;exact hn
  ·apply bc;intro Z;refine aP (Option.map_eq_some_iff.mp hv) fun e he Q2=>?_;subst Q2;apply Z;clear Z;exact(aH slot (by show Option.map _ (pickOrder (w.params.setOrder a ep) q.es)[i]?=_;rw[he];rfl) (fun q=>by rw[hb] at q;cases q))
 |false=>
  rw[aR (by simp),aR (by show¬((!(q.tb (!false)).plain&&decide (q.es.size>1))=true);simp[Q4.tb])];refine aG ?_;show wpAny _ _ (if(!(q.tb (!false)).led&& !q.es.isEmpty)=true then _ else pure _) _ _ _;rw[aR (by simp[Q4.tb])];have hv:(q.vals w a ep)[i]?=(q.es[i]?).map (·.2):=by unfold Q4.vals;rw[hb,aR (by simp),eW,Array.getElem?_toList]
  rw[hv] at h;have hs':=hs hb;clear hs;subst hs';refine aY (aY (h _ (fun hn=>?_) fun v hv=>?_))
  ·have hi':i=q.es.size:=by
    rw[Option.map_eq_none_iff,Array.getElem?_eq_none_iff] at hn;lia
   subst hi';rw[Q4.over]
  ·apply bc;intro Z;refine aP (Option.map_eq_some_iff.mp hv) fun e he Q2=>?_;clear hv;subst Q2;have hlt:i<q.es.size:=by
    rcases Nat.lt_or_ge i q.es.size with h|h
    ·exact h
    ·rw[Array.getElem?_eq_none h] at he;cases he
   refine cZ (Q4.next (q:=q) (led:= !false) i hlt) fun n1 n2 n3=>?_;apply Z;clear Z;rw[n1,he,n2];exact(aH (q.slot (i+1)) (by show some (e.2,q.slot (i+1)-1+1)=_;rw[Nat.sub_add_cancel n3]) (fun _=>rfl))
theorem Rp{Q:Option Value->Shared->Prop}{v:Value}(x:pG w a q ep it i s.heap)(hne:a≠it)(hx:(q.vals w a ep)[i]?=some v)
  (hQ:∀h',pG w a q ep it (i+1) h'->(∀b o,b≠it->s.heap.get? b=some o->h'.get? b=some o)->Q (some v) {s with heap:=h'}):wpAny (model prog w) A (pyNext (.ref it)) Q E s:=by
 apply bc;intro Z;have hT:=x.typeIs;refine eR x fun slot hs Q2 hset=>eR Q2 fun o ho hc hd=>cZ (q.full (!cV w)) fun f1 f2 f3=>?_;apply Z;clear Z;have hi:i<q.es.size:=by rw[<-Q4.vals_len (w:=w) (a:=a) (ep:=ep)];exact(hZ.mp hx).1
 unfold pyNext;refine aG (wpAny_attempt (wpAny_callSpecial?_slot (name:=Str.ofString "__next__") hT cF (wpAny_call_entry cF hT gY ?_ (iH _))));unfold Builtin.«set_iterator.__next__»;refine aG (m:=slotArgs _ _ _) (aY ?_);refine aG (wpAny_fieldsOf ho hd ?_);dsimp only;refine aG (wpAny_setEntries_of hset rfl f1 ?_);rw[aR (by simp)];refine aG (uR (i:=i) hs hset (jM hi) fun r _ hr=>?_);apply bc;intro Z;refine aP (hr v hx) fun n Q1 hn=>?_;rename_i y0;clear hr y0;subst Q1;apply Z;clear Z;dsimp only;refine aG (wpAny_setField ho hd (by simp) ?_);have ho2:=sC (Obj.mapFields (·.setIfInBounds 0 (rawInt (n:Int)))) ho (Obj.isFreed_of_fields (Obj.data_mapFields hd _));refine aG (wpAny_setField (s:={s with heap:=s.heap.update it (Obj.mapFields (·.setIfInBounds 0 (rawInt (n:Int))))}) ho2 (Obj.data_mapFields hd _) (by simp) ?_);refine aY (aH _ rfl (aY (hQ _ (cY n hn (cY _ (sC _ ho2 (Obj.isFreed_of_fields (Obj.data_mapFields (Obj.data_mapFields hd _) _))) ((Obj.cls_mapFields ..).trans ((Obj.cls_mapFields ..).trans hc)) ?_) ?_) fun b o' hb e=>?_)))
 ·rw[Obj.data_mapFields (Obj.data_mapFields hd _)];simp[rawInt]
 ·exact(pC _ _ (fun q=>hne q.symm)).trans ((pC _ _ (fun q=>hne q.symm)).trans hset)
 ·exact(pC _ _ (fun q=>hb q.symm)).trans ((pC _ _ (fun q=>hb q.symm)).trans e)
theorem Yz{Q:Option Value->Shared->Prop}(hh:A.handled=none)(x:pG w a q ep it q.es.size s.heap)
  (hQ:∀h',(∀b o,b≠it->s.heap.get? b=some o->h'.get? b=some o)->Q none {s with heap:=h'}):wpAny (model prog w) A (pyNext (.ref it)) Q E s:=by
 apply bc;intro Z;have hT:=x.typeIs;refine eR x fun slot hs Q2 hset=>eR Q2 fun o ho hc hd=>cZ (q.full (!cV w)) fun f1 f2 f3=>?_;apply Z;clear Z;unfold pyNext;refine aG (wpAny_attempt (wpAny_callSpecial?_slot (name:=Str.ofString "__next__") hT cF (wpAny_call_entry cF hT gY ?_ (iH _))));unfold Builtin.«set_iterator.__next__»;refine aG (m:=slotArgs _ _ _) (aY ?_);refine aG (wpAny_fieldsOf ho hd ?_);dsimp only;refine aG (wpAny_setEntries_of hset rfl f1 ?_);rw[aR (by simp)];refine aG (uR (i:=q.es.size) hs hset (eQ _) fun r hr _=>?_);rw[hr (List.getElem?_eq_none (by rw[Q4.vals_len];exact eQ _))];dsimp only;refine aG (wpAny_setField ho hd (by simp) ?_);exact xE hh fun h'' k=>hQ h'' fun b o' hb e=>k b o' ((pC _ _ (fun q:it=b=>hb q.symm)).trans e)
theorem Rq{Q:Value->Shared->Prop}(x:pG w a q ep it i s.heap)(h:Q (.ref it) s):wpAny (model prog w) A (pyIter (.ref it)) Q E s:=by refine wpAny_pyIter_slot x.typeIs iI (wpAny_call_entry iI x.typeIs mC ?_ (mP _));show wpAny _ _ (ret (.ref it)) _ _ s;exact aY (aH _ rfl (dW ("set_iterator") _ x.typeIs cF.lookup h))
theorem pG.at'{h h':Heap}(x:pG w a q ep it i h)(k1:∀o,h.get? it=some o->h'.get? it=some o)(k2:∀o,h.get? a=some o->h'.get? a=some o):pG w a q ep it i h':=
 eR x fun slot hs z hset=>cY slot hs (aP z fun o ho r=>aH o (k1 o ho) r) (k2 _ hset)
theorem Walks.set(hh:A.handled=none)(I a:Addr)(hne:a≠I)(q:Q4)(ep:Nat):
  Walks prog w A I [I,a] [I] q.es.size (fun i v=>(q.vals w a ep)[i]?=some v) (fun i h=>pG w a q ep I i h) where
 sub:=fun b hb=>by simp at hb;simp[hb]
 frame:=fun _ _ _ st hk=>st.at' (fun o e=>hk I (by simp) o e) fun o e=>hk a (by simp) o e
 item:=fun i s Q E hi st hQ=>by
  have hi':i<(q.vals w a ep).length:=by rw[Q4.vals_len];exact hi
  exact Rp st hne (v:=(q.vals w a ep)[i]) (by simp[hi']) fun h' st' hs'=>hQ _ h' s.toks (by simp[hi']) st' fun b o hb e=>hs' b o (fun h=>hb (by simp[h])) e
 done:=fun s Q E st hQ=>Yz hh st fun h' he'=>hQ h' s.toks fun b o hb e=>he' b o (fun h=>hb (by simp[h])) e
 self:=fun _ _ _ _ st hQ=>Rq st hQ
theorem Rr{Q:Bool->Shared->Prop}(hT:s.TypeIs (.ref a) "set")(h:Q false s):wpAny (model prog w) A (Builtin.List.listLengthHint (.ref a)) Q E s:=by
 unfold Builtin.List.listLengthHint;refine aG (wpAny_specialOf hT PySem.F.slot_set_len.lookup ?_);generalize hid:("set.__len__":String)=id0
 wp_delta
 rw[show splitId id0=some ("set","__len__") from by subst hid;decide+kernel];subst hid;refine aG (wpAny_isInstance (T:="set") (b:=true) hT (by rw[isSubtype_type];kernel_rfl) ?_);refine wpAny_ite_split (fun hab=>absurd hab (by decide)) (fun _=>?_);refine wpAny_ite_split (fun _=>?_) (fun hab=>absurd (by decide+kernel) hab);refine aG (wpAny_typeOf hT ?_);exact aY h
theorem Za:KdlSrc prog w "set" a a q.es.size (fun i v=>(q.vals w a ep)[i]?=some v) (fun h=>h.get? a=some (q.obj (!cV w) ep)) where
 type:=fun _ hm=>(aH _ hm rfl)
 there:=fun h hm=>⟨eN hm,eN hm⟩
 keep:=fun _ _ hm hk=>hk a (.inl rfl) _ hm
 notList:=by decide
 notTuple:=by decide
 hint:=fun A E s Q hm h=>Rr (aH _ hm rfl) h
 iter:=fun _ s hh hm=>(dW _ _ (fun _ _ hq=>Ro hm hq) (Walks.set hh _ a (Nat.ne_of_lt (eN hm)) q ep) (cY 0 (fun _=>rfl) (cY _ (dQ _ rfl) rfl rfl) (bM _ hm)))
end
theorem sub_tuple_set:isSubtype (.type "tuple") (.type "set")=pure false:=by rw[isSubtype_type];kernel_rfl
theorem sub_tuple_frozenset:isSubtype (.type "tuple") (.type "frozenset")=pure false:=by rw[isSubtype_type];kernel_rfl
def Q4.ints(q:Q4):List Int:=q.list.map fun p=>(p.1:Int)
theorem Q4.ints_eq(q:Q4):q.ints=(sl q.a.isSome q.b.isSome q.c.isSome q.d.isSome).map fun k:Nat=>(k:Int):=by rw[<-Q4.keys,List.map_map];rfl
theorem Lq:∀a b c d:Bool,((sl a b c d).map fun k:Nat=>(k:Int)).Pairwise (· <= ·):=by decide+kernel
theorem Rt:∀a b c d:Bool,((sl a b c d).map fun k:Nat=>(k:Int))=((bif a then[0] else[])++((bif b then[1] else[])++((bif c then[2] else[])++(bif d then[3] else[]))):List Int):=by decide+kernel
theorem Q4.ints_sorted(q:Q4):q.ints.Pairwise (· <= ·):=by rw[q.ints_eq];exact Lq _ _ _ _
theorem tG{p:Int->Bool}{k:Int}{l:List Int}:(k::l).filter p=(bif p k then[k] else[])++l.filter p:=by rw[List.filter_cons];cases p k<;>rfl
theorem Q4.ints_sortU{q:Q4}{ns:List Int}(h:∀k<4,(q.get k).isSome=ns.contains (k:Int)):q.ints=qI ns:=by have h0:q.a.isSome=ns.contains 0:=h 0 (by decide);have h1:q.b.isSome=ns.contains 1:=h 1 (by decide);have h2:q.c.isSome=ns.contains 2:=h 2 (by decide);have h3:q.d.isSome=ns.contains 3:=h 3 (by decide);unfold qI;rw[q.ints_eq,Rt,h0,h1,h2,h3,tG,tG,tG,tG,List.filter_nil,List.append_nil]
theorem ints_cons{x:D}{r:List D}{ns:List Int}(h:nG (x::r)=some ns):∃n ms,x= .int n/\nG r=some ms/\ns=n::ms:=by apply bc;intro Z;refine eZ h fun n e h=>aO h fun ms h1 h2=>?_;apply Z;clear Z;exact(dW n ms e h1 h2.symm)
theorem Zb{xs:List D}:∀{ns:List Int} {i:Nat} {d:D},nG xs=some ns->xs[i]?=some d->∃n,d= .int n/\ns[i]?=some n:=by
 induction xs with
 |nil=>intro ns i d _ e;exact(nn e).elim
 |cons x r ih=>
  intro ns i d h e;refine cJ (ints_cons h) fun n ms h1 h2 h3=>?_;clear h;subst h3
  cases i with
  |zero=>exact(aH n ((aK e).symm.trans h1) rfl)
  |succ i=>exact ih (ns:=ms) h2 e
theorem Ru{xs:List D}:∀{ns:List Int},nG xs=some ns->ns.length=xs.length:=by
 induction xs with
 |nil=>intro ns h;rw[<-aK h];rfl
 |cons x r ih=>
  intro ns h;refine cJ (ints_cons h) fun n ms h1 h2 h3=>?_;clear h;subst h3;exact bU (· +1) (ih h2)
theorem Lr{ns:List Int}(h:nH ns=true){i:Nat}{n:Int}(e:ns[i]?=some n):0<=n/\n<=3:=by have:=List.all_eq_true.mp h n (dT e);simpa using this
theorem uS{ns:List Int}(h:nH ns=true){k:Nat}:(ns.map Int.toNat).contains k=ns.contains (k:Int):=by
 rw[Bool.eq_iff_iff,List.contains_iff_mem,List.contains_iff_mem,eO];constructor
 ·rintro ⟨n,hn,rfl⟩
  have:=List.all_eq_true.mp h n hn;simp at this
  rwa [Int.toNat_of_nonneg this.1]
 ·intro hk;exact(aH _ hk (sE k))
section
variable {prog:Program}{w:World}{A:Around}{E:Value->Shared->Prop}{s:Shared}{F:Fz}{a:Addr}{q:Q4}{ep:Nat}
theorem Ls:IntsAre (q.vals w a ep) ((q.vals w a ep).map numOf)/\((q.vals w a ep).map numOf).Perm q.ints:=by
 have hp:=Q4.vals_perm (w:=w) (a:=a) (ep:=ep) (q:=q);have he:(q.es.toList.map (·.2))=q.list.map fun p=>Value.int p.1 p.2:=by simp[Q4.es]
 refine⟨intsAre_map _ fun v hv=>?_,?_⟩
 ·have:=hp.mem_iff.mp hv;rw[he] at this;refine aP (eO.mp this) fun p _ Q2=>?_;clear hv this;subst Q2;exact(I2 _ _ rfl)
 ·refine(hp.map numOf).trans ?_;rw[he,List.map_map];exact .refl _
theorem IntsAre.rep{vs:List Value}{ns:List Int}(h:IntsAre vs ns):aM prog w F vs (ns.map .int):=by
 induction h with
 |nil=>exact .nil
 |cons n t _ ih=>exact .cons (.int _ _) ih
theorem Fo{Q:Value->Shared->Prop}{ns:List Int}(hh:A.handled=none)(ho:s.heap.get? a=some (q.obj (!cV w) ep))(hq:∀k<4,(q.get k).isSome=ns.contains (k:Int))
  (h:∀h' tk L vs c,(∀b o,s.heap.get? b=some o->h'.get? b=some o)->s.heap.get? L=none->h'.get? L=some (seqObj "list" vs c)->aM prog w F vs.toList ((qI ns).map .int)->Q (.ref L) {s with heap:=h',toks:=tk}):
  wpAny (model prog w) A (call (.builtin "sorted") [.ref a]) Q E s:=by
 have hz:q.es.size<=4:=by rw[Q4.size];exact(uQ _ _ _ _).1
 refine Calls.call_function_entry kind_sorted plain_sorted entry_sorted (args_sorted1 _) ?_;unfold Builtin.«sorted»;refine aG (m:=checkCount "sorted" 1 1 _) (aY ?_);refine aG (kdu_collect (A:=A.in1) Za hh ho (by rw[fR];omega) fun h' tk acc hk hacc=>?_);obtain⟨v1,v2⟩:=Ls (w:=w) (a:=a) (ep:=ep) (q:=q);have hlen:=Q4.vals_len (w:=w) (a:=a) (ep:=ep) (q:=q);have hacc':acc.toList=q.vals w a ep:=by
  apply List.ext_getElem?;intro j;rcases Nat.lt_or_ge j acc.size with hj|hj
  ·rw[Array.getElem?_toList,Array.getElem?_eq_getElem hj];exact(hacc.2 j _ (Array.getElem?_eq_getElem hj)).symm
  ·rw[List.getElem?_eq_none (by simpa using hj),List.getElem?_eq_none (by rw[hlen,<-hacc.1];exact hj)]
 rw[hacc'];generalize q.vals w a ep=vs at v1 v2 hlen;refine aG (wpAny_newList ?_ (by rw[fR];omega));have hoL:(h'.push (seqObj "list" vs.toArray 0)).get? h'.objs.size=some (seqObj "list" vs.toArray 0):=dQ _ rfl;refine aG (jN (wpAny_call_entry slot_list_sort (aH _ hoL rfl) entry_list_sort (list_sort_tree hoL v1 (by omega) fun out ns' a1 a2 a3=>(aH _ rfl ?_)) (args_list_sort _)));obtain⟨c,hc⟩:=sortedHeap_at (out:=out) hoL;have e:ns'=qI ns:=by rw[<-Q4.ints_sortU hq];exact(a2.trans v2).eq_of_pairwise (fun _ _ _ _ h1 h2=>Int.le_antisymm h1 h2) a3 q.ints_sorted
 refine aY (aH _ rfl (h _ tk h'.objs.size out c (fun b o e=>?_) ?_ hc (e▸IntsAre.rep a1)))
 ·have hb:=eN (hk _ _ e);rw[sortedHeap_old (Nat.ne_of_lt hb) (by rw[size_push'];exact Nat.lt_succ_of_lt hb)];exact bM _ (hk _ _ e)
 ·exact kA hk _ (cS _)
end
section
variable {prog:Program}{w:World}{P:PS}{K:Frag}{b5:Heap}{T:Tab}{mg mb:Str->Option Value}{B:Bk}
theorem Lu{F:Fz}{s:Shared}{A:Around}{u:Value}{x:D}{xs:List D}{ns:List Int}{Q:Value->Shared->Prop}(hh:A.handled=none)(hF:∀a o,F a=some o->s.heap.get? a=some o)(r:Rep prog w F u x)(hx:x= .list xs\/x= .tuple xs)(hn:nG xs=some ns)(hs:nH ns=true)
  (h:∀(h':Heap) (tk:Nat) (q:Q4) (ep:Nat),(∀b o,s.heap.get? b=some o->h'.get? b=some o)->h'.get? s.heap.objs.size=some (q.obj (!cV w) ep)->(∀k:Nat,k<4->(q.get k).isSome=ns.contains (k:Int))->Q (.ref s.heap.objs.size) {s with heap:=h',toks:=tk}):
  wpAny (model prog w) A (call (.type "set") [u]) Q NoE s:=by
 have hv:∀{ys:Array Value},aM prog w F ys.toList xs->∀i v,ys[i]?=some v->∃(k:Nat) (t:Tok),v=Value.int (k:Int) t/\k<4/\(ns.map Int.toNat)[i]?=some k:=fun{ys} r i v e=>by refine aP (r.get' (k:=i) (v:=v) (by rw[Array.getElem?_toList];exact e)) fun d hd rd=>?_;refine aP (Zb hn hd) fun n Q1 hn'=>?_;clear hd;subst Q1;refine X1 rd.inv fun t Q1=>?_;clear e rd;subst Q1;have:=Lr hs hn';exact(dW n.toNat t (by rw[Int.toNat_of_nonneg this.1]) (by omega) (by rw[eW,hn'];rfl))
 have hlen:=Ru hn;rcases hx with rfl|rfl
 ·obtain⟨l,o,ys,n,rfl,h1,h2,h3,h4⟩:=r.list_inv;have ho:=hF _ _ h1;have hsz:ys.size=xs.length:=dM h4;exact Ca (l:=l) (ty:="list") (n:=ys.size) (St:=fun I i h=>h.IsListIter I l i/\h.IsList l ys) hh (eN ho) (fun s' k=>(aH o (k _ _ ho) h2)) PySem.F.sub_list_set PySem.F.sub_list_frozenset (by decide) (fun s' A' Q' E' k q=>wpAny_pyIter_list (dB o (k _ _ ho) h2 n h3) q)
   (fun A' I hA hI=>Walks.list hA I l hI ys) (fun h k=>⟨(cY _ (dQ _ rfl) rfl rfl),(dB o (bM _ (k _ _ ho)) h2 n h3)⟩) ((bT _).trans (hlen.trans hsz.symm)) (hv h4) fun h' tk q ep k1 k2 hq=>h h' tk q ep k1 k2 fun k hk=>(hq k hk).trans (uS hs)
 ·obtain⟨l,o,ys,n,rfl,h1,h2,h3,h4⟩:=r.tuple_inv;have ho:=hF _ _ h1;have hsz:ys.size=xs.length:=dM h4;exact Ca (l:=l) (ty:="tuple") (n:=ys.size) (St:=fun I i h=>h.IsTupleIter I l i/\h.IsTuple l ys) hh (eN ho) (fun s' k=>(aH o (k _ _ ho) h2)) sub_tuple_set sub_tuple_frozenset (by decide) (fun s' A' Q' E' k q=>wpAny_pyIter_tuple (dB o (k _ _ ho) h2 n h3) q)
   (fun A' I hA hI=>Walks.tuple hA I l hI ys) (fun h k=>⟨(cY _ (dQ _ rfl) rfl rfl),(dB o (bM _ (k _ _ ho)) h2 n h3)⟩) ((bT _).trans (hlen.trans hsz.symm)) (hv h4) fun h' tk q ep k1 k2 hq=>h h' tk q ep k1 k2 fun k hk=>(hq k hk).trans (uS hs)
theorem wJ(kn:Known prog w P K b5 T mg mb B.lt){a:Ex}{X Y E:Expr}(he:jA B "sorted" E=some X)(he2:jA B "set" X=some Y)(ha:Snd prog w P b5 T B a Y):Snd prog w P b5 T B (.sortedSet a) E:=by
 intro A env b8 F σ fp s v d7 p ev;apply bc;intro Z;refine bE ev fun x b9 e1 ev=>bN ev fun xs hx ev=>bN ev fun ns hn ev=>aQ ev fun hs ev=>aU ev fun Q0 Q1=>?_;rename_i y0 y1 y2 y3;clear ev y0 y1 y2 y3;subst Q0;subst Q1;have hx:x= .list xs\/x= .tuple xs:=by
  cases x with
  |list ys=>exact .inl (by rw[aK hx])
  |tuple ys=>exact .inr (by rw[aK hx])
  |_=>exact(nn hx).elim
 apply Z;clear Z;refine mY kn.gl p he (kn.free rfl) Ay (by decide) (.builtin _) (mY kn.gl p he2 (kn.free rfl) aDh (by decide) (.type _) (ha.d p e1 fun u c6 c7 c5 g1 r1=>?_));refine Lu p.good.handled g1.tr.fz r1 hx hn hs.2 fun h' tk q ep k1 k2 hq=>Fo (F:=c6) (s:={c5 with heap:=h',toks:=tk}) p.good.handled k2 hq fun h2 tk2 L vs c k3 hL hL2 rv=>?_;have g2:=g1.more (tk:=tk) k1;have fn:c6 L=none:=Fz.none_of g2.tr.fz hL;have g3:=g2.trans (Go.made (b:= !pureE (.sortedSet a)) (s:={c5 with heap:=h',toks:=tk}) (tk:=tk2) g2.tr.fz g2.fi k3 hL hL2);exact g3.postE (.list (Fz.add_self _ _ _) rfl rfl (rv.mono (Fz.add_le _ fn)))
end
set_option linter.unusedSectionVars false
section
variable {prog:Program}{w:World}{P:PS}{K:Frag}{b5:Heap}{T:Tab}{mg mb:Str->Option Value}
theorem Fp{b:Bool}(h:(!b)=true):b=false:=by cases b<;>first|rfl|cases h
theorem Fq{B:Bk}{es:List Ex}:∀{Xs:List Expr},Am P B es Xs=true->Xs.all Expr.plain=true:=by
 induction es with
 |nil=>intro Xs h;rw[w0 h];rfl
 |cons a r ih=>
  intro Xs h;refine El h fun x xs Q2 h1 h2=>?_;clear h;subst Q2;rw[List.all_cons,(fB h1).1,ih h2];rfl
theorem Lv{B:Bk}{a:Arg}{x:Expr}(h:okA P B a x=true):Expr.plain x=true:=by
 cases a with
 |e a=>exact gE h fun h _ _=>h
 |r i=>refine v3k h fun y p Q2 _=>?_;clear h;subst Q2;rfl
theorem uT{B:Bk}{as:List Arg}:∀{Xs:List Expr},Ei P B as Xs=true->Xs.all Expr.plain=true/\mK as=true:=by
 induction as with
 |nil=>intro Xs h;rw[w0 h];exact⟨rfl,rfl⟩
 |cons a r ih=>
  intro Xs h;apply bc;intro Z;refine El h fun x xs Q2 h1 h2=>?_;clear h;subst Q2;refine cK (ih h2) fun h3 h4=>?_;apply Z;clear Z;refine⟨by rw[List.all_cons,h3,Lv h1];rfl,?_⟩
  cases a with
  |e a=>exact Bool.and_eq_true_iff.mpr ⟨gE h1 fun _ h _=>h,h4⟩
  |r i=>exact h4
theorem Fs{B:Bk}{m i:Nat}{as:List Arg}{E:Expr}(kn:Known prog w P K b5 T mg mb B.lt)(ha:∀{Xs},Ei P B as Xs=true->pE prog w P b5 T B as Xs)(ok:okE P B (.meth m i as) E=true):Snd prog w P b5 T B (.meth m i as) E:=by
 apply bc;intro Z;obtain⟨x,q,n,ap,xs,cp,rfl,ok⟩:=v19 ok;refine aS ok fun ok o7=>aS ok fun ok o6=>aS ok fun ok o5=>nN ok fun o1 o2 o3 o4=>?_;rename_i y0 y1 y2 y3;clear ok y0 y1 y2 y3;obtain rfl:=cX.mp o2;refine cK (uT o3) fun p1 p2=>?_;apply Z;clear Z;refine Qn kn o1 (fun c f hc h2=>?_) (lO o6) (lO o5) o4 p1 p2 (ha o3);apply bc;intro Z;refine aS o7 fun o7 o8=>aS o8 fun o8 _=>?_;apply Z;clear Z;rcases Nat.lt_succ_iff_lt_or_eq.mp h2 with h2|rfl
 ·rename_i y0 y1 y2;clear y0;obtain rfl:=Nat.lt_one_iff.mp h2;dsimp only at o7;rw[hc] at o7;exact lO o7
 ·dsimp only at o8;rw[hc] at o8;exact lO o8
section
variable (prog:Program)(w:World)(P:PS)(b5:Heap)(T:Tab)(lt:Nat)
abbrev PE(e:Ex):Prop:=∀(B:Bk) (E:Expr),B.lt=lt->okE P B e E=true->Snd prog w P b5 T B e E
abbrev PT(e:Tx):Prop:=∀(B:Bk) (E:Expr),B.lt=lt->okT P B e E=true->nO prog w P b5 T B e E
abbrev PI(e:It):Prop:=∀(B:Bk) (E:Expr),B.lt=lt->Kl P B e E=true->nS prog w P b5 T B e E
abbrev PL(es:List Ex):Prop:=∀(B:Bk) (Xs:List Expr),B.lt=lt->Am P B es Xs=true->SndL prog w P b5 T B es Xs
abbrev PS_(ts:List Tx):Prop:=∀(B:Bk) (Xs:List Expr),B.lt=lt->Ej P B ts Xs=true->SndTL prog w P b5 T B ts Xs
abbrev PA(as:List Arg):Prop:=∀(B:Bk) (Xs:List Expr),B.lt=lt->Ei P B as Xs=true->pE prog w P b5 T B as Xs
abbrev PA1(a:Arg):Prop:=∀(as:List Arg),PA prog w P b5 T lt as->PA prog w P b5 T lt (a::as)
end
variable {lt:Nat}(kn:Known prog w P K b5 T mg mb lt)
include kn in
theorem aDj(c):PE prog w P b5 T lt (.k c):=fun B E hl ok=>aDb ok
include kn in
theorem Rv(i):PE prog w P b5 T lt (.neg i):=fun B E hl ok=>Xo ok
include kn in
theorem aDk(i):PE prog w P b5 T lt (.v i):=fun B E hl ok=>aDc ok
include kn in
theorem aAU(i id):PE prog w P b5 T lt (.at i id):=fun B E hl ok=>aBz (hl▸kn) ok
include kn in
theorem aAV(g):PE prog w P b5 T lt (.gl g):=fun B E hl ok=>aBw (hl▸kn) ok
include kn in
theorem aAW(i):PE prog w P b5 T lt (.sh i):=fun B E hl ok=>aBD ok
include kn in
theorem Rw(o a c)(ih_a:PE prog w P b5 T lt a)(ih_c:PE prog w P b5 T lt c):PE prog w P b5 T lt (.bin o a c):=fun B E hl ok=>by apply bc;intro Z;refine v5k ok fun l op r p Q4 ok=>?_;rename_i y0;clear y0;subst Q4;refine gE ok fun o1 o2 o3=>?_;apply Z;clear Z;exact Xu o1 (ih_a B _ hl o2) (ih_c B _ hl o3)
include kn in
theorem Rx(a c)(ih_a:PE prog w P b5 T lt a)(ih_c:PE prog w P b5 T lt c):PE prog w P b5 T lt (.rep a c):=fun B E hl ok=>by obtain⟨l,q,r,p,rfl,ok⟩:=v6 ok;exact gE ok fun o1 o2 o3=>Yl (hl▸kn) o1 (ih_a B _ hl o2) (ih_c B _ hl o3)
include kn in
theorem Ry(es)(ih_es:PL prog w P b5 T lt es):PE prog w P b5 T lt (.tup es):=fun B E hl ok=>by refine v7k ok fun x c p Q3 ok=>?_;rename_i y0;clear y0;subst Q3;exact aS ok fun o1 o2=>Xv (lO o2) (ih_es B _ hl o1).es
include kn in
theorem Rz(es)(ih_es:PL prog w P b5 T lt es):PE prog w P b5 T lt (.lst es):=fun B E hl ok=>by refine v8k ok fun x p Q2 ok=>?_;rename_i y0;clear y0;subst Q2;exact aS ok fun o1 o2=>Xw (hl▸kn) (lO o2) (ih_es B _ hl o1).es
include kn in
theorem Sb(ks es)(ih_es:PL prog w P b5 T lt es):PE prog w P b5 T lt (.dct ks es):=fun B E hl ok=>by apply bc;intro Z;refine v9k ok fun x y p Q3 ok=>?_;rename_i y0;clear y0;subst Q3;refine lZ ok fun o1 o2 o3 o4 o5=>?_;apply Z;clear Z;exact Ym (hl▸kn) o1 (cX.mp o3) (lO o4) (lO o5) (ih_es B _ hl o2)
include kn in
theorem Sd(k):PE prog w P b5 T lt (.emp k):=fun B E hl ok=>by refine X1 (v10 ok) fun p Q1=>?_;clear ok;subst Q1;exact Xx (hl▸kn)
include kn in
theorem Se(a i)(ih_a:PE prog w P b5 T lt a)(ih_i:PE prog w P b5 T lt i):PE prog w P b5 T lt (.sub a i):=fun B E hl ok=>by apply bc;intro Z;refine Ox ok fun x y p Q3 ok=>?_;rename_i y0;clear y0;subst Q3;refine gE ok fun o1 o2 o3=>?_;apply Z;clear Z;exact Xz o1 (ih_a B _ hl o2) (ih_i B _ hl o3)
include kn in
theorem Ih(q i)(ih_i:PE prog w P b5 T lt i):PE prog w P b5 T lt (.subP q i):=fun B E hl ok=>by apply bc;intro Z;refine Ox ok fun x y p Q3 ok=>?_;rename_i y0;clear y0;subst Q3;refine nN ok fun o1 o2 o3 o4=>?_;apply Z;clear Z;exact Po (hl▸kn) o1 o2 o3 (ih_i B _ hl o4)
include kn in
theorem Ii(a i)(ih_a:PE prog w P b5 T lt a)(ih_i:PE prog w P b5 T lt i):PE prog w P b5 T lt (.slTo a i):=fun B E hl ok=>by obtain⟨x,y,q,p,rfl,ok⟩:=v12 ok;exact aS ok fun o1 o2=>Qf (hl▸kn) (ih_a B _ hl o1) (ih_i B _ hl o2)
include kn in
theorem Cc(a i)(ih_i:PE prog w P b5 T lt i):PE prog w P b5 T lt (.slToP a i):=fun B E hl ok=>by obtain⟨x,y,q,p,rfl,ok⟩:=v12 ok;exact gE ok fun o1 o2 o3=>Kx (hl▸kn) o1 o2 (ih_i B _ hl o3)
include kn in
theorem uU(a i)(ih_i:PE prog w P b5 T lt i):PE prog w P b5 T lt (.slFromP a i):=fun B E hl ok=>by obtain⟨x,y,q,p,rfl,ok⟩:=v13 ok;exact gE ok fun o1 o2 o3=>Bb (hl▸kn) o1 o2 (ih_i B _ hl o3)
include kn in
theorem Sf(a)(ih_a:PE prog w P b5 T lt a):PE prog w P b5 T lt (.len a):=fun B E hl ok=>by exact jP ok fun x hx ok=>Yk (hl▸kn) hx (ih_a B _ hl ok)
include kn in
theorem Ij(p):PE prog w P b5 T lt (.lenP p):=fun B E hl ok=>by exact jP ok fun x hx ok=>Qc (hl▸kn) hx ok
include kn in
theorem Sh(t a c)(ih_t:PT prog w P b5 T lt t)(ih_a:PE prog w P b5 T lt a)(ih_c:PE prog w P b5 T lt c):PE prog w P b5 T lt (.ite t a c):=fun B E hl ok=>by apply bc;intro Z;refine aD3 ok fun x y z p Q4 ok=>?_;rename_i y0;clear y0;subst Q4;refine gE ok fun o1 o2 o3=>?_;apply Z;clear Z;exact Yi (ih_t B _ hl o1) (ih_a B _ hl o2) (ih_c B _ hl o3)
include kn in
theorem Si(o a c)(ih_a:PE prog w P b5 T lt a)(ih_c:PE prog w P b5 T lt c):PE prog w P b5 T lt (.cmp o a c):=fun B E hl ok=>by apply bc;intro Z;refine Oy ok fun x y z p Q4 ok=>?_;rename_i y0;clear y0;subst Q4;refine nN ok fun o1 o2 o3 o4=>?_;obtain rfl:=cX.mp o1;apply Z;clear Z;exact Yd (Fp o2) (ih_a B _ hl o3) (ih_c B _ hl o4)
include kn in
theorem Ik(o q c)(ih_c:PE prog w P b5 T lt c):PE prog w P b5 T lt (.cmpP o q c):=fun B E hl ok=>by apply bc;intro Z;refine Oy ok fun x y z p Q4 ok=>?_;rename_i y0;clear y0;subst Q4;refine lZ ok fun o1 o2 o3 o4 o5=>?_;obtain rfl:=cX.mp o1;apply Z;clear Z;exact Pu (hl▸kn) (Fp o2) o3 o4 (ih_c B _ hl o5)
include kn in
theorem Sj(a q)(ih_a:PE prog w P b5 T lt a):PE prog w P b5 T lt (.inP a q):=fun B E hl ok=>by apply bc;intro Z;refine Oy ok fun x y z p Q4 ok=>?_;rename_i y0;clear y0;subst Q4;refine nN ok fun o1 o2 o3 o4=>?_;obtain rfl:=cX.mp o1;apply Z;clear Z;exact Yg (hl▸kn) (Fp o2) o4 (ih_a B _ hl o3)
include kn in
theorem Il(n l8 t it ifs)(ih_elt:PE prog w P b5 T lt l8)(ih_it:PI prog w P b5 T lt it)(ih_ifs:PS_ prog w P b5 T lt ifs):PE prog w P b5 T lt (.comp n l8 t it ifs):=fun B E hl ok=>by apply bc;intro Z;obtain⟨x,y,iter,cs,z,sc,p,rfl,ok⟩:=v16 ok;refine aS ok fun hz ok=>?_;obtain rfl:=cX.mp hz;refine aP (aCS ok) fun ts hts ok=>aS ok fun ok o7=>aS ok fun ok o6=>lZ ok fun o1 o2 o3 o4 o5=>?_;apply Z;clear Z;exact(xC (hl▸kn) (cX.mp o1) (mO o2) o3 (gN o4) (ih_it B _ hl o4) (ih_ifs _ _ hl o5) (ih_elt _ _ hl o6) (oP o3 hts fun x hx=>hx)).snd
include kn in
theorem Cd(n l8 t it ifs t2 it2 m8)(ih_elt:PE prog w P b5 T lt l8)(ih_it:PI prog w P b5 T lt it)(ih_ifs:PS_ prog w P b5 T lt ifs)(ih_it2:PI prog w P b5 T lt it2)(ih_ifs2:PS_ prog w P b5 T lt m8):PE prog w P b5 T lt (.comp2 n l8 t it ifs t2 it2 m8):=fun B E hl ok=>by
  apply bc;intro Z;obtain⟨x,y,iter,cs,z,y2,m9,cs2,z2,sc,p,rfl,ok⟩:=v17 ok;refine gE ok fun hz hz2 ok=>?_;obtain rfl:=cX.mp hz;obtain rfl:=cX.mp hz2;refine cJ (aCT ok) fun t1 t2' h1 h2 ok=>aS ok fun ok o10=>aS ok fun ok o9=>aS ok fun ok o8=>aS ok fun ok o7=>aS ok fun ok o6=>lZ ok fun o1 o2 o3 o4 o5=>?_;apply Z;clear Z;exact(uM (hl▸kn) (cX.mp o1) (mO o2) o3 (gN o4) o6 (gN o7) (ih_it B _ hl o4) (ih_ifs _ _ hl o5) (ih_it2 _ _ hl o7) (ih_ifs2 _ _ hl o8) (ih_elt _ _ hl o9)
     (oP o3 h1 fun x hx=>dF.mpr (.inl hx)) (oP o6 h2 fun x hx=>dF.mpr (.inr hx))).snd
include kn in
theorem Sk(a)(ih_a:PE prog w P b5 T lt a):PE prog w P b5 T lt (.frz a):=fun B E hl ok=>Xy (ih_a B E hl ok)
include kn in
theorem Im(f as)(ih_as:PA prog w P b5 T lt as):PE prog w P b5 T lt (.call f as):=fun B E hl ok=>by apply bc;intro Z;obtain⟨x,q,xs,p,rfl,ok⟩:=v18 ok;refine aS ok fun ok o6=>lZ ok fun o1 o2 o3 o4 o5=>cK (uT o4) fun p1 p2=>?_;apply Z;clear Z;exact Qm (hl▸kn) o1 (cX.mp o2) (lO o3) (lO o5) (lO o6) p1 p2 (ih_as B _ hl o4)
include kn in
theorem Io(m i as)(ih_as:PA prog w P b5 T lt as):PE prog w P b5 T lt (.meth m i as):=fun B E hl ok=>Fs (hl▸kn) (fun h=>ih_as B _ hl h) ok
include kn in
theorem Sl(f i as)(ih_as:PA prog w P b5 T lt as):PE prog w P b5 T lt (.sup f i as):=fun B E hl ok=>(eX ok).elim
include kn in
theorem Sm(c es)(ih_es:PL prog w P b5 T lt es):PE prog w P b5 T lt (.new c es):=fun B E hl ok=>by apply bc;intro Z;obtain⟨x,q,xs,p,rfl,ok⟩:=v18 ok;refine nN ok fun o1 o2 o3 o4=>aP (aDY o4) fun f hf o4=>?_;apply Z;clear Z;exact Yq (hl▸kn) o1 (cX.mp o2) hf (lO o4) (Fq o3) (ih_es B _ hl o3).es
include kn in
theorem Ip(a c)(ih_a:PE prog w P b5 T lt a)(ih_c:PE prog w P b5 T lt c):PE prog w P b5 T lt (.max2 a c):=fun B E hl ok=>by apply bc;intro Z;refine Ov (o:=pA B "max" E) (k:=fun x y=>okE P B a x&&okE P B c y) ok fun x y hx ok=>aS ok fun o1 o2=>?_;apply Z;clear Z;exact Qd (hl▸kn) hx (ih_a B _ hl o1) (ih_c B _ hl o2)
include kn in
theorem Iq(a c)(ih_a:PE prog w P b5 T lt a)(ih_c:PE prog w P b5 T lt c):PE prog w P b5 T lt (.min2 a c):=fun B E hl ok=>by apply bc;intro Z;refine Ov (o:=pA B "min" E) (k:=fun x y=>okE P B a x&&okE P B c y) ok fun x y hx ok=>aS ok fun o1 o2=>?_;apply Z;clear Z;exact Qe (hl▸kn) hx (ih_a B _ hl o1) (ih_c B _ hl o2)
include kn in
theorem uV(a)(ih_a:PE prog w P b5 T lt a):PE prog w P b5 T lt (.tupleOf a):=fun B E hl ok=>by exact jP ok fun x hx ok=>Az (hl▸kn) hx (ih_a B _ hl ok)
include kn in
theorem Ce(a)(ih_a:PE prog w P b5 T lt a):PE prog w P b5 T lt (.intOf a):=fun B E hl ok=>by exact jP ok fun x hx ok=>Kw (hl▸kn) hx (ih_a B _ hl ok)
include kn in
theorem xG(a)(ih_a:PE prog w P b5 T lt a):PE prog w P b5 T lt (.listOf a):=fun B E hl ok=>by exact jP ok fun x hx ok=>Ez (hl▸kn) hx (ih_a B _ hl ok)
include kn in
theorem qR(a)(ih_a:PE prog w P b5 T lt a):PE prog w P b5 T lt (.sortedSet a):=fun B E hl ok=>by apply bc;intro Z;refine jP ok fun x hx ok=>jP ok fun y hy ok=>?_;apply Z;clear Z;exact wJ (hl▸kn) hx hy (ih_a B _ hl ok)
include kn in
theorem pH(i):PE prog w P b5 T lt (.sortedKeys i):=fun B E hl ok=>by apply bc;intro Z;refine jP ok fun x hx ok=>v3k ok fun x q Q2 ok=>?_;rename_i y0;clear y0;subst Q2;apply Z;clear Z;exact uO (hl▸kn) hx ok
include kn in
theorem qS(a)(ih_a:PE prog w P b5 T lt a):PE prog w P b5 T lt (.dictPairs a):=fun B E hl ok=>by exact jP ok fun x hx ok=>wI (hl▸kn) hx (ih_a B _ hl ok)
include kn in
theorem sP(a)(ih_a:PE prog w P b5 T lt a):PE prog w P b5 T lt (.dictCopy a):=fun B E hl ok=>by exact jP ok fun x hx ok=>yR (hl▸kn) hx (ih_a B _ hl ok)
include kn in
theorem Ir(p):PE prog w P b5 T lt (.popP p):=fun B E hl ok=>by obtain⟨x,n,ap,cp,rfl,ok⟩:=v20 ok;refine gE ok fun o1 o2 o3=>?_;rename_i y0;clear ok y0;obtain rfl:=cX.mp o1;exact Qg (hl▸kn) o2 o3
include kn in
theorem aBH(a)(ih:PE prog w P b5 T lt a):PA1 prog w P b5 T lt (.e a):=fun as h B Xs hl ok=>by apply bc;intro Z;refine El ok fun x xs Q2 h1 h2=>?_;clear ok;subst Q2;refine gE h1 fun o1 o2 o3=>?_;apply Z;clear Z;exact Yn o1 o2 (ih B _ hl o3) (h B _ hl h2)
include kn in
theorem aBI(i:Nat):PA1 prog w P b5 T lt (.r i):=fun as h B Xs hl ok=>by apply bc;intro Z;refine El ok fun x xs Q2 h1 h2=>?_;clear ok;subst Q2;refine v3k h1 fun y p Q2 h1=>?_;subst Q2;apply Z;clear Z;exact Yo h1 (h B _ hl h2)
include kn in
theorem So(t)(ih_t:PT prog w P b5 T lt t):PT prog w P b5 T lt (.not t):=fun B E hl ok=>by refine fG (v21 ok) fun x p Q2 ok=>?_;rename_i y0;clear y0;subst Q2;exact Px (ih_t B _ hl ok)
include kn in
theorem Sp(ts)(ih_ts:PS_ prog w P b5 T lt ts):PT prog w P b5 T lt (.and ts):=fun B E hl ok=>by refine fG (v22 ok) fun x p Q2 ok=>?_;rename_i y0;clear y0;subst Q2;exact Py (ih_ts B _ hl ok).and
include kn in
theorem aAX(ts)(ih_ts:PS_ prog w P b5 T lt ts):PT prog w P b5 T lt (.or ts):=fun B E hl ok=>by refine fG (v23 ok) fun x p Q2 ok=>?_;rename_i y0;clear y0;subst Q2;exact Yh (ih_ts B _ hl ok).or
include kn in
theorem Sq(o a c)(ih_a:PE prog w P b5 T lt a)(ih_c:PE prog w P b5 T lt c):PT prog w P b5 T lt (.cmp o a c):=fun B E hl ok=>by apply bc;intro Z;refine Oy ok fun x y z p Q4 ok=>?_;rename_i y0;clear y0;subst Q4;refine nN ok fun o1 o2 o3 o4=>?_;obtain rfl:=cX.mp o1;apply Z;clear Z;exact Pt (Fp o2) (ih_a B _ hl o3) (ih_c B _ hl o4)
include kn in
theorem Iu(o q c)(ih_c:PE prog w P b5 T lt c):PT prog w P b5 T lt (.cmpP o q c):=fun B E hl ok=>by apply bc;intro Z;refine Oy ok fun x y z p Q4 ok=>?_;rename_i y0;clear y0;subst Q4;refine lZ ok fun o1 o2 o3 o4 o5=>?_;obtain rfl:=cX.mp o1;apply Z;clear Z;exact Kr (hl▸kn) (Fp o2) o3 o4 (ih_c B _ hl o5)
include kn in
theorem Cf(a o c o' e)(ih_a:PE prog w P b5 T lt a)(ih_c:PE prog w P b5 T lt c)(ih_e:PE prog w P b5 T lt e):PT prog w P b5 T lt (.chain a o c o' e):=fun B E hl ok=>by apply bc;intro Z;obtain⟨x,q,q',y,z,p,rfl,ok⟩:=v24 ok;refine aS ok fun ok o6=>lZ ok fun o1 o2 o3 o4 o5=>?_;rename_i y0 y1;clear ok y0 y1;obtain rfl:=cX.mp o1;obtain rfl:=cX.mp o2;apply Z;clear Z;exact Ew (Fp o3) (ih_a B _ hl o4) (ih_c B _ hl o5) (ih_e B _ hl o6)
include kn in
theorem Sr(a)(ih_a:PE prog w P b5 T lt a):PT prog w P b5 T lt (.val a):=fun B E hl ok=>Pw (fB ok).1 (ih_a B _ hl (fB ok).2)
include kn in
theorem Ft(a)(ih_a:PE prog w P b5 T lt a):PI prog w P b5 T lt (.seq a):=fun B E hl ok=>Lg (ih_a B _ hl (fB ok).2)
include kn in
theorem Ss(a)(ih_a:PE prog w P b5 T lt a):PI prog w P b5 T lt (.r1 a):=fun B E hl ok=>by exact jP ok fun x hx ok=>Qr (hl▸kn) hx (ih_a B _ hl ok)
include kn in
theorem Su(a c)(ih_a:PE prog w P b5 T lt a)(ih_c:PE prog w P b5 T lt c):PI prog w P b5 T lt (.r2 a c):=fun B E hl ok=>by exact Ov (o:=pA B "range" E) (k:=fun x y=>okE P B a x&&okE P B c y) ok fun x y hx ok=>Qs (hl▸kn) hx (ih_a B _ hl (fB ok).1) (ih_c B _ hl (fB ok).2)
include kn in
theorem Sv(a c)(ih_a:PE prog w P b5 T lt a)(ih_c:PE prog w P b5 T lt c):PI prog w P b5 T lt (.rd a c):=fun B E hl ok=>by obtain⟨x,y,kk,p1,p2,hx,ok⟩:=is3 (o:=Ou B "range" E) (k:=fun x y=>okE P B a x&&okE P B c y) ok;exact Qt (hl▸kn) ⟨_,hx⟩ (ih_a B _ hl (fB ok).1) (ih_c B _ hl (fB ok).2)
include kn in
theorem Fu(a)(ih_a:PE prog w P b5 T lt a):PI prog w P b5 T lt (.rev a):=fun B E hl ok=>by exact jP ok fun x hx ok=>Lh (hl▸kn) hx (ih_a B _ hl ok)
include kn in
theorem Fv:PL prog w P b5 T lt []:=fun B Xs hl ok=>by rw[w0 ok];exact .nil
include kn in
theorem yU(a r)(ih:PE prog w P b5 T lt a)(ih2:PL prog w P b5 T lt r):PL prog w P b5 T lt (a::r):=fun B Xs hl ok=>by refine El ok fun x xs Q2 h1 h2=>?_;clear ok;subst Q2;exact .cons (fB h1).1 (ih B _ hl (fB h1).2) (ih2 B _ hl h2)
include kn in
theorem yV:PS_ prog w P b5 T lt []:=fun B Xs hl ok=>by rw[w0 ok];exact .nil
include kn in
theorem uW(a r)(ih:PT prog w P b5 T lt a)(ih2:PS_ prog w P b5 T lt r):PS_ prog w P b5 T lt (a::r):=fun B Xs hl ok=>by refine El ok fun x xs Q2 h1 h2=>?_;clear ok;subst Q2;exact .cons (ih B _ hl h1) (ih2 B _ hl h2)
include kn in
theorem Fw:PA prog w P b5 T lt []:=fun B Xs hl ok=>by rw[w0 ok];exact Lb
include kn in
theorem yW(a r)(ih:PA1 prog w P b5 T lt a)(ih2:PA prog w P b5 T lt r):PA prog w P b5 T lt (a::r):=ih r ih2
theorem eF(lt:Nat)(kn:Known prog w P K b5 T mg mb lt)(e:Ex):PE prog w P b5 T lt e:=
 Ex.rec (motive_1:=PE prog w P b5 T lt) (motive_2:=PA1 prog w P b5 T lt) (motive_3:=PT prog w P b5 T lt) (motive_4:=PI prog w P b5 T lt) (motive_5:=PL prog w P b5 T lt) (motive_6:=PS_ prog w P b5 T lt) (motive_7:=PA prog w P b5 T lt)
  (aDj kn) (Rv kn) (aDk kn) (aAU kn) (aAV kn) (aAW kn) (Rw kn) (Rx kn) (Ry kn) (Rz kn) (Sb kn) (Sd kn) (Se kn) (Ih kn) (Ii kn) (Cc kn) (uU kn) (Sf kn) (Ij kn) (Sh kn) (Si kn) (Ik kn) (Sj kn) (Il kn) (Cd kn) (Sk kn) (Im kn) (Io kn) (Sl kn) (Sm kn) (Ip kn) (Iq kn) (uV kn) (Ce kn) (xG kn) (qR kn) (pH kn) (qS kn) (sP kn) (Ir kn) (aBH kn) (aBI kn) (So kn) (Sp kn) (aAX kn) (Sq kn) (Iu kn) (Cf kn) (Sr kn) (Ft kn) (Ss kn) (Su kn) (Sv kn) (Fu kn) (Fv kn) (yU kn) (yV kn) (uW kn) (Fw kn) (yW kn) e
theorem Fx(lt:Nat)(kn:Known prog w P K b5 T mg mb lt)(e:Tx):PT prog w P b5 T lt e:=
 Tx.rec (motive_1:=PE prog w P b5 T lt) (motive_2:=PA1 prog w P b5 T lt) (motive_3:=PT prog w P b5 T lt) (motive_4:=PI prog w P b5 T lt) (motive_5:=PL prog w P b5 T lt) (motive_6:=PS_ prog w P b5 T lt) (motive_7:=PA prog w P b5 T lt)
  (aDj kn) (Rv kn) (aDk kn) (aAU kn) (aAV kn) (aAW kn) (Rw kn) (Rx kn) (Ry kn) (Rz kn) (Sb kn) (Sd kn) (Se kn) (Ih kn) (Ii kn) (Cc kn) (uU kn) (Sf kn) (Ij kn) (Sh kn) (Si kn) (Ik kn) (Sj kn) (Il kn) (Cd kn) (Sk kn) (Im kn) (Io kn) (Sl kn) (Sm kn) (Ip kn) (Iq kn) (uV kn) (Ce kn) (xG kn) (qR kn) (pH kn) (qS kn) (sP kn) (Ir kn) (aBH kn) (aBI kn) (So kn) (Sp kn) (aAX kn) (Sq kn) (Iu kn) (Cf kn) (Sr kn) (Ft kn) (Ss kn) (Su kn) (Sv kn) (Fu kn) (Fv kn) (yU kn) (yV kn) (uW kn) (Fw kn) (yW kn) e
theorem tH(lt:Nat)(kn:Known prog w P K b5 T mg mb lt)(e:It):PI prog w P b5 T lt e:=by
 cases e with
 |seq a=>exact Ft kn a (eF lt kn a)
 |r1 a=>exact Ss kn a (eF lt kn a)
 |r2 a c=>exact Su kn a c (eF lt kn a) (eF lt kn c)
 |rd a c=>exact Sv kn a c (eF lt kn a) (eF lt kn c)
 |rev a=>exact Fu kn a (eF lt kn a)
theorem Zc(lt:Nat)(kn:Known prog w P K b5 T mg mb lt)(e:List Ex):PL prog w P b5 T lt e:=by
 induction e with
 |nil=>exact Fv kn
 |cons a r ih=>exact yU kn a r (eF lt kn a) ih
theorem yX(lt:Nat)(kn:Known prog w P K b5 T mg mb lt)(e:List Tx):PS_ prog w P b5 T lt e:=by
 induction e with
 |nil=>exact yV kn
 |cons a r ih=>exact uW kn a r (Fx lt kn a) ih
theorem Zd(lt:Nat)(kn:Known prog w P K b5 T mg mb lt)(e:List Arg):PA prog w P b5 T lt e:=by
 induction e with
 |nil=>exact Fw kn
 |cons a r ih=>exact yW kn a r (by cases a with|e x=>exact aBH kn x (eF lt kn x)|r i=>exact aBI kn i) ih
end
def AtL(b8:List bF)(a:Addr):Prop:=∃l∈b8,l.addr=a
def Kp(b8:List bF)(W:List Nat)(h h':Heap):Prop:=∀i l y,i∉W->b8[i]?=some l->l.At h y->l.At h' y
def Ze(prog:Program)(w:World)(F:Fz)(f:PySem.Flow)(fl:Flow):Prop:=match fl with
 | .next=>f= .next
 | .ret d=>∃v,f= .ret v/\Rep prog w F v d
def uX:St->Bool
 | .ret e=>pureE e
 |_=>false
def pW:List St->Bool
 |[]=>true
 |a::r=>uX a&&pW r
section
variable (prog:Program)(w:World)(P:PS)(b8:List bF)(W:List Nat)(b:Bool)(F:Fz)(fp:Nat->List Addr)(s:Shared)
inductive gJ(fl:Flow)(d7:Sg)(f:PySem.Flow)(s':Shared):Prop
 |mk (F':Fz) (e9:Nat->List Addr):GoX prog w P b8 (AtL b8) b F fp s F' e9 s' d7->Kp b8 W s.heap s'.heap->Ze prog w F' f fl->gJ fl d7 f s'
end
section
variable (prog:Program)(w:World)(P:PS)(b5:Heap)(T:Tab)(n:Nat)
def pB(B:Bk)(st:St)(S:Stmt):Prop:=∀A env b8 F σ fp s fl d7,Pre prog w P b5 B A env b8 F σ fp s->evS T n st σ=some (fl,d7)->
 wpAny (model prog w) A (exec S env) (gJ prog w P b8 (Ee st) (!uX st) F fp s fl d7) NoE s
def mZ(B:Bk)(st:List St)(S:List Stmt):Prop:=∀A env b8 F σ fp s fl d7,Pre prog w P b5 B A env b8 F σ fp s->dC T n st σ=some (fl,d7)->
 wpAny (model prog w) A (execs S env) (gJ prog w P b8 (kI st) (!pW st) F fp s fl d7) NoE s
end
section
variable {prog:Program}{w:World}{P:PS}{K:Frag}{b5:Heap}{T:Tab}{mg mb:Str->Option Value}{n:Nat}{B:Bk}{A:Around}{env:Env}{b8:List bF}{b b':Bool}{F c6 d5:Fz}{fp c7 d4:Nat->List Addr}{s c5 c9:Shared}{σ b9 c8 d7:Sg}{h h':Heap}{X Y:Addr->Prop}{D C:Addr}{tk:Nat}{pl:Pl}
theorem Pre.apL(p:Pre prog w P b5 B A env b8 F σ fp s):∀a,AtL b8 a->Apart F fp s.heap a:=fun a ⟨l,hl,e⟩=>e▸p.fi.apart hl
theorem Pre.toL(p:Pre prog w P b5 B A env b8 F σ fp s)(g:Go prog w P b8 b F fp s c6 c7 c5 b9):GoX prog w P b8 (AtL b8) b F fp s c6 c7 c5 b9:=g.toX p.apL
theorem Pre.new_loc(p:Pre prog w P b5 B A env b8 F σ fp s){a:Addr}(h:s.heap.get? a=none):∀l∈b8,l.addr≠a:=fun l hl q=>by exact X1 ((p.fi.there l hl).some) fun o ho=>dL ho (q▸h)
theorem Kp.refl{W:List Nat}(h:Heap):Kp b8 W h h:=fun _ _ _ _ _ q=>q
theorem Kp.trans{W:List Nat}{d6 i9 h₃:Heap}(x:Kp b8 W d6 i9)(y:Kp b8 W i9 h₃):Kp b8 W d6 h₃:=fun i l z n e q=>y i l z n e (x i l z n e q)
theorem Kp.wide{W W':List Nat}{d6 i9:Heap}(x:Kp b8 W d6 i9)(hw:∀i∈W,i∈W'):Kp b8 W' d6 i9:=fun i l z n e q=>x i l z (fun m=>n (hw i m)) e q
theorem Kp.of{W:List Nat}{d6 i9:Heap}(hk:∀l∈b8,∀o,d6.get? l.addr=some o->i9.get? l.addr=some o):Kp b8 W d6 i9:=fun i l z n e q=>q.keep (hk l (dT e))
theorem Go.kp{W:List Nat}(fi:Fi prog w P s.heap F b8 σ fp)(g:Go prog w P b8 b F fp s c6 c7 c5 b9):Kp b8 W s.heap c5.heap:= .of fun l hl o e=>g.tr.kept _ o e fun _ ⟨j,hj⟩=>(fi.off j _ hj).2 l hl rfl
theorem Pre.kp(p:Pre prog w P b5 B A env b8 F σ fp s){W:List Nat}(g:Go prog w P b8 b F fp s c6 c7 c5 b9):Kp b8 W s.heap c5.heap:=g.kp p.fi
theorem Lw{i:Nat}{l:bF}{x:Value}(hS:nR h l x h')(nd:b8.Nodup)(hl:b8[i]?=some l)(there:∀l∈b8,l.There h):Kp b8 [i] h h':=fun j l' y n e q=>by
 have hne:l'≠l:=fun z=>n (by subst z;exact dJ.mpr ((List.getElem?_inj (hZ.mp e).1 nd).mp (e.trans hl.symm)))
 by_cases ha:l'.addr=l.addr
 ·exact(hS.others l' hne ha (there l' (dT e))).2 y q
 ·exact q.keep fun o e=>hS.but _ o ha e
theorem gJ.after{W W':List Nat}{fl:Flow}{f:PySem.Flow}{s':Shared}(g:GoX prog w P b8 (AtL b8) b F fp s c6 c7 c5 b9)(k:Kp b8 W s.heap c5.heap)(h:gJ prog w P b8 W' b c6 c7 c5 fl d7 f s')(hw:∀i∈W',i∈W):gJ prog w P b8 W b F fp s fl d7 f s':=
 by obtain⟨F',e9,g',k',r⟩:=h;exact⟨F',e9,g.trans g',k.trans (k'.wide hw),r⟩
theorem gJ.up{W:List Nat}{fl:Flow}{f:PySem.Flow}{s':Shared}(h:gJ prog w P b8 W b F fp s fl d7 f s')(hb:b=true->b'=true):gJ prog w P b8 W b' F fp s fl d7 f s':=
 by obtain⟨F',e9,g',k,r⟩:=h;exact⟨F',e9,g'.up hb,k,r⟩
theorem aDl{a:St}{r:List St}:(!uX a)=true->(!pW (a::r))=true:=fV
theorem aDm{a:St}{r:List St}:(!pW r)=true->(!pW (a::r))=true:=kW
theorem Lx:mZ prog w P b5 T n B [] []:=by intro A env b8 F σ fp s fl d7 p ev;refine aU ev fun Q0 Q1=>?_;clear ev;subst Q0;subst Q1;exact wpAny_execs_nil ⟨F,fp,p.toL p.go,.refl _,rfl⟩
theorem Fy{a:St}{r:List St}{S:Stmt}{R:List Stmt}(ha:pB prog w P b5 T n B a S)(hr:mZ prog w P b5 T n B r R):mZ prog w P b5 T n B (a::r) (S::R):=by
 intro A env b8 F σ fp s fl d7 p ev;refine bG ev fun f0 b9 e1 ev=>wpAny_execs_cons (bX (ha A env b8 F σ fp s _ _ p e1) (fun f c5 h1=>?_) fun _ _ x=>x);obtain⟨c6,c7,g1,k1,r1⟩:=h1
 cases f0 with
 |next=>
  obtain rfl:f= .next:=r1
  exact bX (hr A env b8 c6 b9 c7 c5 _ _ (p.nextX g1) ev) (fun f c9 h2=>gJ.after (g1.up aDl) (k1.wide fun i hi=>List.mem_append_left _ hi) (h2.up aDm) fun i hi=>List.mem_append_right _ hi) fun _ _ x=>x
 |ret d=>
  refine aP r1 fun v Q1 rv=>?_;clear r1;subst Q1;refine aU ev fun Q0 Q1=>?_;rename_i y0;clear ev y0;subst Q0;subst Q1;exact⟨c6,c7,g1.up aDl,k1.wide fun i hi=>List.mem_append_left _ hi,v,rfl,rv⟩
theorem Sw{i:Nat}{r:List St}{R:List Stmt}(hr:mZ prog w P b5 T n B r R):mZ prog w P b5 T n B (.sh i::r) R:=by intro A env b8 F σ fp s fl d7 p ev;apply bc;intro Z;refine bG ev fun f0 b9 e1 ev=>bG (aAJ.symm.trans e1) fun v c8 e2 e1=>aU e1 fun Q0 Q1=>?_;rename_i y0;clear e1 y0;subst Q0;subst Q1;refine qH e2 fun c hv e2=>aO e2 fun d hd e=>cK (eC e) fun Q0 Q1=>?_;rename_i y0 y1;clear e2 e y0;subst Q0;subst Q1;refine aP (Go.froze p.hF p.fi hv hd) fun F' g r=>?_;apply Z;clear Z;exact bX (hr A env b8 F' _ _ s _ _ (p.next g) ev) (fun f c9 h2=>gJ.after ((p.toL g).up fun _=>rfl) (p.kp g) (h2.up fun _=>rfl) fun _ hi=>hi) fun _ _ x=>x
theorem Sy{e:Ex}{E:Expr}{pos:Pos}(he:Snd prog w P b5 T B e E):pB prog w P b5 T n B (.ret e) (.Return (some E) pos):=by intro A env b8 F σ fp s fl d7 p ev;refine bE (Ed.symm.trans ev) fun x b9 e1 ev=>aU ev fun Q0 Q1=>?_;rename_i y0;clear ev y0;subst Q0;subst Q1;exact wpAny_Return_some (he.d p e1 fun v c6 c7 c5 g1 r1=>⟨c6,c7,p.toL g1,p.kp g1,v,rfl,r1⟩)
theorem Ly{pos:Pos}:pB prog w P b5 T n B (.ret (.k .none)) (.Return none pos):=by intro A env b8 F σ fp s fl d7 p ev;refine aU (Ed.symm.trans ev) fun Q0 Q1=>?_;clear ev;subst Q0;subst Q1;exact wpAny_Return_none ⟨F,fp,p.toL p.go,.refl _,_,rfl,.none⟩
theorem Ga{x:Mine.D}{v:Value}(r:Rep prog w F v x)(h:Hl x=true):v= .none\/(∃b,v= .bool b)\/∃i t,v= .int i t:=by
 cases x with
 |none=>exact .inl r.inv
 |bool b=>exact .inr (.inl ⟨b,r.inv⟩)
 |int i=>refine X1 r.inv fun t e=>?_;exact .inr (.inr (I2 i t e))
 |_=>cases h
theorem Sz{E:Expr}(h:Ek E=true):∃f xs kw p,E= .Call f xs kw p:=
 Expr.Call.elim (motive_1:=fun E=>∃f xs kw p,E= .Call f xs kw p) E (cX.mp h) fun f xs kw p=>(I4 f xs kw p rfl)
theorem Lz{e:Ex}{E:Expr}{pos:Pos}(hc:Ek E=true)(he:Snd prog w P b5 T B e E):pB prog w P b5 T n B (.expr e) (.Expr E pos):=by
 apply bc;intro Z;refine X4 (Sz hc) fun f xs kw cp Q4=>?_;clear hc;subst Q4;apply Z;clear Z;intro A env b8 F σ fp s fl d7 p ev;apply bc;intro Z;refine bE (yJ.symm.trans ev) fun x b9 e1 ev=>aQ ev fun hf ev=>aU ev fun Q0 Q1=>?_;rename_i y0 y1;clear ev y0 y1;subst Q0;subst Q1;apply Z;clear Z;refine wpAny_Expr (he.d p e1 fun v c6 c7 c5 g1 r1=>?_) (by unfold interactive;rw[p.bl.kind];rfl) rfl;have:gJ prog w P b8 (Ee (.expr e)) (!uX (.expr e)) F fp s .next b9 .next c5:=⟨c6,c7,(p.toL g1).up (fun _=>rfl),p.kp g1,rfl⟩
 rcases Ga r1 hf with rfl|⟨b,rfl⟩|⟨i,t,rfl⟩<;>exact this
theorem Ta{t:Tx}{E:Expr}{a c:List St}{Sa Sc:List Stmt}{pos:Pos}(ht:nO prog w P b5 T B t E)(ha:mZ prog w P b5 T n B a Sa)(hc:mZ prog w P b5 T n B c Sc):pB prog w P b5 T n B (.ite t a c) (.If E Sa Sc pos):=by
 intro A env b8 F σ fp s fl d7 p ev;apply bc;intro Z;refine bG (Og.symm.trans ev) fun z b9 e1 ev=>?_;apply Z;clear Z;refine wpAny_If (ht.t p e1 fun c6 c7 c5 g1=>?_)
 cases z with
 |true=>exact bX (ha A env b8 c6 b9 c7 c5 _ _ (p.next g1) ev) (fun f c9 h2=>gJ.after ((p.toL g1).up fun _=>rfl) (p.kp g1) (h2.up fun _=>rfl) fun i hi=>List.mem_append_left _ hi) fun _ _ x=>x
 |false=>exact bX (hc A env b8 c6 b9 c7 c5 _ _ (p.next g1) ev) (fun f c9 h2=>gJ.after ((p.toL g1).up fun _=>rfl) (p.kp g1) (h2.up fun _=>rfl) fun i hi=>List.mem_append_right _ hi) fun _ _ x=>x
theorem yY{i:Nat}{x:Str}{v:Value}{u:V}{fx:List Addr}{Q:Unit->Shared->Prop}{E:Value->Shared->Prop}(bl:Bl B env b8)(hw:okW B i x=true)(g:GoX prog w P b8 (AtL b8) b c6 c7 c5 F fp s σ)(r:hO prog w P F s.heap v u fx)
  (hf:∀a∈fx,c5.heap.get? a=none/\F a=none/\∀j,a∉fp j) (hl:∀a∈fx,∀l∈b8,l.addr≠a)
  (h:∀h' tk e9,GoX prog w P b8 (AtL b8) b c6 c7 c5 F e9 {s with heap:=h',toks:=tk} (σ.put i u)->(∀c o,(∀l∈b8,l.addr≠c)->s.heap.get? c=some o->h'.get? c=some o)->(∀j a,a∈e9 j->a∈fx\/a∈fp j)->Kp b8 [i] s.heap h'->Q () {s with heap:=h',toks:=tk}):wpAny (model prog w) A (storeName env x v) Q E s:=by
 apply bc;intro Z;refine aP (Ic bl (Qu hw)) fun l hl' ho=>?_;have lm:=dT hl';apply Z;clear Z;refine Bj bl.kind ho (g.fi.there l lm) (Bn bl hw) fun h' tk hS=>h h' tk (fun j=>if j=i then fx else fp j) ?_ (fun c o hc e=>hS.but c o (fun q=>hc l lm q.symm) e) (fun j a ha=>(fS ha).imp (·.2) (·.2)) (Lw hS bl.apart hl' g.fi.there)
 ·exact GoX.store (fx:=fx) g.fz g.fi g.ap bl.apart hl' (aH l lm rfl) hS r (fun a q=>(hf a q).2) hl (fun a q ⟨l2,h2,e2⟩=>hl a q l2 h2 e2) (fun a q=> .inr (hf a q).1) g
theorem Iv{i:Nat}{x:Str}{v:Value}{d:Mine.D}{Q:Unit->Shared->Prop}{E:Value->Shared->Prop}(bl:Bl B env b8)(hw:okW B i x=true)(g:GoX prog w P b8 (AtL b8) b c6 c7 c5 F fp s σ)(r:Rep prog w F v d)
  (h:∀h' tk e9,GoX prog w P b8 (AtL b8) b c6 c7 c5 F e9 {s with heap:=h',toks:=tk} (σ.put i (.d d))->Kp b8 [i] s.heap h'->Q () {s with heap:=h',toks:=tk}):wpAny (model prog w) A (storeName env x v) Q E s:=
 yY (fx:=[]) (u:= .d d) bl hw g ⟨r,rfl⟩ (fun _ q=>by cases q) (fun _ q=>by cases q) fun h' tk e9 g' _ _ k=>h h' tk e9 g' k
theorem Tb(bl:Bl B env b8){E:Value->Shared->Prop}{is:List Nat}:∀{es:List Expr} {vs:List Value} {ds:List Mine.D} {F:Fz} {fp:Nat->List Addr} {s:Shared} {σ:Sg} {Q:Unit->Shared->Prop},nM B is es=true->is.length=ds.length->
  GoX prog w P b8 (AtL b8) b c6 c7 c5 F fp s σ->aM prog w F vs ds->
  (∀h' tk e9,GoX prog w P b8 (AtL b8) b c6 c7 c5 F e9 {s with heap:=h',toks:=tk} ((is.zip ds).foldl (fun s p=>s.put p.1 (.d p.2)) σ)->Kp b8 is s.heap h'->Q () {s with heap:=h',toks:=tk})->
  wpAny (model prog w) A (assignInOrder ((assignEach es env).map (·.2)) vs) Q E s:=by
 induction is with
 |nil=>
  intro es vs ds F fp s σ Q ok hl g r h;obtain rfl:=mU hl.symm;rw[w0 ok,r.inv];exact aY (h s.heap s.toks fp g (.refl _))
 |cons i is ih=>
  intro es vs ds F fp s σ Q ok hl g r h;apply bc;intro Z;refine kM ok fun x q es Q3 h1 h2=>?_;clear ok;subst Q3;apply Z;clear Z
  cases ds with
  |nil=>cases hl
  |cons d ds=>
   apply bc;intro Z;refine cJ r.inv fun v vs r1 r2 Q4=>?_;clear r;subst Q4;apply Z;clear Z;show wpAny _ _ (holding vs (assign (.Name x q) env v) >>= fun _=>assignInOrder ((assignEach es env).map (·.2)) vs) _ _ _;exact aG (jN (wpAny_assign_Name (Iv bl h1 g r1 fun h' tk e9 g' k=>ih h2 (Nat.succ.inj hl) g' r2 fun h'' tk' fp'' g'' k'=>h h'' tk' fp'' g'' ((k.wide fun j hj=>by rw[dJ.mp hj];exact .head _).trans (k'.wide fun j hj=> .tail _ hj)))))
theorem Iw{t:Tgt}{E:Expr}{v:Value}{d:Mine.D}{Q:Unit->Shared->Prop}{E':Value->Shared->Prop}(hh:A.handled=none)(bl:Bl B env b8)(ok:mX B t E=true)(g:GoX prog w P b8 (AtL b8) b c6 c7 c5 F fp s σ)
  (r:Rep prog w F v d) (e:iS σ t d=some d7) (h:∀h' tk e9,GoX prog w P b8 (AtL b8) b c6 c7 c5 F e9 {s with heap:=h',toks:=tk} d7->Kp b8 (gG t) s.heap h'->Q () {s with heap:=h',toks:=tk}):
  wpAny (model prog w) A (assign E env v) Q E' s:=by
 cases t with
 |n i=>
  apply bc;intro Z;refine v3k ok fun x q Q2 ok=>?_;rename_i y0;clear y0;subst Q2;obtain rfl:=aK e;apply Z;clear Z;exact wpAny_assign_Name (Iv bl ok g r h)
 |t is=>
  apply bc;intro Z;refine v7k ok fun es k pos Q3 ok=>?_;rename_i y0;clear y0;subst Q3;refine qG e fun ds Q1 e=>?_;subst Q1;refine aQ e fun hl e=>?_;rename_i y0 y1;clear y0 y1;obtain rfl:=aK e;obtain⟨a,o,ys,n,rfl,q1,q2,q3,q4⟩:=r.inv;refine cZ (jE (env:=env) (show nM B is es=true from ok)) fun n1 n2 n3=>?_;apply Z;clear Z;refine wpAny_assign_Tuple hh (dB o (g.fz _ _ q1) q2 n q3) ((dM q4).trans (hl.symm.trans (n1.trans n2.symm))).symm n3 fun h' hx=>?_;have hk:∀a o,s.heap.get? a=some o->h'.get? a=some o:=fun a o e=>hx a o (oO e) e;exact Tb bl ok hl (g.trans ((Go.keep (b:=b) (tk:=s.toks) g.fz g.fi hk).toX g.ap)) q4 fun h'' tk' fp'' g'' k''=>h h'' tk' fp'' g'' ((Kp.of fun l hl o e=>hk _ o e).trans k'')
theorem xB.frz(p:Pre prog w P b5 B A env b8 F σ fp s){c:Mine.C}{d:Mine.D}{x:Value}(h1:xB prog w P b8 b F fp s d7 (.c c) x C c5)(e2:mI c=some d):xB prog w P b8 b F fp s d7 (.d d) x C c5:=by
 apply bc;intro Z;obtain⟨c6,c7,fx,g1,⟨a,rfl,hs,r,rfl⟩,n,c1,c2,c3,c4,hm⟩:=h1;refine cZ (n a (.head _)) fun n1 n2 n3=>aP (r.toData hs n2 e2) fun o ho r'=>?_;apply Z;clear Z;exact⟨c6.add a o,c7,[],⟨⟨g1.tr.mono.trans (c6.add_le n2),g1.tr.kept,g1.tr.alive,Fz.add_fz ho g1.tr.fz,fun b hb=>(Fz.add_or hb).elim (g1.tr.fresh b) fun q=> .inr (.inr (q▸n1)),g1.tr.rest⟩,
  ⟨g1.fi.len,g1.fi.there,fun i v e=>(by
   apply bc;intro Z;refine cJ (g1.fi.sl i v e) fun l y h1 h2 h3=>?_;apply Z;clear Z;exact(dW l y h1 h2 (h3.mono (c6.add_le n2) fun _ _ _ e=>e))),g1.fi.emp,g1.fi.dj,
   fun i b hb=>⟨Fz.add_none (g1.fi.off i b hb).1 fun q=>n3 i (q▸hb),(g1.fi.off i b hb).2⟩,
   fun l hl=>Fz.add_none (g1.fi.offL l hl) fun q=>by exact X1 ((p.fi.there l hl).some) fun o' ho'=>dL ho' (q▸n1)⟩,g1.sub⟩,⟨r',rfl⟩,(fun _ q=>nomatch q),Fz.add_none c1 (fun q=>c3 (q▸ .head _)),c2,(fun q=>nomatch q),c4,hm⟩
theorem Tc{a:Ex}{E:Expr}(ha:uK prog w P b5 T B a E):uK prog w P b5 T B (.frz a) E:=by intro l8 gens sc pos hE A env b8 F σ fp s v d7 p ev use Q hQ;apply bc;intro Z;refine yC ev fun c b9 e1 ev=>aO ev fun d e2 e=>cK (eC e) fun Q0 Q1=>?_;rename_i y0;clear ev e y0;subst Q0;subst Q1;apply Z;clear Z;exact ha l8 gens sc pos hE A env b8 F σ fp s _ _ p e1 use Q fun s₅ x C hp=>hQ s₅ x C (hp.frz p e2)
noncomputable def isF(e:Ex):Bool:=e.ctorIdx==25
theorem Ix{e:Ex}(h:isF e=true):∃a,e= .frz a:=Ex.frz.elim (motive_1:=fun e=>∃a,e= .frz a) e (cX.mp h) fun a=>⟨a,rfl⟩
noncomputable def isU(e:Ex):Bool:=e.ctorIdx==23||e.ctorIdx==24||e.ctorIdx==25
theorem aDn{e:Ex}{a:Expr}{b:List Comprehension}{c:Scope}{d:Pos}(ok:okE P B e (.ListComp a b c d)=true):isU e=true:=by cases e<;>first|rfl|exact ok
theorem Zf{e:Ex}{a:Expr}{b:List Comprehension}{c:Scope}{d:Pos}(ok:okE P B e (.SetComp a b c d)=true):isF e=true:=by cases e<;>first|rfl|exact ok
theorem Zg{e:Ex}{a f:Expr}{b:List Comprehension}{c:Scope}{d:Pos}(ok:okE P B e (.DictComp a f b c d)=true):isF e=true:=by cases e<;>first|rfl|exact ok
noncomputable def Td:Ex->Nat
 | .frz a=>Td a+1
 |_=>0
theorem Cg{a:Ex}:Td a<Td (Ex.frz a):=Nat.lt_succ_self _
theorem Te{E:Expr}(h:∀e,okE P B e E=true->isF e=true)(k:Nat):∀e,Td e<k->okE P B e E=true->False:=by
 induction k with
 |zero=>intro e hk;exact absurd hk (Nat.not_lt_zero _)
 |succ k ih=>
  intro e hk ok;refine X1 (Ix (h e ok)) fun a Q1=>?_;subst Q1;exact ih a (nE Cg (tR hk)) ok
theorem Zh(lt:Nat)(kn:Known prog w P K b5 T mg mb lt){n:Nat}{l8:Ex}{t:Tgt}{it:It}{ifs:List Tx}{E:Expr}(hl:B.lt=lt)(ok:okE P B (.comp n l8 t it ifs) E=true):uK prog w P b5 T B (.comp n l8 t it ifs) E:=by apply bc;intro Z;obtain⟨x,y,iter,cs,z,sc,p,rfl,ok⟩:=v16 ok;refine aS ok fun hz ok=>?_;obtain rfl:=cX.mp hz;refine aP (aCS ok) fun ts hts ok=>aS ok fun ok o7=>aS ok fun ok o6=>lZ ok fun o1 o2 o3 o4 o5=>?_;apply Z;clear Z;exact xC (hl▸kn) (cX.mp o1) (mO o2) o3 (gN o4) (tH lt kn it B _ hl o4) (yX lt kn ifs _ _ hl o5) (eF lt kn l8 _ _ hl o6) (oP o3 hts fun x hx=>hx)
theorem Tf(lt:Nat)(kn:Known prog w P K b5 T mg mb lt){n:Nat}{l8:Ex}{t t2:Tgt}{it it2:It}{ifs m8:List Tx}{E:Expr}(hl:B.lt=lt)(ok:okE P B (.comp2 n l8 t it ifs t2 it2 m8) E=true):uK prog w P b5 T B (.comp2 n l8 t it ifs t2 it2 m8) E:=by
 apply bc;intro Z;obtain⟨x,y,iter,cs,z,y2,m9,cs2,z2,sc,p,rfl,ok⟩:=v17 ok;refine gE ok fun hz hz2 ok=>?_;obtain rfl:=cX.mp hz;obtain rfl:=cX.mp hz2;refine cJ (aCT ok) fun t1 t2' h1 h2 ok=>aS ok fun ok o10=>aS ok fun ok o9=>aS ok fun ok o8=>aS ok fun ok o7=>aS ok fun ok o6=>lZ ok fun o1 o2 o3 o4 o5=>?_;apply Z;clear Z;exact uM (hl▸kn) (cX.mp o1) (mO o2) o3 (gN o4) o6 (gN o7) (tH lt kn it B _ hl o4) (yX lt kn ifs _ _ hl o5) (tH lt kn it2 _ _ hl o7) (yX lt kn m8 _ _ hl o8) (eF lt kn l8 _ _ hl o9)
    (oP o3 h1 fun x hx=>dF.mpr (.inl hx)) (oP o6 h2 fun x hx=>dF.mpr (.inr hx))
theorem Zi(lt:Nat)(kn:Known prog w P K b5 T mg mb lt)(k:Nat):∀(e:Ex),Td e<k->∀(B:Bk) (E:Expr),B.lt=lt->okE P B e E=true->uK prog w P b5 T B e E:=by
 induction k with
 |zero=>intro e hk;exact absurd hk (Nat.not_lt_zero _)
 |succ k ih=>
  intro e hk B E hl ok l8 gens sc pos hE;subst hE;rcases Bool.or_eq_true_iff.mp (aDn ok) with h|h
  ·rcases Bool.or_eq_true_iff.mp h with h|h
   ·apply bc;intro Z;refine X5 (Ex.comp.elim (motive_1:=fun e=>∃n el t it ifs,e= .comp n el t it ifs) e (cX.mp h) fun n el t it ifs=>(I5 n el t it ifs rfl)) fun n el t it ifs Q5=>?_;rename_i y0;clear y0;subst Q5;apply Z;clear Z;exact Zh lt kn hl ok l8 gens sc pos rfl
   ·apply bc;intro Z;obtain⟨n,el,t,it,ifs,t2,it2,m8,rfl⟩:=Ex.comp2.elim (motive_1:=fun e=>∃n el t it ifs t2 it2 m8,e= .comp2 n el t it ifs t2 it2 m8) e (cX.mp h) fun n el t it ifs t2 it2 m8=>⟨n,el,t,it,ifs,t2,it2,m8,rfl⟩;apply Z;clear Z;exact Tf lt kn hl ok l8 gens sc pos rfl
  ·apply bc;intro Z;refine X1 (Ix h) fun a Q1=>?_;clear h;subst Q1;apply Z;clear Z;exact Tc (ih a (nE Cg (tR hk)) B _ hl ok) l8 gens sc pos rfl
theorem Ma{e:Ex}{E:Expr}(ok:okE P B e E=true):(∀a b c d,E≠ .SetComp a b c d)/\∀a b c d f,E≠ .DictComp a b c d f:=
 ⟨fun a b c d q=>Te (fun e h=>Zf h) _ e (Nat.lt_succ_self _) (q▸ok),fun a b c d f q=>Te (fun e h=>Zg h) _ e (Nat.lt_succ_self _) (q▸ok)⟩
theorem aBJ(lt:Nat)(kn:Known prog w P K b5 T mg mb lt)(e:Ex)(B:Bk)(E:Expr)(hl:B.lt=lt)(ok:okE P B e E=true):uK prog w P b5 T B e E:=Zi lt kn _ e (Nat.lt_succ_self _) B E hl ok
theorem Tg{E:Expr}{x:Str}{px:Pos}{ln:Nat}(h8:E.ctorIdx≠8)(h9:E.ctorIdx≠9)(h10:E.ctorIdx≠10):swapsWith E (some (.Name x px)) ln env=pure false:=by cases E<;>first|rfl|exact absurd rfl h8|exact absurd rfl h9|exact absurd rfl h10
theorem Ch{e:Ex}{E:Expr}(ok:okE P B e E=true)(x:Str)(px:Pos)(ln:Nat):swapsWith E (some (.Name x px)) ln env=pure false\/(swapsWith E (some (.Name x px)) ln env=pure true/\∃l8 gens sc pos,E= .ListComp l8 gens sc pos):=by
 by_cases h8:E.ctorIdx=8
 ·refine X4 (Expr.ListComp.elim (motive_1:=fun E=>∃l8 gens sc pos,E= .ListComp l8 gens sc pos) E h8 fun l8 gens sc pos=>(I4 l8 gens sc pos rfl)) fun l8 gens sc pos Q4=>?_;subst Q4;obtain⟨c,hc⟩:∃c:Bool,swapsWith (.ListComp l8 gens sc pos) (some (.Name x px)) ln env=pure c:=⟨_,rfl⟩
  cases c
  ·exact .inl hc
  ·exact .inr ⟨hc,_,_,_,_,rfl⟩
 ·exact cK (Ma ok) fun h1 h2=>.inl (Tg h8 (fun h=>Expr.SetComp.elim (motive_1:=fun E=>(∀a b c d,E≠ .SetComp a b c d)->False) E h (fun a b c d h=>h a b c d rfl) h1) fun h=>Expr.DictComp.elim (motive_1:=fun E=>(∀a b c d f,E≠ .DictComp a b c d f)->False) E h (fun a b c d f h=>h a b c d f rfl) h2)
theorem Th{i:Nat}{e:Ex}{x:Str}{px pos:Pos}{E:Expr}(hw:okW B i x=true)(ok:okE P B e E=true)(he:Snd prog w P b5 T B e E)(hu:uK prog w P b5 T B e E):pB prog w P b5 T n B (.asg i e) (.Assign [.Name x px] E pos):=by
 intro A env b8 F σ fp s fl d7 p ev;apply bc;intro Z;refine bG (Od.symm.trans ev) fun v b9 e1 ev=>aU ev fun Q0 Q1=>?_;rename_i y0;clear ev y0;subst Q0;subst Q1;apply Z;clear Z;rcases Ch (env:=env) ok x px pos.line with hs|⟨hs,l8,gens,sc,cpos,rfl⟩
 ·refine wpAny_Assign_Name (he.run p e1 fun u c5 h1=>?_) hs;apply bc;intro Z;obtain⟨c6,c7,fx,g1,r1,n1⟩:=h1;apply Z;clear Z;exact yY p.bl hw ((p.toL g1).up fun _=>rfl) r1 n1 (fun a ha=>p.new_loc (n1 a ha).1) fun h' tk e9 g' _ _ k=>⟨c6,e9,g',(p.kp g1).trans k,rfl⟩
 ·rw[exec_Assign_Name_used _ _ _ _ hs];refine aG (wpAny_standAt (aG ?_));show wpAny _ A (do let _<-comprehension (.ListComp l8 gens sc cpos) sc env (firstIterPos gens cpos) (newList []) (firstAsync gens) (firstIter gens env) (some (assign (.Name x px) env))) _ _ s;refine aG (bX (hu l8 gens sc cpos rfl A env b8 F σ fp s _ _ p e1 (some (assign (.Name x px) env)) (fun _ s'=>gJ prog w P b8 [i] (!uX (.asg i e)) F fp s .next (b9.put i v) .next s') fun s₅ u C hp=>?_) (fun _ s' hq=>aY (aY hq)) fun _ _ e=>e);apply bc;intro Z;obtain⟨c6,c7,fx,g1,r1,n1,c1,c2,c3,c4,m,hm⟩:=hp;have lC:=p.new_loc c4;apply Z;clear Z;refine wpAny_assign_Name (yY p.bl hw ((p.toL g1).up fun _=>rfl) r1 n1 (fun a ha=>p.new_loc (n1 a ha).1) fun h' tk e9 g' hk hf kp=>?_);apply bc;intro Z;refine sX hm fun o es ep ho hr=>?_;apply Z;clear Z;refine(aH m (nA o es ep (hk C o lC ho) hr) (fun h'' hs=>⟨c6,e9,g'.letGo c4 c1 (fun j hj=>?_) (fun⟨l,hl,q⟩=>lC l hl q) lC fun a o hne e=>(hs.2 a hne).trans e,((p.kp g1).trans kp).trans (.of fun l hl o e=>(hs.2 _ (lC l hl)).trans e),rfl⟩));exact(hf j C hj).elim c3 (c2 j)
theorem Mb{is:List Nat}{e:Ex}{ts:List Expr}{kx:_}{px pos:Pos}{E:Expr}(hw:nM B is ts=true)(ht:An E=false)(he:Snd prog w P b5 T B e E):pB prog w P b5 T n B (.asgT is e) (.Assign [.Tuple ts kx px] E pos):=by intro A env b8 F σ fp s fl d7 p ev;apply bc;intro Z;refine bE (Xa.symm.trans ev) fun d b9 e1 ev=>aO ev fun c8 e2 e=>cK (eC e) fun Q0 Q1=>?_;rename_i y0;clear ev e y0;subst Q0;subst Q1;apply Z;clear Z;exact Assign_Tuple (he.d p e1 fun u c6 c7 c5 g1 r1=>Iw (t:= .t is) p.good.handled p.bl hw ((p.toL g1).up fun _=>rfl) r1 e2 fun h' tk e9 g' k=>⟨c6,e9,g',(p.kp g1).trans k,rfl⟩) (by cases E<;>rfl) (by cases E<;>first|rfl|exact(eX ht.symm).elim)
theorem Ti(kn:Known prog w P K b5 T mg mb B.lt){e:Ex}{X Y:Expr}{ap cp pos:Pos}(hp:iC P B pl X=true)(hpu:pureE e=true)(hpl:Expr.plain Y=true)(hl:(ap.endLine==cp.line)=true)(he:Snd prog w P b5 T B e Y):
  pB prog w P b5 T n B (.app pl e) (.Expr (.Call (.Attribute X ("append":Str) ap) [Y] [] cp) pos):=by
 intro A env b8 F σ fp s fl d7 p ev;apply bc;intro Z;refine jX (Oe.symm.trans ev) fun xs0 e1 ev=>bE ev fun x b9 e2 ev=>jX ev fun xs e3 ev=>aQ ev fun hsz ev=>aO ev fun c8 e4 e=>cK (eC e) fun Q0 Q1=>?_;rename_i y0 y1 y2 y3;clear ev e y0 y1 y2 y3;subst Q0;subst Q1;apply Z;clear Z;refine wpAny_Expr (lF kn p hp hl ⟨_,e1⟩ (by rw[bJ hpl];rfl) PySem.F.slot_list_append PySem.F.type_list_append fun a tk st=>?_) (by unfold interactive;rw[p.bl.kind];rfl) rfl;rw[bJ hpl];show wpAny (model prog w) A (callWith cp (.builtin "list.append") [.ref a] [(false,eval Y env)] []) _ _ _;refine PySem.P.append_list (he.d p.tick e2 fun u c6 c7 c5 g1 r1=>?_);apply bc;intro Z;rw[hpu] at g1;obtain⟨a',ea,ha,⟨o,ho,ys,k,rfl,r⟩,hm⟩:=st.rep g1 e3;clear ha hm;obtain rfl:=sB ea;rw[<-dM r] at hsz;apply Z;clear Z;refine(dW ys k (gF hsz) ho ?_);have gw:=st.write (tk:=c5.toks) g1 e3 e4 (iE _) ⟨_,IsL.update (l:=a) (items:=ys) (n:=k) ho (fun xs=>xs.push u),_,_,rfl,by rw[Array.toList_push];exact r.append (.one r1)⟩;exact⟨c6,c7,p.toL gw.tickL,p.kp gw.tickL,rfl⟩
theorem Tj(kn:Known prog w P K b5 T mg mb B.lt){X:Expr}{ap cp pos:Pos}(hp:iC P B pl X=true)(hl:(ap.endLine==cp.line)=true):
  pB prog w P b5 T n B (.rev pl) (.Expr (.Call (.Attribute X ("reverse":Str) ap) [] [] cp) pos):=by
 intro A env b8 F σ fp s fl d7 p ev;apply bc;intro Z;refine jX (Of.symm.trans ev) fun xs e1 ev=>aQ ev fun hsz ev=>aO ev fun c8 e4 e=>cK (eC e) fun Q0 Q1=>?_;rename_i y0 y1;clear ev e y0 y1;subst Q0;subst Q1;apply Z;clear Z;refine wpAny_Expr (lF kn p hp hl ⟨_,e1⟩ (by rfl) PySem.F.slot_list_reverse PySem.F.type_list_reverse fun a tk st=>?_) (by unfold interactive;rw[p.bl.kind];rfl) rfl;apply bc;intro Z;have g:Go prog w P b8 false F fp {s with toks:=tk} F fp {s with toks:=tk} σ:=Go.refl (s:={s with toks:=tk}) false p.hF p.fi;obtain⟨a',ea,ha,⟨o,ho,ys,k,rfl,r⟩,hm⟩:=st.rep g e1;clear ha hm;obtain rfl:=sB ea;rw[<-dM r] at hsz;apply Z;clear Z;refine PySem.P.reverse_list ho ?_ (hsz:=gF hsz);have gw:=st.write (tk:=tk) g e1 e4 (iE _) ⟨_,IsL.update (l:=a) (items:=ys) (n:=k) ho (fun xs=>xs.reverse),_,_,rfl,by rw[Array.toList_reverse];exact r.reverse⟩;exact⟨F,fp,p.toL gw.tickL,p.kp gw.tickL,rfl⟩
theorem WalksS.shift{I:Addr}{fw wr:List Addr}{G:Array GenState->Array GenState->Prop}{N m:Nat}{Pv:Nat->Value->Prop}{St:Nat->Shared->Prop}(W:WalksS prog w A I fw wr G N Pv St)(acc0:Array Value)(hm:acc0.size=m):
  WalksS prog w A I fw wr G (m+N) (fun i v=>if i<m then acc0[i]?=some v else Pv (i-m) v) (fun i s=>m<=i/\St (i-m) s) where
 sub:=W.sub
 grefl:=W.grefl
 gtrans:=W.gtrans
 frame:=fun i s h' tk ⟨h1,h2⟩ ht hk=>⟨h1,W.frame _ s h' tk h2 ht hk⟩
 item:=fun i s Q E hi ⟨h1,h2⟩ hQ=>W.item (i-m) s Q E (Nat.sub_lt_left_of_lt_add h1 hi) h2 fun v s' hp st mv=>hQ v s' (by rw[aR (Nat.not_lt.mpr ‹_›)];exact hp) ⟨Nat.le_succ_of_le ‹_›,by rw[show i+1-m=i-m+1 by lia];exact st⟩ mv
 done:=fun s Q E ⟨h1,h2⟩ hQ=>W.done s Q E (by rw[Nat.add_sub_cancel_left] at h2;exact h2) hQ
 self:=fun i s Q E ⟨h1,h2⟩ hQ=>W.self _ s Q E h2 hQ
theorem Ci{N m:Nat}{Pv:Nat->Value->Prop}{acc0 acc:Array Value}(hm:acc0.size=m)(h:ItemsOf (fun i v=>if i<m then acc0[i]?=some v else Pv (i-m) v) acc (m+N)):
  ∃new,acc.toList=acc0.toList++new/\new.length=N/\∀j v,new[j]?=some v->Pv j v:=by
 refine(cY (acc.toList.drop m) ?_ (by rw[List.length_drop,Array.length_toList,h.1];exact Nat.add_sub_cancel_left ..) (fun j v e=>?_))
 ·have e:acc.toList.take m=acc0.toList:=by
   refine List.ext_getElem? fun i=>?_;rw[List.getElem?_take]
   split
   ·rename_i hi;have hi2:i<acc.size:=by rw[h.1];lia
    have:=h.2 i acc[i] (Array.getElem?_eq_getElem hi2);simp only[if_pos hi] at this;rw[Array.getElem?_toList,Array.getElem?_toList,this,Array.getElem?_eq_getElem hi2]
   ·rename_i hi;rw[List.getElem?_eq_none (by rw[Array.length_toList,hm];exact Nat.le_of_not_lt ‹_›)]
  rw[<-e,List.take_append_drop]
 ·rw[List.getElem?_drop,Array.getElem?_toList] at e;have:=h.2 (m+j) v e;simp only[if_neg (Nat.not_lt.mpr (Nat.le_add_right m j)),Nat.add_sub_cancel_left] at this;exact this
theorem yZ{R:Result->Shared->Prop}{r:Addr}{a c:Int}{t u v:Tok}{N:Nat}(hh:A.handled=none)(hr:IsRange s.heap r a c 1 t u v)(hsmall:Builtin.Range.small a c 1=true)
  (hn:Builtin.Range.rangeSize a c 1=N) (S:Addr) (res:Value) (acc0:Array Value) (hlen:acc0.size+N<=2^24-10) (c₀:Nat) (hS:s.heap.get? S=some {cls:= .type "list",dict:=none,data:= .seq acc0 c₀,slots:= #[]})
  (hR:∀h' tk acc' c' new,(∀b o,b≠S->s.heap.get? b=some o->h'.get? b=some o)->h'.get? S=some {cls:= .type "list",dict:=none,data:= .seq acc' c',slots:= #[]}->
   acc'.toList=acc0.toList++new->new.length=N->(∀(j:Nat) (v:Value),new[j]?=some v->∃t,v=Value.int (a+(j:Int)*1) t)->R (.ok (.ret res)) {s with heap:=h',toks:=tk}):
  wpAny (model prog w) A.in1 (Builtin.List.listExtendWith (.ref S) (.ref r) res)
   (fun fin s'=>match fin with| .done f=>R (.ok f) s'| .again c'=>c'.quiet=true/\codeAny (model prog w) A c' R s') (fun e s'=>R (.error e) s') s:=by
 have hSr:S≠r:=fun e=>by rw[e,hr] at hS;simp at hS
 have hSlt:S<s.heap.objs.size:=eN hS;have hSI:S≠s.heap.objs.size:=Nat.ne_of_lt hSlt;have hSf:S∉[s.heap.objs.size]:=fun hm=>hSI (dJ.mp hm);have W:=WalksS.shift (Walks.range (prog:=prog) (w:=w) (A:=A.in1) hh s.heap.objs.size a 1 N).toS acc0 rfl;have key:∀(h:Heap) (c₁ tk:Nat),IsRangeIter h s.heap.objs.size (a+((0:Nat):Int)*1) ((N:Int)-((0:Nat):Int)) 1->(∀b o,b≠S->s.heap.get? b=some o->h.get? b=some o)->
   h.get? S=some {cls:= .type "list",dict:=none,data:= .seq acc0 c₁,slots:= #[]}->codeAny (model prog w) A (.builtin "list.extend.loop" ⟨[.ref S,.ref s.heap.objs.size,res],[]⟩) R {s with heap:=h,toks:=tk}:=by
  intro h c₁ tk hit hk hS₁;refine codeAny_extend_loopS W (by rw[fR];lia) S hSf res N acc0.size _ acc0 c₁ (Nat.add_sub_cancel_left ..) (Nat.le_add_right _ _) ⟨eQ _,by rw[Nat.sub_self];exact hit⟩ hS₁ ⟨rfl,fun j v e=>?_⟩ fun s' acc' c' hm hS' hacc=>?_
  ·have:=(Array.getElem?_eq_some_iff.mp e).1;show(if j<acc0.size then acc0[j]?=some v else _);rw[aJ this];exact e
  ·rw[Moved.eq_with hm];apply bc;intro Z;refine eR (Ci (Pv:=fun i v=>∃t,v=Value.int (a+(i:Int)*1) t) (acc0:=acc0) rfl hacc) fun new n1 n2 n3=>?_;apply Z;clear Z;refine hR s'.heap s'.toks acc' c' new (fun b o hb e=>hm.heap b o (fun hmem=>?_) (hk b o hb e)) hS' n1 n2 n3;rcases iA.mp hmem with e'|hmem
   ·exact hb e'
   ·exact absurd (eN e) (by rw[dJ.mp hmem];exact jL _)
 unfold Builtin.List.listExtendWith;refine aG (wpAny_typeOf (T:="range") (aH _ hr rfl) ?_);have h1:Builtin.List.listSameRef (.ref S) (.ref r)=false:=by simp[Builtin.List.listSameRef,hSr]
 have h2:(Value.type "range"==Value.type "list")=false:=by decide
 have h3:(Value.type "range"==Value.type "tuple")=false:=by decide
 rw[h1,h2,h3];refine aG (wpAny_pyIter_range hr hsmall ?_);refine aG (jN (wpAny_hint_range (n:=N) (bM _ hr) hn (by lia) ?_));have hit₁:IsRangeIter (s.heap.push {cls:= .type "range_iterator",data:= .fields #[rawInt a,rawInt (Builtin.Range.rangeSize a c 1),rawInt 1]}) s.heap.objs.size (a+((0:Nat):Int)*1) ((N:Int)-((0:Nat):Int)) 1:=by show IsRangeIter _ _ _ _ _;rw[hn];simpa using dQ _ rfl
 have hS₁:=bM {cls:= .type "range_iterator",data:= .fields #[rawInt a,rawInt (Builtin.Range.rangeSize a c 1),rawInt 1]} hS;refine wpAny_ite_split (fun _=>?_) (fun _=>aY ⟨plainId_quiet F.plain_extend_loop _,key _ c₀ _ hit₁ (fun b o _ e=>bM _ e) hS₁⟩);refine aG (wpAny_rule ?_);refine aG ?_;show wpAny _ _ (updateSeq S (·.push .none) >>= fun _=>updateSeq S (·.pop)) _ _ _;refine aG (wpAny_updateSeq hS₁ rfl ?_ (hz:=by rw[fR];lia) (_hz':=by rw[Array.size_push,fR];lia));have hS₂:=sC (Obj.mapSeq (·.push Value.none)) hS₁ rfl;refine wpAny_updateSeq hS₂ rfl ?_ (hz:=by rw[Array.size_push,fR];lia) (_hz':=by rw[Array.pop_push,fR];lia);have hS₃:=sC (Obj.mapSeq (·.pop)) hS₂ rfl;refine aY ⟨plainId_quiet F.plain_extend_loop _,key _ _ _ ?_ (fun b o hb e=>?_) (by rw[hS₃];simp only[Obj.mapSeq,Array.pop_push];rfl)⟩
 ·exact(pC _ _ hSI).trans ((pC _ _ hSI).trans hit₁)
 ·exact(pC _ _ (Ne.symm hb)).trans ((pC _ _ (Ne.symm hb)).trans (bM _ e))
theorem aM.of_get{ds:List Mine.D}:∀{vs:List Value},vs.length=ds.length->(∀(j:Nat) (v:Value),vs[j]?=some v->∃d,ds[j]?=some d/\Rep prog w F v d)->aM prog w F vs ds:=by
 induction ds with
 |nil=>intro vs h _;rw[mU h];exact .nil
 |cons d ds ih=>
  intro vs h k
  cases vs with
  |nil=>cases h
  |cons v vs=>
   refine aP (k 0 v rfl) fun d' e r=>?_;obtain rfl:=aK e;exact .cons r (ih (Nat.succ.inj h) fun j u e=>k (j+1) u e)
inductive aDo(x y:Int)(t t' t'':Tok)(a r:Addr)(ys:Array Value)(k:Nat)(A':Around)(R:Result->Shared->Prop)(s':Shared):Prop
 |mk:A'.handled=none->IsRange s'.heap r x y 1 t t' t''->s'.heap.get? a=some {cls:= .type "list",dict:=none,data:= .seq ys k,slots:= #[]}->
   (∀h' tk acc' c' (new:List Value),(∀b o,b≠a->s'.heap.get? b=some o->h'.get? b=some o)->h'.get? a=some {cls:= .type "list",dict:=none,data:= .seq acc' c',slots:= #[]}->
   acc'.toList=ys.toList++new->new.length=(y-x).toNat->(∀(j:Nat) (v:Value),new[j]?=some v->∃t,v=Value.int (x+(j:Int)*1) t)->R (.ok (.ret .none)) {s' with heap:=h',toks:=tk})->aDo x y t t' t'' a r ys k A' R s'
theorem Mc(kn:Known prog w P K b5 T mg mb B.lt){ea eb:Ex}{X Y U V:Expr}{ap cp pos:Pos}(hp:iC P B pl X=true)(hl:(ap.endLine==cp.line)=true)(hY:pA B "range" Y=some (U,V))(pa:pureE ea=true)(pb:pureE eb=true)
  (ha:Snd prog w P b5 T B ea U) (hb:Snd prog w P b5 T B eb V):pB prog w P b5 T n B (.extR pl ea eb) (.Expr (.Call (.Attribute X ("extend":Str) ap) [Y] [] cp) pos):=by
 intro A env b8 F σ fp s fl d7 p ev;apply bc;intro Z;refine jX (Xb.symm.trans ev) fun xs0 e1 ev=>eM ev fun x b9 e2 ev=>eM ev fun y c8 e3 ev=>jX ev fun xs e4 ev=>aQ ev fun Q0 ev=>?_;obtain⟨hsz,hx,hy⟩:=Q0;refine aO ev fun g6 e5 e=>cK (eC e) fun Q0 Q1=>?_;rename_i y0 y1 y2 y3 y4;clear ev y0 y1 y2 y3 y4;subst Q0;subst Q1;apply Z;clear Z;have hpl:Expr.plain Y=true:=by refine fG (uG hY) fun _ _ Q2 _=>?_;subst Q2;rfl
 refine wpAny_Expr (lF kn p hp hl ⟨_,e1⟩ (by rw[bJ hpl];rfl) PySem.F.slot_list_extend PySem.F.type_list_extend fun a tk st=>?_) (by unfold interactive;rw[p.bl.kind];rfl) rfl;rw[bJ hpl];show wpAny (model prog w) A (callWith cp (.builtin "list.extend") [.ref a] [(false,eval Y env)] []) _ _ _;refine method1_meetsIn PySem.F.slot_list_extend PySem.F.entry_list_extend ?_;refine Hw kn.gl p.tick hY (kn.free rfl) tC (by decide) (.type _) (ha.i p.tick e2 fun t c6 c7 c5 g1=>hb.i (p.tick.next g1) e3 fun t' d5 d4 c9 g2=>?_);rw[pa] at g1;rw[pb] at g2;refine call_range_2 ?_;apply bc;intro Z;have g:=(g1.trans g2).more (tk:=c9.toks+1) (h':=c9.heap.push {cls:= .type "range",data:= .fields #[.int x t,.int y t',.int 1 c9.toks]}) fun _ _ e=>bM _ e;obtain⟨a',ea,ha',⟨o,ho,ys,k,rfl,r⟩,hm⟩:=st.rep g e4;clear ha' hm;obtain rfl:=sB ea;have ln:=dM r;have hsz':Builtin.Range.rangeSize x y 1=(((y-x).toNat:Nat):Int):=by rw[rangeSize_one];split<;>lia
 apply Z;clear Z;refine(zX (aH _ ho rfl) (PySem.F.args_list_extend_2 _ _) (aDo x y t t' c9.toks a c9.heap.objs.size ys k) (fun A' R s' ⟨k1,k2,k4,k5⟩=>?_) ?_)
 ·show wpAny _ A'.in1 (Builtin.List.listExtendWith (.ref a) (.ref c9.heap.objs.size) .none) _ _ _;exact yZ (s:=s') k1 k2 (small_one (by lia) (by lia) (by lia) (by lia)) hsz' a .none ys (by rw[ln];lia) k k4 k5
 ·refine⟨p.good.handled,IsRange.new _ _ _ _ _ _ _,ho,fun h' tk' acc' c' new hk hS n1 n2 n3=>?_⟩;have hnew:aM prog w d5 new (fA x y):=by
   refine aM.of_get (by rw[n2,fA,bT,gQ]) fun j v hj=>?_;apply bc;intro Z;refine X1 (n3 j v hj) fun tt Q1=>?_;subst Q1;apply Z;clear Z;have hj':j<(y-x).toNat:=by rw[<-n2];exact(hZ.mp hj).1
   exact(aH _ (sI hj') (by rw[Int.mul_one];exact .int _ _))
  have gw:=st.write (tk:=tk') g e4 e5 hk ⟨_,hS,_,_,rfl,by rw[n1];exact r.append hnew⟩;exact⟨d5,d4,p.toL gw.tickL,p.kp gw.tickL,rfl⟩
variable {l4:Fz}{l5:Nat->List Addr}{l6:Shared}
theorem Tk{cl y dd:Addr}{es:List DictEntry}{m:Nat}{name:Str}{v:Value}{Q:Unit->Shared->Prop}{E:Value->Shared->Prop}(X:K.In s.heap)(hy:s.heap.get? y=some (instObj cl dd))(hd:s.heap.get? dd=some (dictOf es m))
  (hs:findIn K (.ref cl) "__setattr__"=some (some (.builtin "object.__setattr__"))) (hp:plainOver K cl=true) (ht:takerIn K cl name=some none) (hh:hasDictIn K cl=true)
  (hl:(getL name es).isSome=true) (hz:(putL name (PyData.keyHash w.params name) (.str name (s.toks+1)) v es).length<=1000)
  (h:Q () {s with heap:=s.heap.update dd (Obj.putName name (PyData.keyHash w.params name) (.str name (s.toks+1)) v),toks:=s.toks+1+1}):
  wpAny (model prog w) A (setAttr (.ref y) name v) Q E s:=by
 have I:InstAt s.heap y (instObj cl dd) cl (some (dictOf es m)):=⟨hy,rfl,rfl,hd⟩;refine set_plain X I hs (osa_open (s:={s with toks:=s.toks+1}) X I hp ht fun b=>?_);apply bc;intro Z;refine aP (any_some hh) fun cd hc hd'=>?_;have upd:(s.heap.update dd (Obj.putName name (PyData.keyHash w.params name) (.str name (s.toks+1)) v)).get? dd=some (dictOf (putL name (PyData.keyHash w.params name) (.str name (s.toks+1)) v es) (putN name es m)):=by rw[sC _ hd (by rw[putName_dict];rfl),putName_dict]
 apply Z;clear Z;refine aG (aY (aG (aG (wpAny_loadPart (s:={s with toks:=s.toks+1}) hy (aG (Looks.here (s:={s with toks:=s.toks+1}) (looks_clsIn X hc) ?_))))));rw[hd'];refine aY (a:=some dd) (aG (aY (aG ?_)));unfold nsSet;refine aG (aG (wpAny_askSetting (aY (aG (wpAny_mkText (aG (wpAny_loadPart (s:={s with toks:=s.toks+1+1}) hd ?_)))))));dsimp only;have c:(!es.toArray.any (·.key.isStr name)&&es.toArray.any (·.refKey))=false:=by
  simp only[List.any_toArray];unfold getL at hl
  set_option tactic.hygienic true in split at hl
  ·rename_i en he;rw[List.any_eq_true.mpr ⟨en,List.mem_of_find?_eq_some he,List.find?_some he⟩];rfl
  ·split at hl
   ·cases hl
   ·rename_i z;rw[fQ] at z;rw[z,Bool.and_false]
 rw[aRefKeyMayBeTheName_at,c];refine wpAny_updatePart (s:={s with toks:=s.toks+1+1}) hd ?_;refine aG (wpAny_lookBehind (s:={s with heap:=s.heap.update dd (Obj.putName name (PyData.keyHash w.params name) (.str name (s.toks+1)) v),toks:=s.toks+1+1}) upd (pastItsLine_dict (by rw[List.size_toArray,fR];lia)) ?_);exact aY h
theorem AttrsRep.putL{es:List DictEntry}{at_:List (Nat×AV)}{n5:List Addr}(inj:∀i j,i<P.na->j<P.na->P.attrName i=P.attrName j->i=j)(r:AttrsRep prog w P F h es at_ n5){id:Nat}{x:AV}{v:Value}{fx:List Addr}{hsh:Int}{t:Tok}(hid:id<P.na)(hv:mW prog w F h v x fx)
  (nd:n5.Nodup) (ndx:fx.Nodup) (hd:∀a∈fx,a∉n5):∃fps',AttrsRep prog w P F h (PySem.W.putL (P.attrName id) hsh (.str (P.attrName id) t) v es) (gM id x at_) fps'/\fps'.Nodup/\∀a∈fps',a∈fx\/a∈n5:=by
 induction r with
 |nil=>exact(cY (fx++[]) (.cons rfl hid hv .nil) (by simpa using ndx) (fun a ha=> .inl (by simpa using ha)))
 | @cons en es jd y r t' fp n5 hk' hlt ha hr ih=>
  apply bc;intro Z;rw[List.nodup_append] at nd;refine cZ nd fun nd1 nd2 nd3=>?_;apply Z;clear Z;unfold gM PySem.W.putL;by_cases hj:jd=id
  ·subst hj;rw[aJ rfl,aJ (by rw[hk',jC,beq_self_eq_true])];refine(cY (fx++n5) (.cons hk' hlt hv hr) (List.nodup_append.mpr (cD ndx nd2 (fun a h1 b h2 q=>hd a h1 (dF.mpr (.inr (q▸h2)))))) (fun a q=>?_));exact(dF.mp q).imp _root_.id fun q=>List.mem_append_right _ q
  ·rw[aR hj,aR (by rw[hk',jC,cX];exact fun q=>hj (inj _ _ hlt hid q))];apply bc;intro Z;refine eR (ih nd2 fun a q q'=>hd a q (dF.mpr (.inr q'))) fun fps' i1 i2 i3=>?_;apply Z;clear Z;exact(cY (fp++fps') (.cons hk' hlt ha i1) (List.nodup_append.mpr (cD nd1 i2 (fun a h1 b h2 q=>(i3 a (q▸h2)).elim (fun q=>hd a q (List.mem_append_left _ h1)) fun q=>nd3 a h1 a q rfl))) (fun a q=>(dF.mp q).elim (fun q=> .inr (List.mem_append_left _ q)) fun q=>(i3 a q).imp _root_.id fun q=>List.mem_append_right _ q))
theorem AttrsRep.len{es:List DictEntry}{at_:List (Nat×AV)}{n5:List Addr}(r:AttrsRep prog w P F h es at_ n5):es.length=at_.length:=by
 induction r with
 |nil=>rfl
 |cons _ _ _ _ ih=>exact bU (· +1) ih
theorem Tl(name:Str)(hsh:Int)(key v:Value)(es:List DictEntry):(PySem.W.putL name hsh key v es).length<=es.length+1:=by
 induction es with
 |nil=>exact eQ _
 |cons e r ih=>
  unfold PySem.W.putL
  split
  ·exact Nat.le_succ _
  ·exact Nat.succ_le_succ ih
theorem AttrsRep.look{es:List DictEntry}{at_:List (Nat×AV)}{n5:List Addr}(r:AttrsRep prog w P F h es at_ n5)(name:Str):(getL name es).isSome=true:=by
 have:=r.noRef;unfold getL
 split
 ·rfl
 ·rw[this];rfl
theorem Go.rewrote{i:Nat}{v v':V}{a:Addr}{fn fx:List Addr}(g:Go prog w P b8 b l4 l5 l6 F fp s σ)(hv:σ.get i=some v)(ha:a∈fp i)(hk:∀b o,b≠a->s.heap.get? b=some o->h'.get? b=some o)
  (ht:∃o,h'.get? a=some o) (hfn:∀x∈fn,x∈fp i\/x∈fx) (hfx:∀x∈fx,l6.heap.get? x=none/\F x=none/\(∀j,x∉fp j)/\∀l∈b8,l.addr≠x)
  (hr:∀l y,b8[i]?=some l->l.At s.heap y->hO prog w P F s.heap y v (fp i)->hO prog w P F h' y v' fn):Go prog w P b8 true l4 l5 l6 F (fun j=>if j=i then fn else fp j) {s with heap:=h',toks:=tk} (σ.put i v'):=by
 have fi:=g.fi;have aF:=(fi.off i a ha).1;have aL:=(fi.off i a ha).2;have it:=Sg.lt_of_get hv;refine⟨⟨g.tr.mono,fun c o e n=>hk c o (fun q=>(g.sub i c (q▸ha)).elim (fun q=>n rfl ⟨i,q⟩) fun q=>dL e q) (g.tr.kept c o e fun _=>n rfl),fun c e=>g.tr.alive c (rJ hk ht c e),fun c o e=>hk c o (fun q=>dL e (q▸aF)) (g.tr.fz c o e),g.tr.fresh,by rw[g.tr.rest]⟩,⟨by rw[Sg.put_length];exact fi.len,fun l hl=>(fi.there l hl).keep fun o e=>hk _ o (aL l hl) e,fun j u e=>?_,fun j e=>?_,fun j k c hj hk'=>?_,fun j c hj=>?_,fi.offL⟩,fun j c hj=>?_⟩
 ·by_cases q:j=i
  ·apply bc;intro Z;subst q;rw[Sg.get_put,aJ ⟨rfl,it⟩] at e;refine cJ (fi.sl j v hv) fun l y h1 h2 h3=>?_;apply Z;clear Z;rw[aJ rfl,<-aK e];exact(dW l y h1 (h2.keep fun o e=>hk _ o (aL l (dT h1)) e) (hr l y h1 h2 h3))
  ·apply bc;intro Z;rw[Sg.put_other (Ne.symm q)] at e;refine cJ (fi.sl j u e) fun l y h1 h2 h3=>?_;apply Z;clear Z;rw[aR q];exact(dW l y h1 (h2.keep fun o e=>hk _ o (aL l (dT h1)) e) (h3.mono (.refl F) fun c hc o e=>hk c o (fun q2=>q (fi.dj j i c hc (q2▸ha))) e))
 ·by_cases q:j=i
  ·clear hv ha hr;subst q;rw[Sg.get_put,aJ ⟨rfl,it⟩] at e;exact dL rfl e
  ·rw[Sg.put_other (Ne.symm q)] at e;rw[aR q];exact fi.emp j e
 ·have one:∀{k},c∈fn->c∈fp k->k=i:=fun z hk'=>(hfn c z).elim (fun z=>fi.dj _ i c hk' z) fun z=>absurd hk' ((hfx c z).2.2.1 _);rcases fS hj with⟨q,hj⟩|⟨q,hj⟩
  ·rcases fS hk' with⟨q',_⟩|⟨q',hk'⟩
   ·rw[q,q']
   ·exact absurd (one hj hk') q'
  ·rcases fS hk' with⟨_,hk'⟩|⟨_,hk'⟩
   ·exact absurd (one hk' hj) q
   ·exact fi.dj j k c hj hk'
 ·rcases fS hj with⟨_,hj⟩|⟨_,hj⟩
  ·exact(hfn c hj).elim (fi.off i c) fun z=>⟨(hfx c z).2.1,(hfx c z).2.2.2⟩
  ·exact fi.off j c hj
 ·rcases fS hj with⟨q,hj⟩|⟨_,hj⟩
  ·exact(hfn c hj).elim (fun z=>q▸g.sub i c z) fun z=> .inr (hfx c z).1
  ·exact g.sub j c hj
theorem Tn{x:V}{av:AV}{v:Value}{fx:List Addr}(e:aBg x=some av)(r:hO prog w P F h v x fx):mW prog w F h v av fx/\fx.Nodup:=by
 cases x with
 |d y=>obtain rfl:=aK e;exact⟨r,r.2▸List.nodup_nil⟩
 |c c=>obtain rfl:=aK e;exact⟨r,by obtain⟨_,_,_,_,rfl⟩:=r;exact List.nodup_cons.mpr ⟨List.not_mem_nil,List.nodup_nil⟩⟩
 |inst _ _=>exact(nn e).elim
theorem Gb(kn:Known prog w P K b5 T mg mb B.lt){i id:Nat}{e:Ex}{x:Str}{px ap pos:Pos}{E:Expr}(hn:okN B i x=true)(hid:id<P.na)(he:Snd prog w P b5 T B e E):
  pB prog w P b5 T n B (.setAt i id e) (.Assign [.Attribute (.Name x px) (P.attrName id) ap] E pos):=by
 intro A env b8 F σ fp s fl d7 p ev;apply bc;intro Z;refine bG (tX.symm.trans ev) fun u b9 e1 ev=>sZ ev fun cl n4 hi ev=>bN ev fun av hav ev=>aQ ev fun hlen ev=>aU ev fun Q0 Q1=>?_;rename_i y0 y1 y2 y3;clear ev y0 y1 y2 y3;subst Q0;subst Q1;apply Z;clear Z;refine plainObj_wpAny_Assign_Attribute (he.run p e1 fun v c5 h1=>?_) (by cases E<;>rfl);apply bc;intro Z;obtain⟨c6,c7,fx,g1,r1,n1⟩:=h1;refine cK (Tn hav r1) fun rv ndx=>?_;have p1:=p.next g1;apply Z;clear Z;refine load p1 hn hi fun l y hl hy r=>?_;apply bc;intro Z;obtain⟨yy,dd,es,m,n5,hc,rfl,hF,hd,ra,hfp,nd⟩:=r;refine Dx (kn.ps.inst cl hc) fun i1 i2 i3 i4 i5=>?_;rw[hfp] at nd;refine cK (List.nodup_cons.mp nd) fun nd1 nd2=>?_;apply Z;clear Z;have ddfp:dd∈c7 i:=by rw[hfp];exact .head _
 apply bc;intro Z;have fxd:∀a∈fx,a∉n5:=fun a ha q=>(n1 a ha).2.2 i (by rw[hfp];exact .tail _ q);have ddx:dd∉fx:=fun q=>(n1 dd q).2.2 i ddfp;refine eR (ra.putL kn.ps.inj (hsh:=PyData.keyHash w.params (P.attrName id)) (t:=c5.toks+1) hid rv nd2 ndx fxd) fun fps' q1 q2 q3=>?_;apply Z;clear Z;refine Tk (kn.gl.inK.keeps p1.keeps) (p1.hF _ _ hF) hd i3 i4 (i5 id hid).2 i2 (ra.look _) (iU (Tl ..) (by rw[ra.len];lia)) ?_;have hk:∀b o,b≠dd->c5.heap.get? b=some o->(c5.heap.update dd (Obj.putName (P.attrName id) (PyData.keyHash w.params (P.attrName id)) (.str (P.attrName id) (c5.toks+1)) v)).get? b=some o:=iE _;have upd:(c5.heap.update dd (Obj.putName (P.attrName id) (PyData.keyHash w.params (P.attrName id)) (.str (P.attrName id) (c5.toks+1)) v)).get? dd=some (dictOf (PySem.W.putL (P.attrName id) (PyData.keyHash w.params (P.attrName id)) (.str (P.attrName id) (c5.toks+1)) v es) (putN (P.attrName id) es m)):=by rw[sC _ hd (by rw[putName_dict];rfl),putName_dict]
 have dfps:dd∉fps':=fun q=>(q3 dd q).elim ddx nd1;have gg:=Go.rewrote (tk:=c5.toks+1+1) (v':= .inst cl (gM id av n4)) (fn:=dd::fps') (fx:=fx) g1 hi ddfp hk ⟨_,upd⟩ (fun z hz=>?_) (fun z hz=>(sW ((n1 z hz).1) ((n1 z hz).2.1) ((n1 z hz).2.2) (p.new_loc (n1 z hz).1))) (fun l' y' hl' hy' _=>?_)
 ·exact⟨c6,_,p.toL gg,p.kp gg,rfl⟩
 ·exact(iA.mp hz).elim (fun q=> .inl (q▸ddfp)) fun hz=>(q3 z hz).elim .inr fun q=> .inl (by rw[hfp];exact .tail _ q)
 ·apply bc;intro Z;obtain rfl:=aK (hl.symm.trans hl');rename_i y0;clear y0;obtain rfl:=hy.unique hy';apply Z;clear Z;exact⟨yy,dd,_,_,fps',hc,rfl,hF,upd,q1.mono (.refl _) fun a ha o e=>hk a o (fun q=>dfps (q▸ha)) e,rfl,List.nodup_cons.mpr ⟨dfps,q2⟩⟩
theorem xH{a:Addr}{k:Int×Int}(hF:∀a o,F a=some o->h.get? a=some o)(r:Rep prog w F (.ref a) (lP k)):IsTupleKey (tA prog w) h (nK k) a:=by obtain⟨a',o,xs,n,t1,t2,t3,e,h1,h2,h3,h4⟩:=Yw hF r;obtain rfl:=sB e;exact(wF o xs n h1 h2 h3 (h4▸ .cons (intKind_is prog w _ t1) (.cons (strKind_is prog w _ t2) (.cons (intKind_is prog w _ t3) .nil))))
theorem zA{KT:Type}[DecidableEq KT]{xs:List (KT×Addr×Value)}{k:KT}{a:Addr}{v:Value}:(storedH xs k a v).map (·.1)=if k∈xs.map (·.1) then xs.map (·.1) else xs.map (·.1)++[k]:=by
 unfold storedH;have e:(atKey xs k).isSome=true↔k∈xs.map (·.1):=by unfold atKey;rw[Option.isSome_map,List.find?_isSome];simp
 by_cases h:k∈xs.map (·.1)
 ·rw[aJ (e.mpr h),aJ h,List.map_map];refine List.map_congr_left fun x _=>?_;show(putAt k v x).1=x.1;unfold putAt;split<;>rfl
 ·rw[aR (fun q=>h (e.mp q)),aR h,List.map_append];rfl
theorem Cj{KT:Type}[DecidableEq KT]{xs:List (KT×Addr×Value)}{k:KT}{a:Addr}{v:Value}{x:KT×Addr×Value}(hv:∀y∈xs,y.2.2=v)(hx:x∈storedH xs k a v):x∈xs\/x=(k,a,v):=by
 unfold storedH at hx
 split at hx
 ·refine aP (eO.mp hx) fun y hy Q2=>?_;subst Q2;refine .inl ?_;unfold putAt
  split
  ·have:=hv y hy;obtain⟨y1,y2,y3⟩:=y;clear hv;subst this;exact hy
  ·exact hy
 ·rcases dF.mp hx with h|h
  ·exact .inl h
  ·exact .inr (dJ.mp h)
theorem To{k:Mine.D}{t:Int×Int}(h:Oc k=some t):k=lP t:=by
 apply bc;intro Z;refine qG h fun l Q1 h=>?_;rename_i y0;clear y0;subst Q1;apply Z;clear Z;rcases l with _|⟨a,l⟩
 ·exact(nn h).elim
 rcases l with _|⟨b,l⟩
 ·exact(nn h).elim
 rcases l with _|⟨c,l⟩
 ·exact(nn h).elim
 apply bc;intro Z;refine aQ h fun h1 h2=>eZ h2 fun x e1 h3=>yB h3 fun s e2 h4=>eZ h4 fun n e3 h5=>aQ h5 fun e4 h6=>?_;apply Z;clear Z;rw[mU h1,<-aK h6,e1,e2,e3,e4];rfl
theorem Zj{x:Mine.D}(h:tru x=true):x= .bool true:=by
 cases x with
 |bool b=>exact bU _ h
 |_=>cases h
theorem Ck{t:Int×Int}{ks:List (Int×Int)}:nK t∈ks.map nK↔t∈ks:=⟨fun q=>by refine aP (eO.mp q) fun y hy e=>?_;rw[<-xF e];exact hy,fun q=>eO.mpr (aH t q rfl)⟩
theorem Zk{c c':Mine.C}{k x:Mine.D}{a:Addr}{kv xv:Value}{Q:Unit->Shared->Prop}{E:Value->Shared->Prop}(hu:A.units<=5000)(hF:∀a o,F a=some o->s.heap.get? a=some o)(fa:F a=none)(r:pS prog w F s.heap a c)(rk:Rep prog w F kv k)(rx:Rep prog w F xv x)(e:yH c k x=some c')
  (h:∀h' tk,(∀b o,b≠a->s.heap.get? b=some o->h'.get? b=some o)->pS prog w F h' a c'->Q () {s with heap:=h',toks:=tk}):wpAny (model prog w) A (setItem (.ref a) kv xv) Q E s:=by
 apply bc;intro Z;obtain⟨o,ho,rc⟩:=r;apply Z;clear Z
 cases c with
 |lst ds=>
  apply bc;intro Z;refine eZ e fun n Q1 e=>?_;rename_i y0;clear y0;subst Q1;refine aQ e fun hl e=>?_;obtain rfl:=aK e;obtain⟨ys,m,rfl,r⟩:=rc;refine X1 rk.inv fun t Q1=>?_;subst Q1;have ln:=dM r;apply Z;clear Z;refine ki_setAt ho hl.1 (Int.lt_trans hl.2.1 (by decide)) (by lia) (h _ s.toks (iE _) ⟨_,IsL.update (l:=a) (items:=ys) (n:=m) ho _,_,_,rfl,?_⟩);rw[Array.toList_setIfInBounds];exact r.set rx _
 |di l9=>
  apply bc;intro Z;refine eZ e fun n Q1 e=>?_;rename_i y0;clear y0;subst Q1;refine aQ e fun hl e=>?_;obtain rfl:=aK e;obtain⟨l,h1,h2⟩:=rc;refine X1 rk.inv fun t Q1=>?_;subst Q1;apply Z;clear Z;refine wpAny_setItem_pairs (knd:=intKind prog w) (intKind_is _ _ _ _) (Heap.dictOf_iff.mpr (aH o ho h1)) (fun h' hm hs=>?_) (by rw[h2.length];exact gF (by lia));apply bc;intro Z;refine aP (Heap.dictOf_iff.mp hm) fun o' ho' hd'=>?_;apply Z;clear Z;exact h h' _ (fun b o hb e=>(hs.2 b hb).trans e) ⟨o',ho',_,hd',h2.storedI rx _ (IsDictOf.nodup h1)⟩
 |ds l9=>
  apply bc;intro Z;refine yB e fun n Q1 e=>?_;rename_i y0;clear y0;subst Q1;refine aQ e fun hl e=>?_;obtain rfl:=aK e;obtain⟨l,h1,h2⟩:=rc;refine X1 rk.inv fun t Q1=>?_;subst Q1;apply Z;clear Z;refine wpAny_setItem_pairs (knd:=strKind prog w) (strKind_is _ _ _ _) (Heap.dictOf_iff.mpr (aH o ho h1)) (fun h' hm hs=>?_) (by rw[h2.length];exact gF (by lia));apply bc;intro Z;refine aP (Heap.dictOf_iff.mp hm) fun o' ho' hd'=>?_;apply Z;clear Z;exact h h' _ (fun b o hb e=>(hs.2 b hb).trans e) ⟨o',ho',_,hd',h2.storedS rx _ (IsDictOf.nodup h1)⟩
 |dt ks=>
  apply bc;intro Z;refine aQ e fun Q0 e=>?_;obtain⟨ht1,hl⟩:=Q0;refine aO e fun t ht e=>?_;rename_i y0 y1;clear y0 y1;subst e;obtain rfl:=To ht;obtain rfl:=Zj ht1;apply Z;clear Z;obtain⟨ka,rfl⟩:∃ka,kv= .ref ka:=by obtain⟨a,_,_,_,e,_⟩:=rk.tuple_inv;exact⟨a,e⟩
  apply bc;intro Z;obtain rfl:=rx.inv;obtain⟨xs,es,ep,q1,q2,q3,q4,q5,q6⟩:=rc;have hlen:xs.length=ks.length:=by rw[<-bT (f:=(·.1)),q5,bT]
  have hm:s.heap.DictOfH (tupleKind (tA prog w)) a xs:=(aCw o es ep ho q1 q2 q3 (fun x hx=>by refine tS (q6 x hx) fun _ k' e1 e2=>?_;rw[e1];exact xH hF e2) q4)
  apply Z;clear Z;refine wpAny_setItem_heap (knd:=tupleKind (tA prog w)) (tupleKind_room_in1 (by unfold cLine;lia)) (xH hF rk) hm (fun h' hm' hs=>?_) (by rw[hlen];exact gF (by lia));apply bc;intro Z;refine aCx hm' fun o' es' ep' ho' hc' hd' he' _ hn'=>?_;apply Z;clear Z;refine h h' (s.toks+(nK t).length.succ) (fun b o hb e=>(hs.2 b hb).trans e) ⟨o',ho',storedH xs (nK t) ka (.bool true),es',ep',hc',hd',he',hn',?_,fun x hx=>?_⟩
  ·rw[zA,q5];unfold sY;by_cases q:t∈ks
   ·rw[aJ (Ck.mpr q),aJ q]
   ·rw[aR (fun z=>q (Ck.mp z)),aR q,List.map_append];rfl
  ·exact(Cj (fun y hy=>(q6 y hy).1) hx).elim (q6 x) fun q=>q▸(nF rfl t rfl rk)
theorem Md(kn:Known prog w P K b5 T mg mb B.lt){i e:Ex}{X Y E:Expr}{px pos:Pos}(hp:iC P B pl X=true)(hs:fE Y=true)(hpu:pureE i=true)(hi:Snd prog w P b5 T B i Y)(he:Snd prog w P b5 T B e E):
  pB prog w P b5 T n B (.setP pl i e) (.Assign [.Subscript X Y px] E pos):=by
 intro A env b8 F σ fp s fl d7 p ev;apply bc;intro Z;refine bE (Hn.symm.trans ev) fun x b9 e1 ev=>aQ ev fun e2 ev=>bE ev fun k c8 e3 ev=>bN ev fun c e4 ev=>bN ev fun c' e5 ev=>aO ev fun g6 e6 e=>cK (eC e) fun Q0 Q1=>?_;rename_i y0 y1 y2 y3 y4;clear ev e y0 y1 y2 y3 y4;subst Q0;subst Q1;apply Z;clear Z;refine wpAny_Assign_Subscript (he.d p e1 fun v c6 c7 c5 g1 r1=>?_) (by cases E<;>rfl);have p1:=p.next g1;refine kK kn p1 hp e2 fun y tk st=>hi.d p1.tick e3 fun u d5 d4 c9 g2 r2=>?_;apply bc;intro Z;rw[hpu] at g2;obtain⟨a,rfl,ha,rc,hm⟩:=st.rep g2 e4;have p2:=p1.tick.next g2;have hF2:=g2.tr.fz;apply Z;clear Z;refine Zk (by have:=p.good.units;lia) hF2 (g2.fi.off _ _ hm).1 rc r2 (r1.mono g2.tr.mono) e5 fun h' tk' hk hc=>?_;have gw:=st.write (tk:=tk') g2 e4 e6 hk hc;have gg:=(g1.up (b':=true) (fun _=>rfl)).trans gw.tickL;exact⟨d5,d4,p.toL gg,p.kp gg,rfl⟩
class inductive VsAt (prog:Program) (w:World) (P:PS) (F:Fz) (h:Heap):List Value->List V->List (List Addr)->Prop
 |nil:VsAt prog w P F h [] [] []
 |cons {x:Value} {v:V} {fx:List Addr} {xs:List Value} {vs:List V} {fxs:List (List Addr)}:hO prog w P F h x v fx->VsAt prog w P F h xs vs fxs->VsAt prog w P F h (x::xs) (v::vs) (fx::fxs)
abbrev Dj(x y:List Addr):Prop:=∀a∈x,a∉y
inductive Gc(prog:Program)(w:World)(P:PS)(b8:List bF)(b:Bool)(F:Fz)(fp:Nat->List Addr)(s:Shared)(d7:Sg)(vs:List V)(xs:List Value)(s':Shared):Prop
 |mk (F':Fz) (e9:Nat->List Addr) (fxs:List (List Addr)):Go prog w P b8 b F fp s F' e9 s' d7->VsAt prog w P F' s'.heap xs vs fxs->fxs.Pairwise Dj->(∀fx∈fxs,∀a∈fx,s.heap.get? a=none/\F' a=none/\∀i,a∉e9 i)->Gc prog w P b8 b F fp s d7 vs xs s'
def Cm(prog:Program)(w:World)(P:PS)(b5:Heap)(T:Tab)(B:Bk)(es:List Ex)(Es:List Expr):Prop:=∀A env b8 F σ fp s vs d7 pos,Pre prog w P b5 B A env b8 F σ fp s->yI T es σ=some (vs,d7)->
 wpAny (model prog w) A (spliced (backTo pos (starEach Es env))) (Gc prog w P b8 true F fp s d7 vs) NoE s
theorem Me:Cm prog w P b5 T B [] []:=by intro A env b8 F σ fp s vs d7 pos p ev;refine aU ev fun Q0 Q1=>?_;clear ev;subst Q0;subst Q1;exact args_nil ⟨F,fp,[],p.go,.nil,.nil,fun _ h=>by cases h⟩
theorem Gd{a:Ex}{r:List Ex}{X:Expr}{Xs:List Expr}(hp:Expr.plain X=true)(ha:Snd prog w P b5 T B a X)(hr:Cm prog w P b5 T B r Xs):Cm prog w P b5 T B (a::r) (X::Xs):=by
 intro A env b8 F σ fp s vs d7 pos p ev;apply bc;intro Z;refine bG ev fun x b9 e1 ev=>aO ev fun Q0 e2 e=>?_;obtain⟨ys,c8⟩:=Q0;refine cK (eC e) fun Q0 Q1=>?_;rename_i y0;clear ev y0;subst Q0;subst Q1;apply Z;clear Z;refine args_cons (ha.run p e1 fun u c5 h1=>?_) (bJ hp);apply bc;intro Z;obtain⟨c6,c7,fx,g1,r1,n1⟩:=h1;apply Z;clear Z;refine bX (hr A env b8 c6 b9 c7 c5 _ _ pos (p.next g1) e2) (fun us c9 h2=>?_) fun _ _ x=>x;apply bc;intro Z;obtain⟨d5,d4,fxs,g2,r2,pw,n2⟩:=h2;apply Z;clear Z;refine⟨d5,d4,fx::fxs,(g1.up fun _=>rfl).trans g2,.cons (r1.mono g2.tr.mono fun a ha o e=>g2.tr.kept a o e fun _ ⟨i,hi⟩=>(n1 a ha).2.2 i hi) r2,.cons (fun y hy a ha ha'=>?_) pw,fun y hy a hay=>?_⟩
 ·exact X1 (r1.there a ha) fun o ho=>dL ho (n2 y hy a ha').1
 ·rcases iA.mp hy with rfl|hy
  ·apply bc;intro Z;refine cZ (n1 a hay) fun m1 m2 m3=>X1 (r1.there a hay) fun o ho=>?_;apply Z;clear Z;exact(cD m1 (Classical.byContradiction fun q=>(g2.tr.fresh a q).elim (fun q=>q m2) fun q=>q.elim (fun⟨i,q⟩=>m3 i q) fun q=>dL ho q) (fun i hi=>(g2.sub i a hi).elim (m3 i) fun q=>dL ho q))
  ·apply bc;intro Z;refine cZ (n2 y hy a hay) fun m1 m2 m3=>?_;apply Z;clear Z;exact(cD (g1.tr.alive a m1) m2 m3)
theorem SndL.vs{es:List Ex}{Xs:List Expr}(h:SndL prog w P b5 T B es Xs):Cm prog w P b5 T B es Xs:=by
 induction h with
 |nil=>exact Me
 |cons a b _ ih=>exact Gd a b ih
structure Put where
 i:Nat
 x:Str
 f:Value->Sem Unit
 v:Value
 u:V
 fx:List Addr
theorem Iy(bl:Bl B env b8){E:Value->Shared->Prop}{ps:List Put}:∀{F:Fz} {fp:Nat->List Addr} {s:Shared} {σ:Sg} {Q:Unit->Shared->Prop},(∀p∈ps,okW B p.i p.x=true/\∀(Q:Unit->Shared->Prop) (s:Shared),wpAny (model prog w) A (storeName env p.x p.v) Q E s->wpAny (model prog w) A (p.f p.v) Q E s)->
  GoX prog w P b8 (AtL b8) b c6 c7 c5 F fp s σ->(∀p∈ps,hO prog w P F s.heap p.v p.u p.fx/\∀a∈p.fx,c5.heap.get? a=none/\F a=none/\(∀j,a∉fp j)/\∀l∈b8,l.addr≠a)->(ps.map (·.fx)).Pairwise Dj->
  (∀h' tk e9,GoX prog w P b8 (AtL b8) b c6 c7 c5 F e9 {s with heap:=h',toks:=tk} (ps.foldl (fun s p=>s.put p.i p.u) σ)->Kp b8 (ps.map (·.i)) s.heap h'->Q () {s with heap:=h',toks:=tk})->
  wpAny (model prog w) A (assignInOrder (ps.map (·.f)) (ps.map (·.v))) Q E s:=by
 induction ps with
 |nil=>intro F fp s σ Q _ g _ _ h;exact aY (h s.heap s.toks fp g (.refl _))
 |cons q ps ih=>
  intro F fp s σ Q hw g r pw h;apply bc;intro Z;refine cK (hw q (.head _)) fun w1 w2=>cK (r q (.head _)) fun r1 n1=>cK (List.pairwise_cons.mp pw) fun pw1 pw2=>?_;apply Z;clear Z;refine aG (jN (w2 _ _ (yY bl w1 g r1 (fun a ha=>(cD ((n1 a ha).1) ((n1 a ha).2.1) ((n1 a ha).2.2.1))) (fun a ha=>(n1 a ha).2.2.2) fun h' tk e9 g' hk hf k=>?_)));refine ih (fun p hp=>hw p (.tail _ hp)) g' (fun p hp=>?_) pw2 fun h'' tk' fp'' g'' k'=>h h'' tk' fp'' g'' ((k.wide fun j hj=>by rw[dJ.mp hj];exact .head _).trans (k'.wide fun j hj=> .tail _ hj));refine cK (r p (.tail _ hp)) fun r2 n2=>?_;refine⟨r2.mono (.refl _) fun a ha o e=>hk a o (n2 a ha).2.2.2 e,fun a ha=>(sW ((n2 a ha).1) ((n2 a ha).2.1) (fun j hj=>?_) ((n2 a ha).2.2.2))⟩;rcases hf j a hj with z|z
  ·exact pw1 p.fx (eO.mpr (aH p hp rfl)) a z ha
  ·exact(n2 a ha).2.2.1 j z
theorem Tp{is:List Nat}:∀{ts:List Expr},nM B is ts=true->∃ids:List (Str×Pos),ts=ids.map (fun q=> .Name q.1 q.2)/\is.length=ids.length/\∀q∈is.zip ids,okW B q.1 q.2.1=true:=by
 induction is with
 |nil=>intro ts h;rw[w0 h];exact(cY ([]) rfl rfl (fun _ q=>nomatch q))
 |cons i is ih=>
  intro ts h;apply bc;intro Z;refine kM h fun x q r Q3 h1 h2=>?_;clear h;subst Q3;refine eR (ih h2) fun ids Q1 e2 e3=>?_;subst Q1;apply Z;clear Z;exact(cY ((x,q)::ids) rfl (bU (· +1) e2) (fun z hz=>(iA.mp hz).elim (fun e=>e▸h1) (e3 z)))
theorem filter_all{α β:Type}(c:α->Bool)(f:α->β):∀l:List α,(l.filterMap fun a=>if c a then some (f a) else none).length=l.length->(l.filterMap fun a=>if c a then some (f a) else none)=l.map f
 |[],_=>rfl
 |a::l,h=>by
  have hl:(l.filterMap fun a=>if c a then some (f a) else none).length<=l.length:=List.length_filterMap_le _ _;rw[List.filterMap_cons] at h ⊢
  cases hc:c a with
  |false=>rw[hc] at h;simp at h;lia
  |true=>
   rw[hc] at h;simp only[if_true,List.length_cons,Nat.add_right_cancel_iff] at h ⊢;rw[filter_all c f l h];rfl
theorem orI{p:Prop}[Decidable p]{α:Type}{a b u v:α}(ha:a=u)(h: ¬p->b=u\/b=v):(if p then a else b)=u\/(if p then a else b)=v:=by
 by_cases q:p
 ·rw[aJ q];exact .inl ha
 ·rw[aR q];exact h q
theorem wK(ids:List (Str×Pos))(k1 k2:Nat)(p1 p2:Pos)(vs:List Expr)(hc:(vs.all (foldedForSure 8)|| !vs.all (constantsAlone 8))=true):
  swappedStores [.Tuple (ids.map fun q=> .Name q.1 q.2) k1 p1] (.Tuple vs k2 p2) env=pure none\/swappedStores [.Tuple (ids.map fun q=> .Name q.1 q.2) k1 p1] (.Tuple vs k2 p2) env=pure (some (ids.map (·.1))):=by
 refine orI rfl fun _=>orI rfl fun _=>orI rfl fun h3=>orI rfl fun h4=>?_;rw[Nq.mpr h4,Bool.false_or,Bool.not_eq_true'] at hc;refine .inr ((aR (by rw[hc];exact eX)).trans ?_);rw[List.filterMap_map] at h3 ⊢;rw[bT] at h3;have e:=filter_all (fun q:Str×Pos=>env.kindOf q.1==some .local&&q.2.line==((ids.map fun q=>(Expr.Name q.1 q.2)).head?.map (·.pos.line)).getD 0) (·.1) ids (bne_eq_false_iff_eq.mp (Bool.or_eq_false_iff.mp (Nq.mpr h3)).1);exact bU (fun z=>(pure (some z):Sem (Option (List Str)))) e
theorem VsAt.length{xs:List Value}{vs:List V}{fxs:List (List Addr)}(r:VsAt prog w P F h xs vs fxs):xs.length=vs.length:=by
 induction r with
 |nil=>rfl
 |cons _ _ ih=>exact bU (· +1) ih
noncomputable def wL(f:Str×Pos->Value->Sem Unit)(is:List Nat)(ids:List (Str×Pos))(xs:List Value)(vs:List V)(fxs:List (List Addr)):List Put:=match is with
 |[]=>[]
 |i::is=>match ids with
  |[]=>[]
  |q::ids=>match xs with
   |[]=>[]
   |x::xs=>match vs with
    |[]=>[]
    |v::vs=>match fxs with
     |[]=>[]
     |fx::fxs=>⟨i,q.1,f q,x,v,fx⟩::wL f is ids xs vs fxs
theorem Cn{is:List Nat}:∀{vs:List V} {σ:Sg},is.length=vs.length->∃d7,putAll σ is vs=some d7:=by
 induction is with
 |nil=>intro vs σ h;exact⟨σ,aJ h.symm⟩
 |cons i is ih=>
  intro vs σ h
  cases vs with
  |nil=>cases h
  |cons v vs=>exact ih (Nat.succ.inj h)
structure Zl(prog:Program)(w:World)(P:PS)(F:Fz)(h:Heap)(f:Str×Pos->Value->Sem Unit)(is:List Nat)(ids:List (Str×Pos))(xs:List Value)(vs:List V)(fxs:List (List Addr))(ps:List Put):Prop where
 fs:ps.map (·.f)=ids.map f
 vl:ps.map (·.v)=xs
 fx:ps.map (·.fx)=fxs
 il:ps.map (·.i)=is
 fold:∀σ,ps.foldl (fun s p=>s.put p.i p.u) σ=(putAll σ is vs).getD σ
 each:∀p∈ps,hO prog w P F h p.v p.u p.fx/\p.fx∈fxs/\∃q,(p.i,q)∈is.zip ids/\p.x=q.1/\p.f=f q
theorem Tq(f:Str×Pos->Value->Sem Unit){xs:List Value}{vs:List V}{fxs:List (List Addr)}(r:VsAt prog w P F h xs vs fxs):∀{is:List Nat} {ids:List (Str×Pos)},is.length=ids.length->is.length=vs.length->Zl prog w P F h f is ids xs vs fxs (wL f is ids xs vs fxs):=by
 induction r with
 |nil=>
  intro is ids h1 h2;apply bc;intro Z;obtain rfl:=mU h2;obtain rfl:=mU h1.symm;apply Z;clear Z;exact⟨rfl,rfl,rfl,rfl,fun _=>rfl,fun _ q=>nomatch q⟩
 | @cons x v fx xs vs fxs a r ih=>
  intro is ids h1 h2
  cases is with
  |nil=>cases h2
  |cons i is=>
   cases ids with
   |nil=>cases h1
   |cons q ids=>
    apply bc;intro Z;obtain⟨i1,i2,i3,i4,i5,i6⟩:=ih (is:=is) (ids:=ids) (Nat.succ.inj h1) (Nat.succ.inj h2);apply Z;clear Z;refine⟨bU (_:: ·) i1,bU (_:: ·) i2,bU (_:: ·) i3,bU (_:: ·) i4,fun σ=>?_,fun p hp=>?_⟩
    ·refine X1 (Cn (σ:=σ.put i v) (Nat.succ.inj h2)) fun z hz=>?_;refine(i5 (σ.put i v)).trans ?_;show _=(putAll (σ.put i v) is vs).getD σ;rw[hz];rfl
    ·rcases iA.mp hp with rfl|hp
     ·exact(Aa a (.head _) q (.head _) rfl rfl)
     ·apply bc;intro Z;refine Nr (i6 p hp) fun j1 j2 q' j3 j4=>?_;apply Z;clear Z;exact(zX j1 (.tail _ j2) q' (.tail _ j3) j4)
theorem Ts{i j:Nat}{u v:V}(h:i≠j):(σ.put i u).put j v=(σ.put j v).put i u:=by unfold Sg.put;exact List.set_comm _ _ h
theorem wM{ps:List Put}(nd:(ps.map (·.i)).Nodup):ps.reverse.foldl (fun s p=>s.put p.i p.u) σ=ps.foldl (fun s p=>s.put p.i p.u) σ:=by
 refine List.Perm.foldl_eq' (List.reverse_perm ps) (fun x hx y hy z=>?_) σ;by_cases e:x=y
 ·rw[e]
 ·refine Ts fun q=>e ?_;rw[List.mem_reverse] at hx hy;obtain⟨i,hi,rfl⟩:=List.mem_iff_getElem.mp hx;obtain⟨j,hj,rfl⟩:=List.mem_iff_getElem.mp hy;have:=(List.getElem_inj (i:=i) (j:=j) (h₀:=by simpa using hi) (h₁:=by simpa using hj) nd).mp (by simpa using q);subst this;rfl
theorem Co{es:List Ex}:∀{σ d7:Sg} {us:List V},yI T es σ=some (us,d7)->us.length=es.length:=by
 induction es with
 |nil=>intro σ d7 us e;rw[<-(yF e).1];rfl
 |cons a r ih=>
  intro σ d7 us e;apply bc;intro Z;refine bG e fun x b9 _ ev=>aO ev fun Q0 e2 e3=>?_;obtain⟨ys,c8⟩:=Q0;apply Z;clear Z;rw[<-(eC e3).1];exact bU (· +1) (ih e2)
theorem Mf{is:List Nat}{es:List Ex}{ts vs:List Expr}{k1 k2:Nat}{p1 p2 pos:Pos}(hw:nM B is ts=true)(hl:is.length=es.length)(hl2:es.length<=10)(nd:is.Nodup)(hc:(vs.all (foldedForSure 8)|| !vs.all (constantsAlone 8))=true)(he:Cm prog w P b5 T B es vs):
  pB prog w P b5 T n B (.masg is es) (.Assign [.Tuple ts k1 p1] (.Tuple vs k2 p2) pos):=by
 intro A env b8 F σ fp s fl d7 p ev;apply bc;intro Z;refine bG (Hm.symm.trans ev) fun us b9 e1 ev=>aO ev fun c8 e2 e=>cK (eC e) fun Q0 Q1=>?_;rename_i y0;clear ev y0;subst Q0;subst Q1;refine eR (Tp hw) fun ids Q1 l1 okI=>?_;subst Q1;have lus:us.length=es.length:=Co e1;have core:∀(xs:List Value) (c5:Shared),Gc prog w P b8 true F fp s b9 us xs c5->∃fxs:List (List Addr),xs.length=us.length/\(c5.heap.push {cls:= .type "tuple",data:= .seq xs.toArray}).IsTuple c5.heap.objs.size xs.toArray/\
   ∀h',Heap.ExtBut (c5.heap.push {cls:= .type "tuple",data:= .seq xs.toArray}).objs.size (c5.heap.push {cls:= .type "tuple",data:= .seq xs.toArray}) h'->
   ∀f:Str×Pos->Value->Sem Unit,(∀q v (Q:Unit->Shared->Prop) s,wpAny (model prog w) A (storeName env q.1 v) Q NoE s->wpAny (model prog w) A (f q v) Q NoE s)->
   ∀rv:Bool,wpAny (model prog w) A (assignInOrder ((if rv then(wL f is ids xs us fxs).reverse else wL f is ids xs us fxs).map (·.f)) ((if rv then(wL f is ids xs us fxs).reverse else wL f is ids xs us fxs).map (·.v)))
    (fun _ s'=>gJ prog w P b8 (Ee (.masg is es)) (!uX (.masg is es)) F fp s .next c8 .next s') NoE {c5 with heap:=h'}/\(wL f is ids xs us fxs).map (·.f)=ids.map f/\(wL f is ids xs us fxs).map (·.v)=xs:=by
  intro xs c5 ⟨c6,c7,fxs,g1,r1,pw,n1⟩;refine(cY fxs r1.length (dB _ (dQ _ rfl) rfl _ rfl) (fun h' hx f hf rv=>?_));have hk:∀a o,c5.heap.get? a=some o->h'.get? a=some o:=fun a o e=>hx a o (by rw[Heap.size_push];exact Nat.ne_of_lt (Nat.lt_succ_of_lt (eN e))) (bM _ e);have g2:=g1.more (tk:=c5.toks) hk;have G:=p.toL g2;obtain⟨q1,q2,q3,q4,q5,q6⟩:=Tq f r1 l1 (hl.trans lus.symm);refine(cD ?_ q1 q2);have fin:∀h'' tk e9,GoX prog w P b8 (AtL b8) true F fp s c6 e9 {c5 with heap:=h'',toks:=tk} ((wL f is ids xs us fxs).foldl (fun s p=>s.put p.i p.u) b9)->Kp b8 is h' h''->gJ prog w P b8 (Ee (.masg is es)) (!uX (.masg is es)) F fp s .next c8 .next {c5 with heap:=h'',toks:=tk}:=fun h'' tk e9 g' k'=>by rw[q5,e2] at g';exact⟨c6,e9,g',(p.kp g2).trans k',rfl⟩
  have hall:∀p∈wL f is ids xs us fxs,(okW B p.i p.x=true/\∀(Q:Unit->Shared->Prop) (s:Shared),wpAny (model prog w) A (storeName env p.x p.v) Q NoE s->wpAny (model prog w) A (p.f p.v) Q NoE s)/\hO prog w P c6 h' p.v p.u p.fx/\∀a∈p.fx,s.heap.get? a=none/\c6 a=none/\(∀j,a∉c7 j)/\∀l∈b8,l.addr≠a:=fun z hz=>by refine tU (q6 z hz) fun m1 m2 q m3 m4 m5=>?_;refine(cD ⟨by rw[m4];exact okI _ m3,fun Q s hh=>by rw[m5];rw[m4] at hh;exact hf _ _ _ _ hh⟩ (m1.mono (.refl _) fun a _ o e=>hk a o e) (fun a ha=>?_));refine cZ (n1 _ m2 a ha) fun z1 z2 z3=>?_;exact(sW z1 z2 z3 (p.new_loc z1))
  cases rv with
  |false=>
   rw[aR eX];exact Iy p.bl (fun z hz=>(hall z hz).1) G (fun z hz=>(hall z hz).2) (by rw[q3];exact pw) fun h'' tk e9 g' k'=>fin h'' tk e9 g' (by rw[q4] at k';exact k')
  |true=>
   rw[aJ rfl];refine Iy p.bl (fun z hz=>(hall z (List.mem_reverse.mp hz)).1) G (fun z hz=>(hall z (List.mem_reverse.mp hz)).2) ?_ fun h'' tk e9 g' k'=>fin h'' tk e9 (by rw[wM (by rw[q4];exact nd)] at g';exact g') (k'.wide fun j hj=>?_)
   ·rw[List.map_reverse,q3,List.pairwise_reverse];exact pw.imp fun{x y} h a ha ha'=>h a ha' ha
   ·rw[List.map_reverse,List.mem_reverse,q4] at hj;exact hj
 apply Z;clear Z;rcases wK (env:=env) ids k1 k2 p1 p2 vs hc with hsw|hsw
 ·refine PyProof.Rows.Assign_Tuple (PySem.wpAny_Tuple (bX (he A env b8 F σ fp s _ _ p2 p e1) (fun xs c5 h1=>?_) fun _ _ x=>x)) rfl hsw;apply bc;intro Z;refine eR (core xs c5 h1) fun fxs c1 c2 c3=>cZ (jE (env:=env) hw) fun n1 n2 n3=>?_;apply Z;clear Z;refine⟨by rw[fR];lia,?_⟩;refine wpAny_assign_Tuple p.good.handled c2 (by rw[n2,bT,List.size_toArray];lia) n3 fun h' hx=>?_;apply bc;intro Z;refine cZ (c3 h' hx (fun q v=>assign (.Name q.1 q.2) env v) (fun q v Q s hh=>wpAny_assign_Name hh) false) fun d1 d2 d3=>?_;rw[aR eX,d2,d3] at d1;have hae:∀ids:List (Str×Pos),(assignEach (ids.map fun q=> .Name q.1 q.2) env).map (·.2)=ids.map fun q v=>assign (.Name q.1 q.2) env v:=fun ids=>by
   induction ids with
   |nil=>rfl
   |cons q ids ih=>
    show(assign (.Name q.1 q.2) env)::(assignEach (ids.map fun q=> .Name q.1 q.2) env).map (·.2)=_;rw[ih];rfl
  apply Z;clear Z;rw[hae,List.toList_toArray];exact d1
 ·refine PyProof.Rows.Assign_Tuple_swapped (PySem.wpAny_Tuple (bX (he A env b8 F σ fp s _ _ p2 p e1) (fun xs c5 h1=>?_) fun _ _ x=>x)) rfl hsw;apply bc;intro Z;refine eR (core xs c5 h1) fun fxs c1 c2 c3=>?_;apply Z;clear Z;refine⟨by rw[fR];lia,?_⟩;have hn:(ids.map (·.1)).length=xs.toArray.size:=by rw[bT,List.size_toArray];lia
  rw[hn];refine wpAny_unpackItems_tuple p.good.handled c2 fun h' hx=>?_;apply bc;intro Z;refine cZ (c3 h' hx (fun q v=>bindName env q.1 v) (fun q v Q s hh=>wpAny_bindName hh) true) fun d1 d2 d3=>?_;rw[aJ rfl,List.map_reverse,List.map_reverse,d2,d3] at d1;rw[<-List.map_reverse,List.map_map] at*;apply Z;clear Z;rw[List.toList_toArray];exact d1
theorem Tt{A:Around}{α:Type}{m:Sem α}{Q:α->Shared->Prop}{E:Value->Shared->Prop}{s:Shared}(h:wpAny (model prog w) A m Q NoE s):wpAny (model prog w) A m Q E s:=Pa h
theorem GoX.here(g:GoX prog w P b8 X b c6 c7 c5 F fp s σ):GoX prog w P b8 (AtL b8) b F fp s F fp s σ:=GoX.refl g.fz g.fi fun a ⟨l,hl,e⟩=>e▸g.fi.apart hl
inductive aDp(prog:Program)(w:World)(P:PS)(b8:List bF)(I:Addr)(W:List Nat)(d5:Fz)(d4:Nat->List Addr)(c9:Shared)(St:Nat->Heap->Prop)(xs:List Mine.D)(f:Sg->Mine.D->Option (Flow×Sg))(out:Flow×Sg)(m:Nat)(s':Shared):Prop
 |mk (i:Nat) (rest:List Mine.D) (F':Fz) (e9:Nat->List Addr) (σ'':Sg):xs.drop i=rest->m=rest.length->GoX prog w P b8 (fun a=>AtL b8 a\/a=I) true d5 d4 c9 F' e9 s' σ''->Kp b8 W c9.heap s'.heap->St i s'.heap->i<=xs.length->lB f rest σ''=some out->aDp prog w P b8 I W d5 d4 c9 St xs f out m s'
theorem Tu{t:Tgt}{it:It}{body:List St}{target iter:Expr}{Body:List Stmt}{pos:Pos}(hp:fU iter=true)(tt:mX B t target=true)(hi:nS prog w P b5 T B it iter)(hb:mZ prog w P b5 T n B body Body):
  pB prog w P b5 T n B (.for_ t it body) (.For target iter Body [] pos):=by
 intro A env b8 F σ fp s fl d7 p ev;apply bc;intro Z;refine bG (Ho.symm.trans ev) fun xs b9 e1 ev=>?_;apply Z;clear Z;have hW:Ee (.for_ t it body)=gG t++kI body:=by cases t<;>rfl
 generalize Ee (.for_ t it body)=W at hW;show wpAny _ _ _ (gJ prog w P b8 W true F fp s fl d7) _ _;refine wpAny_For (bX (hi A env b8 F σ fp s _ _ p e1) (fun x c5 h1=>bX h1 (fun iv c9 h2=>?_) fun _ _ x=>x) fun _ _ x=>x) (fun x=>pU hp);apply bc;intro Z;obtain⟨I,d5,d4,fpw,k,Pv,St,rfl,g2,hI0,apI,S,st0⟩:=h2;have x2:GoX prog w P b8 (AtL b8) true F fp s d5 d4 c9 b9:=(p.toL g2).up fun _=>rfl;have lI:∀l∈b8,l.addr≠I:=p.new_loc hI0;have IX: ¬AtL b8 I:=fun⟨l,hl,e⟩=>lI l hl e;have kp2:Kp b8 W s.heap c9.heap:=p.kp g2;have p2:=p.next g2;apply Z;clear Z;refine codeAny_forLoop_any (aDp prog w P b8 I W d5 d4 c9 St xs (fun s x=>(iS s t x).bind fun c5=>dC T n body c5) (fl,d7)) ?_ xs.length
  ⟨0,xs,d5,d4,b9,rfl,rfl,GoX.refl g2.tr.fz g2.fi fun a q=>q.elim (p2.apL a) fun q=>q▸apI,.refl _,st0,gS _,ev⟩
 rintro m s' ⟨i,rest,F',e9,σ'',hdr,rfl,g,kp,st,hil,ev'⟩
 cases rest with
 |nil=>
  apply bc;intro Z;obtain rfl:=drop_nil hdr hil;refine aU ev' fun Q0 Q1=>?_;rename_i y0;clear ev y0;subst Q0;subst Q1;apply Z;clear Z;exact S.walks.done s' _ _ (by rw[S.len];exact st) fun h' tk hk=>wpAny_execs_nil ⟨F',e9,x2.finish hI0 IX g lI fun a o hne e=>hk a o (fun q=>hne (dJ.mp q)) e,kp2.trans (kp.trans (.of fun l hl o e=>hk _ o (fun q=>lI l hl (dJ.mp q)) e)),rfl⟩
 |cons d rest=>
  apply bc;intro Z;refine cZ (wY hdr) fun hxi hdr' hi'=>bG ev' fun fl' σb e0 ev'=>bN e0 fun σt e2 e3=>?_;apply Z;clear Z;refine Bp S g.mono g (.inr rfl) lI hxi st fun v d6 tk₁ rv st₁ hk₁ g₁=>Bo (S.quiet _ _ st₁) ?_;have kp₁:Kp b8 W c9.heap d6:=kp.trans (.of fun l hl o e=>hk₁ _ o (lI l hl) e);refine Iw p.good.handled p.bl tt g₁.here rv e2 fun i9 tk₂ fp₂' z₁ kz=>?_;have apX:∀{F3:Fz} {fp3:Nat->List Addr} {s3:Shared} {F4:Fz} {fp4:Nat->List Addr} {s4:Shared} {σ4:Sg},Apart F3 fp3 s3.heap I->GoX prog w P b8 (AtL b8) true F3 fp3 s3 F4 fp4 s4 σ4->(∀o,s3.heap.get? I=some o->s4.heap.get? I=some o):=fun{F3 fp3 s3 F4 fp4 s4 σ4} ap z o e=>z.kept I o e IX fun _ ⟨j,hj⟩=>ap.2.2 j hj;have g₂:=g₁.trans (z₁.widen (fun a q=> .inl q) g₁.ap);have st₂:St (i+1) i9:=S.stay (fun a o e=>g₁.fz a o (g.mono a o e)) (fun a o e=>g₂.fz a o (g₂.mono a o e)) (fun o e=>apX (s3:={s' with heap:=d6,toks:=tk₁}) (g₁.ap I (.inr rfl)) z₁ o e) st₁;have kp₂:Kp b8 W c9.heap i9:=kp₁.trans (kz.wide fun j hj=>by rw[hW];exact List.mem_append_left _ hj);have pb:Pre prog w P b5 B A env b8 F' σt fp₂' {s' with heap:=i9,toks:=tk₂}:=⟨p.good,p.bl,fun a o e=>g₂.mono a o (p2.hb a o e),g₂.fz,g₂.fi⟩;refine Tt (bX (hb A env b8 F' σt fp₂' _ _ _ pb e3) (fun f s₄ h4=>?_) fun _ _ x=>x);apply bc;intro Z;obtain⟨F₄,fp₄,z₂,k₂,r⟩:=h4;have z₂':=z₂.up (b':=true) fun _=>rfl;have g₄:=g₂.trans (z₂'.widen (fun a q=> .inl q) g₂.ap);have k₄:Kp b8 W c9.heap s₄.heap:=kp₂.trans (k₂.wide fun j hj=>by rw[hW];exact List.mem_append_right _ hj);apply Z;clear Z
  cases fl' with
  |next=>
   obtain rfl:f= .next:=r
   exact(aH rest.length (Nat.lt_succ_self _) ⟨i+1,rest,F₄,fp₄,σb,hdr',rfl,g₄,k₄,S.stay (fun a o e=>g₂.fz a o (g₂.mono a o e)) (fun a o e=>g₄.fz a o (g₄.mono a o e)) (fun o e=>apX (s3:={s' with heap:=i9,toks:=tk₂}) (g₂.ap I (.inr rfl)) z₂' o e) st₂,hi',ev'⟩)
  |ret dd=>
   apply bc;intro Z;refine aP r fun v Q1 rv'=>?_;clear r;subst Q1;refine aU ev' fun Q0 Q1=>?_;rename_i y0 y1 y2;clear ev ev' y0 y1;subst Q0;subst Q1;apply Z;clear Z;exact⟨F₄,fp₄,x2.finish (h':=s₄.heap) (tk:=s₄.toks) hI0 IX g₄ lI fun a o _ e=>e,kp2.trans k₄,v,rfl,rv'⟩
inductive Tv(prog:Program)(w:World)(P:PS)(b8:List bF)(W:List Nat)(F:Fz)(fp:Nat->List Addr)(s:Shared)(t:Sg->Option (Bool×Sg))(f:Sg->Option (Flow×Sg))(out:Flow×Sg)(m:Nat)(s':Shared):Prop
 |mk (F':Fz) (e9:Nat->List Addr) (σ'':Sg):GoX prog w P b8 (AtL b8) true F fp s F' e9 s' σ''->Kp b8 W s.heap s'.heap->iZ m t f σ''=some out->Tv prog w P b8 W F fp s t f out m s'
theorem Ge{t:Tx}{body:List St}{E:Expr}{Body:List Stmt}{pos:Pos}(ht:nO prog w P b5 T B t E)(hb:mZ prog w P b5 T n B body Body):pB prog w P b5 T n B (.while_ t body) (.While E Body [] pos):=by
 intro A env b8 F σ fp s fl d7 p ev;refine wpAny_While (codeAny_whileLoop (Tv prog w P b8 (kI body) F fp s (evT T t) (dC T n body) (fl,d7)) ?_ n ⟨F,fp,σ,p.toL p.go,.refl _,Ke.symm.trans ev⟩)
 rintro m s' ⟨F',e9,σ'',g,kp,ev'⟩
 have p':Pre prog w P b5 B A env b8 F' σ'' e9 s':=p.nextX g
 cases m with
 |zero=>exact(nn ev').elim
 |succ m=>
  refine bG ev' fun z b9 e1 ev'=>Tt (ht.t p' e1 fun c6 c7 c5 g1=>?_);have x1:=g.trans ((p'.toL g1).up fun _=>rfl);have k1:Kp b8 (kI body) s.heap c5.heap:=kp.trans (p'.kp g1)
  cases z with
  |true=>
   refine bG (aAH ev') fun f0 c8 e2 ev'=>Tt (bX (hb A env b8 c6 b9 c7 c5 _ _ (p'.next g1) e2) (fun f c9 h2=>?_) fun _ _ x=>x);obtain⟨d5,d4,g2,k2,r2⟩:=h2
   cases f0 with
   |next=>
    obtain rfl:f= .next:=r2
    exact(aH m (Nat.lt_succ_self m) ⟨d5,d4,c8,x1.trans (g2.up fun _=>rfl),k1.trans k2,ev'⟩)
   |ret d=>
    refine aP r2 fun v Q1 rv=>?_;clear r2;subst Q1;refine aU ev' fun Q0 Q1=>?_;rename_i y0 y1;clear ev y0 y1;subst Q0;subst Q1;exact⟨d5,d4,x1.trans (g2.up fun _=>rfl),k1.trans k2,v,rfl,rv⟩
  |false=>
   refine aU ev' fun Q0 Q1=>?_;rename_i y0;clear ev ev' y0;subst Q0;subst Q1;exact wpAny_execs_nil ⟨c6,c7,x1,k1,rfl⟩
end
set_option linter.unusedSectionVars false
section
variable {prog:Program}{w:World}{P:PS}{K:Frag}{b5:Heap}{T:Tab}{mg mb:Str->Option Value}{n:Nat}
theorem s1{k:Expr->Expr->Bool}{S:Stmt}(h:os1 k S=true):∃x v p,S= .Assign [x] v p/\k x v=true:=by apply bc;intro Z;refine aCZ h fun _ v p Q3 h=>?_;rename_i y0 y1;clear y0;subst Q3;refine aP (w1 h) fun x Q1 h=>?_;subst Q1;apply Z;clear Z;exact(nA _ _ _ rfl h)
theorem s1k{k:Expr->Expr->Bool}{S:Stmt}(h:os1 k S=true){P:Prop}(f:∀x v p,S= .Assign [x] v p->k x v=true->P):P:=sX (s1 h) f
inductive aDq(k:Expr->Str->Pos->Expr->Pos->Bool)(S:Stmt):Prop
 |mk (x:Expr) (n:Str) (ap:Pos) (y:Expr) (cp p:Pos):S= .Expr (.Call (.Attribute x n ap) [y] [] cp) p->k x n ap y cp=true->aDq k S
theorem s2x{k:Expr->Str->Pos->Expr->Pos->Bool}{S:Stmt}(h:os2 k S=true):aDq k S:=by apply bc;intro Z;refine Xk h fun _ p Q2 h=>?_;rename_i y0 y1;clear y0;subst Q2;refine Km h fun _ xs kw cp Q4 h=>?_;subst Q4;refine aS h fun h1 h2=>Ow h2 fun x n ap Q3 h2=>?_;subst Q3;refine aP (w1 h2) fun y Q1 h2=>?_;subst Q1;apply Z;clear Z;rw[w0 h1];exact⟨_,_,_,_,_,_,rfl,h2⟩
theorem Mg{e:Ex}(h:yM e=true):e= .k .none:=
 Ex.k.elim (motive_1:=fun e=>yM e=true->e= .k .none) e (kU h) (fun c h=>bU Ex.k (kJ h)) h
theorem Zm{B:Bk}{e:Ex}{S:Stmt}(ok:okS P B (.ret e) S=true):(∃v pos,S= .Return (some v) pos/\(Expr.plain v&&okE P B e v)=true)\/∃pos,S= .Return none pos/\e= .k .none:=by
 apply bc;intro Z;refine aC1 ok fun o p Q2 h=>?_;clear ok;subst Q2;apply Z;clear Z
 cases o with
 |some v=>exact .inl (hN _ _ rfl h)
 |none=>
  exact .inr (aH _ rfl (Mg h))
section
variable (prog:Program)(w:World)(P:PS)(b5:Heap)(T:Tab)(n lt:Nat)
abbrev QS(st:St):Prop:=∀(B:Bk) (S:Stmt),B.lt=lt->okS P B st S=true->pB prog w P b5 T n B st S
abbrev QSs(st:List St):Prop:=∀(B:Bk) (S:List Stmt),B.lt=lt->dE P B st S=true->mZ prog w P b5 T n B st S
end
variable {lt:Nat}(kn:Known prog w P K b5 T mg mb lt)
include kn in
theorem aBK(i e):QS prog w P b5 T n lt (.asg i e):=fun B S hl ok=>by apply bc;intro Z;refine s1k ok fun x v pos Q3 h=>?_;clear ok;subst Q3;refine gE h fun h1 h2 h3=>v3k h1 fun x q Q2 h1=>?_;subst Q2;apply Z;clear Z;exact Th h1 h3 (eF lt kn e B v hl h3) (aBJ lt kn e B v hl h3)
include kn in
theorem Zn(is e):QS prog w P b5 T n lt (.asgT is e):=fun B S hl ok=>by apply bc;intro Z;refine s1k ok fun x v pos Q3 h=>?_;clear ok;subst Q3;refine nN h fun h1 h2 h3 h4=>v7k h1 fun ts k q Q3 h1=>?_;subst Q3;apply Z;clear Z;exact Mb h1 (Fp h3) (eF lt kn e B v hl h4)
include kn in
theorem Zo(is es):QS prog w P b5 T n lt (.masg is es):=fun B S hl ok=>by apply bc;intro Z;refine s1k ok fun x v pos Q3 h=>?_;clear ok;subst Q3;refine v7k (e:=x) h fun ts k q Q3 h=>?_;subst Q3;refine v7k (e:=v) h fun vs k2 q2 Q3 h=>?_;subst Q3;refine aS h fun h hc=>lZ h fun h1 h2 h3 h4 h5=>?_;apply Z;clear Z;exact Mf h1 (cX.mp h3) (lO h5) (lO h4) hc (Zc lt kn es B vs hl h2).vs
include kn in
theorem Tw(i id e):QS prog w P b5 T n lt (.setAt i id e):=fun B S hl ok=>by apply bc;intro Z;refine s1k ok fun x v pos Q3 h=>?_;clear ok;subst Q3;refine v4k h fun x q n ap Q4 h=>?_;subst Q4;refine lZ h fun h1 h2 h3 h4 h5=>?_;obtain rfl:=cX.mp h2;apply Z;clear Z;exact Gb (hl▸kn) h1 (lO h3) (eF lt kn e B v hl h5)
include kn in
theorem Zp(pl i e):QS prog w P b5 T n lt (.setP pl i e):=fun B S hl ok=>by apply bc;intro Z;refine s1k ok fun x v pos Q3 h=>?_;clear ok;subst Q3;refine Ox h fun x y q Q3 h=>?_;subst Q3;refine aS h fun h h6=>lZ h fun h1 h2 h3 h4 h5=>?_;apply Z;clear Z;exact Md (hl▸kn) h1 h2 h3 (eF lt kn i B y hl h4) (eF lt kn e B v hl h6)
include kn in
theorem aBL(pl e):QS prog w P b5 T n lt (.app pl e):=fun B S hl ok=>by apply bc;intro Z;obtain⟨x,n,ap,y,cp,pos,rfl,h⟩:=s2x ok;refine aS h fun h h6=>lZ h fun h1 h2 h3 h4 h5=>?_;rename_i y0;clear ok h y0;obtain rfl:=cX.mp h1;apply Z;clear Z;exact Ti (hl▸kn) h2 h3 h4 h6 (eF lt kn e B y hl h5)
include kn in
theorem Zq(pl a b):QS prog w P b5 T n lt (.extR pl a b):=fun B S hl ok=>by apply bc;intro Z;obtain⟨x,n,ap,y,cp,pos,rfl,h⟩:=s2x ok;refine nN h fun h1 h2 h3 h4=>?_;clear ok;obtain rfl:=cX.mp h1;refine Ov (o:=pA B "range" y) h4 fun u v h4 h=>nN h fun h5 h6 h7 h8=>?_;apply Z;clear Z;exact Mc (hl▸kn) h2 h3 h4 h5 h6 (eF lt kn a B u hl h7) (eF lt kn b B v hl h8)
include kn in
theorem aBM(pl):QS prog w P b5 T n lt (.rev pl):=fun B S hl ok=>by refine Xk ok fun _ pos Q2 h=>?_;clear ok;subst Q2;obtain⟨x,n,ap,cp,rfl,h⟩:=v20 h;refine gE h fun h1 h2 h3=>?_;obtain rfl:=cX.mp h1;exact Tj (hl▸kn) h2 h3
include kn in
theorem Zr(e):QS prog w P b5 T n lt (.expr e):=fun B S hl ok=>by refine Xk ok fun v pos Q2 h=>?_;clear ok;subst Q2;exact aS h fun h1 h2=>Lz h1 (eF lt kn e B v hl h2)
include kn in
theorem aDr(i):QS prog w P b5 T n lt (.sh i):=fun B S hl ok=>(eX ok).elim
include kn in
theorem aBN(t a c)(ih_a:QSs prog w P b5 T n lt a)(ih_c:QSs prog w P b5 T n lt c):QS prog w P b5 T n lt (.ite t a c):=fun B S hl ok=>by apply bc;intro Z;refine aD4 ok fun cx x y pos Q4 h=>?_;clear ok;subst Q4;refine gE h fun h1 h2 h3=>?_;apply Z;clear Z;exact Ta (Fx lt kn t B cx hl h1) (ih_a B x hl h2) (ih_c B y hl h3)
include kn in
theorem Zs(t it body)(ih_body:QSs prog w P b5 T n lt body):QS prog w P b5 T n lt (.for_ t it body):=fun B S hl ok=>by apply bc;intro Z;refine aC0 ok fun tgt iter b e pos Q5 h=>?_;clear ok;subst Q5;refine aS h fun h0 h=>gE h fun h1 h2 h3=>?_;obtain rfl:=w0 h0;apply Z;clear Z;exact Tu (gN h2) h1 (tH lt kn it B iter hl h2) (ih_body B b hl h3)
include kn in
theorem Mh(t body)(ih_body:QSs prog w P b5 T n lt body):QS prog w P b5 T n lt (.while_ t body):=fun B S hl ok=>by apply bc;intro Z;refine aD5 ok fun c b e pos Q4 h=>?_;clear ok;subst Q4;refine aS h fun h0 h=>aS h fun h1 h2=>?_;obtain rfl:=w0 h0;apply Z;clear Z;exact Ge (Fx lt kn t B c hl h1) (ih_body B b hl h2)
include kn in
theorem aBO(e):QS prog w P b5 T n lt (.ret e):=fun B S hl ok=>by
  rcases Zm ok with⟨v,pos,rfl,h⟩|⟨pos,rfl,rfl⟩
  ·obtain⟨_,h2⟩:=fB h;exact Sy (eF lt kn e B v hl h2)
  ·exact Ly
include kn in
theorem aBP:QSs prog w P b5 T n lt []:=fun B Xs hl ok=>by rw[w0 ok];exact Lx
include kn in
theorem Zt(a r)(ih:QS prog w P b5 T n lt a)(ih2:QSs prog w P b5 T n lt r):QSs prog w P b5 T n lt (a::r):=fun B Xs hl ok=>by
 have ok:(bif aBv a then dE P B r Xs else hdB (okS P B a) (dE P B r) Xs)=true:=ok
 cases h:aBv a with
 |true=>
  rw[h] at ok;refine X1 (St.sh.elim (motive_1:=fun s=>∃i,s= .sh i) a (cX.mp h) fun i=>⟨i,rfl⟩) fun i Q1=>?_;rename_i y0;clear y0;subst Q1;exact Sw (ih2 B Xs hl ok)
 |false=>
  rw[h] at ok;refine El (k:=okS P B a) (l:=dE P B r) ok fun x xs Q2 h1 h2=>?_;rename_i y0;clear ok y0;subst Q2;exact Fy (ih B x hl h1) (ih2 B xs hl h2)
theorem Iz(lt:Nat)(kn:Known prog w P K b5 T mg mb lt)(st:List St):QSs prog w P b5 T n lt st:=
 St.rec_1 (motive_1:=QS prog w P b5 T n lt) (motive_2:=QSs prog w P b5 T n lt) (aBK kn) (Zn kn) (Zo kn) (Tw kn) (Zp kn) (aBL kn) (Zq kn) (aBM kn) (Zr kn) (aDr kn) (aBN kn) (Zs kn) (Mh kn) (aBO kn) (aBP kn) (Zt kn) st
end
noncomputable def oQ(sc:Scope)(fn:Fn):Bool:=fn.nm.length==fn.ns&&decide (fn.np<=fn.ns)&&decide fn.nm.Nodup&&fn.nm.all (fun x=>sc.names.lookup x==some .local||sc.names.lookup x==some .cell)
theorem eY{sc:Scope}{fn:Fn}(h:oQ sc fn=true):((fn.nm.length=fn.ns/\fn.np<=fn.ns)/\fn.nm.Nodup)/\∀x∈fn.nm,sc.names.lookup x=some .local\/sc.names.lookup x=some .cell:=by simpa only[oQ,Bool.and_eq_true,List.all_eq_true,beq_iff_eq,decide_eq_true_eq,Bool.or_eq_true] using h
structure cA(P:PS)(b5:Heap)(k:Nat)(fn:Fn)(fd:FuncData)(body:List Stmt):Prop where
 obj:∃o,b5.get? (P.fnAddr k)=some o/\o.data= .func fd
 body:fd.body= .stmts body
 clo:fd.closure=[]
 glob:fd.globals=mainGlobals
 blt:fd.builtins=builtinsNs
 code:b5.CodeRec fd.code fd.qualname
 kind:fd.scope.kind= .function
 co:fd.scope.isCoroutine=false
 gen:fd.scope.isGenerator=false
 bind:∀vals:List Value,vals.length=fn.np->bindArgs fd ⟨vals,[]⟩=pure ((fn.nm.take fn.np).zip vals)
 ok:oQ fd.scope fn=true
noncomputable abbrev dH(k:Nat)(fn:Fn)(sc:Scope):Bk:={sc:=sc,res:=fn.nm.zipIdx,ns:=fn.ns,lt:=4*k+3}
theorem Cp{kindOf:Str->Option NameKind}{binds:List (Str×Value)}:∀{m:Str->Option Value} {x:Str},x∉binds.map (·.1)->bindL kindOf binds m x=m x:=by
 induction binds with
 |nil=>intro m x _;rfl
 |cons q r ih=>
  intro m x h;unfold bindL;rw[ih (fun q=>h (.tail _ q))]
  split
  ·exact aR fun q=>h (by rw[q];exact .head _)
  ·rfl
theorem Cq{kindOf:Str->Option NameKind}{binds:List (Str×Value)}:∀{m:Str->Option Value} {x:Str},x∉binds.map (·.1)->bindC kindOf binds m x=m x:=by
 induction binds with
 |nil=>intro m x _;rfl
 |cons q r ih=>
  intro m x h;unfold bindC;rw[ih (fun q=>h (.tail _ q))]
  split
  ·rfl
  ·exact aR fun q=>h (by rw[q];exact .head _)
theorem Mi{kindOf:Str->Option NameKind}{binds:List (Str×Value)}:∀{m:Str->Option Value} {x:Str} {v:Value},(binds.map (·.1)).Nodup->(x,v)∈binds->kindOf x=some .local->bindL kindOf binds m x=some v:=by
 induction binds with
 |nil=>intro m x v _ h;cases h
 |cons q r ih=>
  intro m x v nd h hk;have nd':=List.nodup_cons.mp (show(q.1::r.map (·.1)).Nodup from nd);unfold bindL;rcases iA.mp h with e|h
  ·clear nd;subst e;rw[Cp nd'.1,aJ hk,aJ rfl]
  ·exact ih nd'.2 h hk
theorem Mj{kindOf:Str->Option NameKind}{binds:List (Str×Value)}:∀{m:Str->Option Value} {x:Str} {v:Value},(binds.map (·.1)).Nodup->(x,v)∈binds->kindOf x≠some .local->bindC kindOf binds m x=some v:=by
 induction binds with
 |nil=>intro m x v _ h;cases h
 |cons q r ih=>
  intro m x v nd h hk;have nd':=List.nodup_cons.mp (show(q.1::r.map (·.1)).Nodup from nd);unfold bindC;rcases iA.mp h with e|h
  ·clear nd;subst e;rw[Cq nd'.1,aR hk,aJ rfl]
  ·exact ih nd'.2 h hk
theorem pI{l:List Str}{x:Str}{i:Nat}(h:l.zipIdx.lookup x=some i):l[i]?=some x:=by refine cZ (List.mem_zipIdx (mem_of_lookup h)) fun _ h2 h3=>?_;rw[h3];simp
theorem Good.deep{k:Nat}{A:Around}(g:Good (4*(k+1)) A)(env:Env):Good (4*k+3) (A.deeper env):=by have h1:=g.depth;have h2:=g.units;have e1:(A.deeper env).depth=A.depth+1:=rfl;have e2:(A.deeper env).units=A.units+3:=rfl;exact⟨g.handled,by lia,by lia⟩
theorem Zu{vs:List V}:∀{m7:List V} {σ:Sg},Ah vs σ=some m7->m7.length=vs.length/\∀(i:Nat) (v':V),m7[i]?=some v'->∃v,vs[i]?=some v/\(bif v.isD then some v else σ.get i)=some v':=by
 induction vs with
 |nil=>intro m7 σ h;rw[<-aK h];exact⟨rfl,fun i v' e=>(nn e).elim⟩
 |cons v r ih=>
  intro m7 σ h
  cases σ with
  |nil=>exact(nn h).elim
  |cons s σ=>
   apply bc;intro Z;refine bN h fun x hx h=>aO h fun rs hr Q2=>?_;rename_i y0;clear h y0;subst Q2;refine cK (ih hr) fun i1 i2=>?_;apply Z;clear Z;refine⟨bU (· +1) i1,fun i v' e=>?_⟩
   cases i with
   |zero=>
    rw[<-aK e];refine(aH v rfl ?_)
    cases hd:v.isD with
    |true=>rw[hd,aJ rfl] at hx;exact hx
    |false=>rw[hd,aR eX] at hx;rw[hx];rfl
   |succ i=>exact i2 i v' e
theorem zB{as:List Nat}{vs:List V}:∀{j i:Nat} {v:V},gV as vs j=true->vs[i]?=some v->v.isD=false->(j+i)∉as:=by
 induction vs with
 |nil=>intro j i v _ e;exact(nn e).elim
 |cons u r ih=>
  intro j i v h e hd;refine aS h fun h1 h2=>?_
  cases i with
  |zero=>
   obtain rfl:=aK e;rcases Bool.or_eq_true_iff.mp h1 with q|q
   ·rw[hd] at q;cases q
   ·exact fun m=>by rw[List.contains_iff_mem.mpr (show j∈as from m)] at q;cases q
  |succ i=>
   have:=ih (j:=j+1) (i:=i) h2 e hd
   rwa [Nat.add_assoc,Nat.add_comm 1 i] at this
section
variable {prog:Program}{w:World}{P:PS}{K:Frag}{b5:Heap}{T:Tab}{mg mb:Str->Option Value}{n k:Nat}{fn:Fn}{fd:FuncData}{body:List Stmt}
theorem aDs{s c5:Shared}{a:Addr}{m cm:Str->Option Value}(fo:cA P b5 k fn fd body)(X:InCallC s s.heap.objs.size m (cellsFrom (s.heap.objs.size+1) fd.scope.names []) cm c5):
  Bl (dH k fn fd.scope) (callEnvC fd s.heap.objs.size a) (dN fd.scope s.heap.objs.size fn.nm) where
 kind:=fo.kind
 glob:=fo.glob
 blt:=fo.blt
 res:=fun x i hx=>by
  have ok:=eY fo.ok;have hi:=pI hx;have hxm:x∈fn.nm:=dT hi;refine(aH (if fd.scope.names.lookup x=some .local then .ns s.heap.objs.size x else .cell (((cellsFrom (s.heap.objs.size+1) fd.scope.names []).lookup x).getD 0)) ?_ ?_)
  ·unfold dN;rw[eW,hi];rfl
  ·rcases ok.2 x hxm with e|e
   ·rw[aJ e];exact(cD rfl rfl e)
   ·rw[aR (by rw[e];exact nofun)];refine iF (C:=s.heap.objs.size) e fun c hc=>?_;refine⟨?_,.inl e⟩;show(cellsFrom (s.heap.objs.size+1) fd.scope.names []).lookup x=_;rw[hc];rfl
 apart:=by
  have ok:=eY fo.ok;unfold dN;refine List.pairwise_map.mpr (List.Pairwise.imp_of_mem (fun{x y} hx hy hne e=>hne ?_) ok.1.2);rcases ok.2 x hx with q|q<;>rcases ok.2 y hy with q'|q'
  ·rw[aJ q,aJ q'] at e;injection e
  ·rw[aJ q,aR (by rw[q'];exact nofun)] at e
   cases e
  ·rw[aJ q',aR (by rw[q];exact nofun)] at e
   cases e
  ·rw[aR (by rw[q];exact nofun),aR (by rw[q'];exact nofun)] at e;refine iF (C:=s.heap.objs.size) q fun c hc=>iF (C:=s.heap.objs.size) q' fun c' hc'=>?_;rw[hc,hc'] at e;have e':c=c':=by injection e
   clear e;subst e';exact name_of_addr X.apart (mem_of_lookup hc) (mem_of_lookup hc')
 sc:=fun x kd hx=> .inl hx
 ns:=by have ok:=eY fo.ok;show(dN fd.scope s.heap.objs.size fn.nm).length=fn.ns;unfold dN;rw[bT];exact ok.1.1.1
theorem aBQ{s c5:Shared}{m cm:Str->Option Value}(fo:cA P b5 k fn fd body)(X:InCallC s s.heap.objs.size m (cellsFrom (s.heap.objs.size+1) fd.scope.names []) cm c5){l:bF}(hl:l∈dN fd.scope s.heap.objs.size fn.nm):
  l.There c5.heap/\s.heap.objs.size<=l.addr:=by
 have ok:=eY fo.ok;unfold dN at hl;refine aP (eO.mp hl) fun x hx Q2=>?_;clear hl;subst Q2;rcases ok.2 x hx with q|q
 ·rw[aJ q];exact⟨⟨_,X.toInCall.ns⟩,eQ _⟩
 ·rw[aR (by rw[q];exact nofun)];refine iF (C:=s.heap.objs.size) q fun c hc=>?_;rw[hc];exact⟨⟨_,X.cell x c hc⟩,jM (X.above x c (mem_of_lookup hc))⟩
noncomputable abbrev wN(fn:Fn)(vs:List V):Sg:=vs.map some++List.replicate (fn.ns-fn.np) none
theorem Cr{vs:List V}{i:Nat}{v:V}(e:(wN fn vs).get i=some v):vs[i]?=some v:=by
 have e:=xA e fun x hx=>(List.mem_replicate.mp hx).2;unfold Sg.get at e;rw[eW] at e
 cases q:vs[i]? with
 |none=>rw[q] at e;exact(nn e).elim
 |some u=>rw[q] at e;exact e
theorem Cs{F:Fz}{s:Shared}{xs:List Value}{vs:List V}{fp:Nat->List Addr}{d6:Heap}{b8:List bF}(args:Args prog w P F s.heap xs vs fp)(hF:∀a o,F a=some o->s.heap.get? a=some o)(hnp:vs.length=fn.np)(hle:fn.np<=fn.ns)(hln:b8.length=fn.ns)
  (keep:∀b o,s.heap.get? b=some o->d6.get? b=some o) (new:∀l∈b8,l.There d6/\s.heap.objs.size<=l.addr) (slot:∀(i:Nat) (v:V),vs[i]?=some v->∃l x,b8[i]?=some l/\xs[i]?=some x/\l.At d6 x):
  Fi prog w P d6 F b8 (wN fn vs) fp:=by
 have hlt:∀{a:Addr},s.heap.objs.size<=a->s.heap.get? a=none:=fun h=>Heap.get?_none_of_le h;refine⟨?_,fun l hl=>(new l hl).1,fun i v e=>?_,fun i e=>?_,args.dj,fun i a ha=>⟨args.off i a ha,fun l hl q=>?_⟩,fun l hl=>?_⟩
 ·rw[dI,bT,List.length_replicate,hnp,hln];lia
 ·apply bc;intro Z;refine cJ (slot i v (Cr e)) fun l x h1 h2 h3=>aP (args.at_ i v (Cr e)) fun x' h4 h5=>?_;obtain rfl:=aK (h2.symm.trans h4);apply Z;clear Z;exact(dW l x h1 h3 (h5.mono (.refl F) fun a ha o e=>keep a o e))
 ·refine args.emp i ?_
  cases q:vs[i]? with
  |none=>rfl
  |some u=>
   have:(wN fn vs).get i=some u:=by unfold Sg.get;rw[sA (by rw[bT];exact(hZ.mp q).1),eW,q];rfl
   exact dL this e
 ·cases hv:vs[i]? with
  |none=>rw[args.emp i hv] at ha;cases ha
  |some v=>
   apply bc;intro Z;refine aP (args.at_ i v hv) fun x _ hr=>X1 (hr.there a ha) fun o ho=>?_;apply Z;clear Z;exact dL ho (q▸hlt (new l hl).2)
 ·exact Fz.none_of hF (hlt (new l hl).2)
def qT(vs:List V)(e9:Nat->List Addr)(i:Nat):List Addr:=((vs[i]?).map fun v=>bif v.isD then[] else e9 i).getD []
theorem Ja{vs:List V}{e9:Nat->List Addr}{i:Nat}{v:V}(e:vs[i]?=some v)(h:v.isD=true):qT vs e9 i=[]:=by unfold qT;rw[e,Option.map_some,h];rfl
theorem Jb{vs:List V}{e9:Nat->List Addr}{i:Nat}{v:V}(e:vs[i]?=some v)(h:v.isD=false):qT vs e9 i=e9 i:=by unfold qT;rw[e,Option.map_some,h];rfl
theorem Mk{vs:List V}{e9:Nat->List Addr}{i:Nat}{a:Addr}(h:a∈qT vs e9 i):a∈e9 i:=by
 cases e:vs[i]? with
 |none=>unfold qT at h;rw[e] at h;cases h
 |some v=>
  cases hD:v.isD with
  |true=>rw[Ja e hD] at h;cases h
  |false=>rwa [Jb e hD] at h
theorem Ct{F:Fz}{s s':Shared}{xs:List Value}{vs m7:List V}{fp:Nat->List Addr}{d6:Heap}{tk₁:Nat}{b8:List bF}{d7:Sg}{fl:Flow}{f:PySem.Flow}{b:Bool}{W:List Nat}(args:Args prog w P F s.heap xs vs fp)
  (keep:∀b o,s.heap.get? b=some o->d6.get? b=some o) (new:∀l∈b8,l.There d6/\s.heap.objs.size<=l.addr) (slot:∀(i:Nat) (v:V),vs[i]?=some v->∃l x,b8[i]?=some l/\xs[i]?=some x/\l.At d6 x)
  (hkr:gV W vs 0=true) (hp:lE k=true->b=false) (h:gJ prog w P b8 W b F fp {s with heap:=d6,toks:=tk₁} fl d7 f s') (e2:Ah vs d7=some m7):
  Oz prog w P k F fp s xs (match(generalizing:=false) fl with| .ret d=>d| .next=> .none) m7 (.ok (.ret (match(generalizing:=false) f with| .ret v=>v|_=> .none))) s':=by
 apply bc;intro Z;have hlt:∀{a:Addr},s.heap.objs.size<=a->s.heap.get? a=none:=fun h=>Heap.get?_none_of_le h;obtain⟨F',e9,g,kp,fr⟩:=h;have nL:∀{a:Addr} {o:Obj},s.heap.get? a=some o-> ¬AtL b8 a:=fun e ⟨l,hl,q⟩=>dL e (q▸hlt (new l hl).2);have al:=kA keep;refine cK (Zu e2) fun o1 o2=>?_;have fpm:∀{i a},a∈qT vs e9 i->a∈e9 i:=Mk;apply Z;clear Z;refine⟨_,F',qT vs e9,rfl,⟨g.mono,fun a o e m=>g.kept a o (keep a o e) (nL e) fun hb=>m ?_,fun a e=>al a (g.alive a e),g.fz,fun a q=>(g.fresh a q).imp id fun q=>q.imp id (al a),by have:=g.rest;rw[this]⟩,?_,
  ⟨args.len.trans o1.symm,fun i v' e=>?_,fun i e=>?_,fun i j a hi hj=>g.fi.dj i j a (fpm hi) (fpm hj),fun i a hi=>(g.fi.off i a (fpm hi)).1⟩,fun i a ha=>(g.sub i a (fpm ha)).imp id (al a)⟩
 ·cases hpf:lE k with
  |true=>rw[hp hpf] at hb;cases hb
  |false=>rfl
 ·cases fl with
  |next=>obtain rfl:f= .next:=fr;exact .none
  |ret d=>refine aP fr fun v Q1 rv=>?_;clear fr;subst Q1;exact rv
 ·apply bc;intro Z;refine aP (o2 i v' e) fun v hv h3=>cJ (slot i v hv) fun l x q1 q2 q3=>aP (args.at_ i v hv) fun x' h4 q4=>?_;obtain rfl:=aK (q2.symm.trans h4);apply Z;clear Z;refine(aH x q2 ?_)
  cases hD:v.isD with
  |true=>
   rw[hD] at h3;obtain rfl:=aK h3;rw[Ja hv hD]
   cases v with
   |d y=>exact⟨q4.1.mono g.mono,rfl⟩
   |_=>cases hD
  |false=>
   rw[hD] at h3;rw[Jb hv hD];apply bc;intro Z;refine cJ (g.fi.sl i v' h3) fun l' x' r1 r2 r3=>?_;obtain rfl:=aK (q1.symm.trans r1);have:=kp i l x (by have:=zB (j:=0) hkr hv hD;rwa [Nat.zero_add] at this) q1 q3;obtain rfl:=this.unique r2;apply Z;clear Z;exact r3
 ·unfold qT;rw[List.getElem?_eq_none (by rw[<-o1];exact List.getElem?_eq_none_iff.mp e)];rfl
theorem Tz(kn:Known prog w P K b5 T mg mb (4*k+3))(fo:cA P b5 k fn fd body)(hs:mZ prog w P b5 T n (dH k fn fd.scope) fn.body body)(hp:lE k=true->pW fn.body=true):qM prog w P b5 k (cU T n fn):=by
 intro A F s xs vs fp r m7 good hb hF args ev;apply bc;intro Z;obtain⟨⟨hnp,hkr⟩,ev⟩:=Eb ev;refine bG ev fun fl d7 e1 ev=>aO ev fun vs2 e2 e=>?_;obtain⟨rfl,rfl⟩:=eC e;have ok:=eY fo.ok;obtain⟨⟨⟨ok1,ok2⟩,ok3⟩,ok4⟩:=ok;have hbs:∀a o,b5.get? a=some o->s.heap.get? a=some o:=fun a o e=>hF a o (hb a o e);obtain⟨o,ho,hd⟩:=fo.obj;have hxs:xs.length=fn.np:=args.len.trans hnp;have hzn:((fn.nm.take fn.np).zip xs).map (·.1)=fn.nm.take fn.np:=by rw[List.map_fst_zip];rw[List.length_take];lia
 have hzm:∀{x:Str} {v:Value},(x,v)∈(fn.nm.take fn.np).zip xs->x∈fn.nm:=fun h=>List.mem_of_mem_take (List.of_mem_zip h).1;apply Z;clear Z;have ndz:(((fn.nm.take fn.np).zip xs).map (·.1)).Nodup:=by rw[hzn];exact List.Sublist.nodup (List.take_sublist _ _) ok3
 refine codeAny_call_cells (fd:=fd) (by have:=good.depth;show A.depth<1000;lia) (hbs _ _ ho) hd (kn.gl.nolimit.keeps hbs) (fo.code.keeps hbs) fo.body (fo.bind xs hxs) fo.clo (fun x hx=>?_) (fun c5 X=>?_) fo.co fo.gen fo.kind
 ·rcases ok4 x.1 (hzm hx) with q|q
  ·exact .inl q
  ·obtain⟨c,hc⟩:=yS (C:=s.heap.objs.size) q;exact .inr ⟨q,by rw[hc];rfl⟩
 ·apply bc;intro Z;have X':InCallC s s.heap.objs.size _ (cellsFrom (s.heap.objs.size+1) fd.scope.names []) _ c5:=X;have bl:=aDs (a:=P.fnAddr k) fo X';have keep:=X.toInCall.keep;obtain⟨d6,tk₁,rfl⟩:=X.toInCall.same;have slot:∀(i:Nat) (v:V),vs[i]?=some v->∃l x,(dN fd.scope s.heap.objs.size fn.nm)[i]?=some l/\xs[i]?=some x/\l.At d6 x:=fun i v hv=>by
   obtain⟨x,hx,hr⟩:=args.at_ i v hv;have hi:i<fn.np:=by rw[<-hnp];exact(hZ.mp hv).1
   obtain⟨y,hy⟩:∃y,fn.nm[i]?=some y:=⟨_,fL (by lia)⟩;have hm:(y,x)∈(fn.nm.take fn.np).zip xs:=by refine dT (i:=i) ?_;rw[List.getElem?_zip_eq_some];exact⟨by rw[List.getElem?_take_of_lt hi];exact hy,hx⟩
   refine(dW _ x (by unfold dN;rw[eW,hy];rfl) hx ?_);dsimp only;rcases ok4 y (dT hy) with q|q
   ·rw[aJ q];exact(aH _ X.toInCall.ns (Mi ndz hm q))
   ·rw[aR (by rw[q];exact nofun)];obtain⟨c,hc⟩:=yS (C:=s.heap.objs.size) q;rw[hc];have:=X.cell y c hc;rw[Mj ndz hm (by show fd.scope.names.lookup y≠_;rw[q];exact nofun)] at this;exact this
  have new:∀l∈dN fd.scope s.heap.objs.size fn.nm,l.There d6/\s.heap.objs.size<=l.addr:=fun l hl=>aBQ fo X' hl;have fi:=Cs args hF hnp ok2 bl.ns keep new slot;have p:Pre prog w P b5 (dH k fn fd.scope) (A.deeper (callEnvC fd s.heap.objs.size (P.fnAddr k))) (callEnvC fd s.heap.objs.size (P.fnAddr k)) (dN fd.scope s.heap.objs.size fn.nm) F (wN fn vs) fp {s with heap:=d6,toks:=tk₁}:=
   ⟨good.deep _,bl,hb,fun a o e=>keep a o (hF a o e),fi⟩
  apply Z;clear Z;refine Pa (bX (hs _ _ _ _ _ _ _ _ _ p e1) (fun f s' h'=>?_) fun _ _ x=>x);exact Ct args keep new slot hkr (fun q=>by rw[hp q];rfl) h' e2
end
theorem Gf{α:Type}:∀{l:List (Str×α)} {x:Str} {v:α},(l.map (·.1)).Nodup->(x,v)∈l->l.reverse.lookup x=some v:=by
 intro l x v nd h;have nd':(l.reverse.map (·.1)).Nodup:=by rw[List.map_reverse];exact List.pairwise_reverse.mpr (nd.imp fun h=>Ne.symm h)
 have h':(x,v)∈l.reverse:=List.mem_reverse.mpr h;generalize l.reverse=r at nd' h'
 induction r with
 |nil=>cases h'
 |cons q r ih=>
  obtain⟨y,u⟩:=q;have nd2:=List.nodup_cons.mp (show(y::r.map (·.1)).Nodup from nd');rw[List.lookup_cons];rcases iA.mp h' with e|h2
  ·cases e;simp
  ·have:(x==y)=false:=by
    rw[wT]
    rintro rfl
    exact nd2.1 (eO.mpr (aH (_,v) h2 rfl))
   rw[this];exact ih nd2.2 h2
section
variable {prog:Program}{w:World}{P:PS}{K:Frag}{b5:Heap}{T:Tab}{mg mb:Str->Option Value}{n k k2:Nat}{fn:Fn}{fd:FuncData}{st:Stmt}{rest:List Stmt}{A:Around}{env:Env}{s:Shared}
theorem wO{cd:Code}{o:Expr}{name:Str}{apos pos:Pos}{args:List Expr}{Q:Value->Shared->Prop}{E:Value->Shared->Prop}
  (hpl:args.all Expr.plain=true) (hn:args.length<30) (hline:(apos.endLine==pos.line)=true)
  (h:_root_.PySem.wpAt (model prog w) A cd (attributeBase o name env (eval o env)) (fun ov c5=>∀pl,wpAny (model prog w) A (getMethod ov name pl) (fun r c9=>wpAny (model prog w) A (callWith pos r.1 r.2 (backTo pos (starEach args env)) []) Q E c9) E c5) E s):
  _root_.PySem.wpAt (model prog w) A cd (eval (.Call (.Attribute o name apos) args [] pos) env) Q E s:=by
 rw[arm_eval_Call];refine _root_.PySem.wpAt_bind (ks_wpAt_mono h (fun ov c5 d6=>?_) fun _ _ e=>e);refine _root_.PySem.wpAt_of_wpAny (aG (wpAny_standAt ?_));have hform:methodCallForm (args.length+([]:List Keyword).length) (backTo pos (starEach args env)) (backToKw pos (keywordEach [] env))=true:=by show((backTo pos (starEach args env)).all (fun x=> !x.1)&&(backToKw pos (keywordEach [] env)).all (fun x=>x.1.isSome)&&decide (args.length+([]:List Keyword).length+(if([]:List Keyword).isEmpty then 0 else 1)<30))=true;rw[plain_all hpl];have hk:(backToKw pos (keywordEach [] env)).all (fun x=>x.1.isSome)=true:=rfl;rw[hk,iX (by simpa using hn)];rfl
 have hpos:methodCallPos true o env apos pos=pure pos:=by unfold methodCallPos;simp[hline]
 unfold methodCall;rw[hform];refine aG (jN ?_);show wpAny _ _ (getMethod ov name _) _ _ _;refine bX (d6 _) (fun r c9 i9=>?_) fun _ _ e=>e;exact aG (wpAny_of_eq hpos i9)
theorem Zv{B:Bk}{b8:List bF}{F:Fz}{σ d7:Sg}{fp:Nat->List Addr}(kn:Known prog w P K b5 T mg mb B.lt){f:Nat}(hf:4*(f+1)<=B.lt){as:List Arg}{ys:List Value}{vs m7:List V}{r:D}{Q:Result->Shared->Prop}(p:Pre prog w P b5 B A env b8 F σ fp s)(nd:(refsOf as).Nodup)(x:ArgsAt prog w b8 F s.heap σ as ys vs)
  (e:T.fn f vs=some (r,m7)) (hr:tW as vs m7 σ=some d7) (h:∀y F' e9 s',Go prog w P b8 true F fp s F' e9 s' d7->Q (.ok (.ret y)) s'):codeAny (model prog w) A (.call (.ref (P.fnAddr f)) ⟨ys,[]⟩) Q s:=by
 refine codeAny_mono (kn.fn f hf A F s ys vs (fJ as fp) r m7 (p.good.le hf) p.hb p.hF (x.args p.fi nd) e) fun res s' hh=>?_;obtain⟨y,F',e9,rfl,h1,h2,h3,h4⟩:=hh;exact h y _ _ s' (Go.back p.hF p.fi nd x hr (h1.up (fun _=>rfl) fun _ q=> .inl q) h3 h4)
noncomputable def aD7(v:V):Bool:=match v with| .inst c _=>Nat.beq c 1|_=>false
def aBR(k:List V->Option (D×List V))(vs:List V):Option (D×List V):=if(vs.head?.elim false aD7)=true then k vs else none
theorem Ua{k:List V->Option (D×List V)}{vs:List V}{r:D×List V}(h:aBR k vs=some r):∃a,vs[0]?=some (.inst 1 a)/\k vs=some r:=by
 refine aQ h fun h1 h2=>?_
 cases vs with
 |nil=>exact(eX h1).elim
 |cons v vr=>
  cases v with
  |inst c a=>clear h;obtain rfl:=fM h1;exact(aH a rfl h2)
  |_=>exact(eX h1).elim
theorem Zw{vs:List V}{i:Nat}{v:V}(h:vs[i]?=some v):(wN fn vs).get i=some v:=by unfold Sg.get;rw[sA (by rw[bT];exact(hZ.mp h).1),eW,h];rfl
theorem aBS{L a:Addr}(fo_glob:fd.globals=mainGlobals)(fo_blt:fd.builtins=builtinsNs)(fo_kind:fd.scope.kind= .function)(fo_ok:oQ fd.scope fn=true)(fo_hloc:∀x∈fn.nm,fd.scope.names.lookup x=some .local):Bl (dH k fn fd.scope) (callEnv fd L a) (fn.nm.map fun x=> .ns L x) where
 kind:=fo_kind
 glob:=fo_glob
 blt:=fo_blt
 res:=fun x i hx=>by have hi:=pI hx;exact(aH (.ns L x) (by rw[eW,hi];rfl) (cD rfl rfl (fo_hloc x (dT hi))))
 apart:=by have ok:=eY fo_ok;exact List.pairwise_map.mpr (ok.1.2.imp fun hne e=>hne (by injection e))
 sc:=fun x kd hx=> .inl hx
 ns:=by have ok:=eY fo_ok;show(fn.nm.map _).length=fn.ns;rw[bT];exact ok.1.1.1
theorem Ml(kn:Known prog w P K b5 T mg mb (4*k+3))(hk2:k2<k){o:Obj}(ho:b5.get? (P.fnAddr k)=some o)(hd:o.data= .func fd)(fo_body:fd.body= .stmts (st::rest))(fo_glob:fd.globals=mainGlobals)(fo_blt:fd.builtins=builtinsNs)(fo_code:b5.CodeRec fd.code fd.qualname)(fo_kind:fd.scope.kind= .function)(fo_co:fd.scope.isCoroutine=false)(fo_gen:fd.scope.isGenerator=false)
  (fo_bind:∀vals:List Value,vals.length=fn.np->bindArgs fd ⟨vals,[]⟩=pure ((fn.nm.take fn.np).zip vals)) (fo_ok:oQ fd.scope fn=true) (fo_hcell:∀x∈fd.scope.names,x.2≠ .cell) (fo_hloc:∀x∈fn.nm,fd.scope.names.lookup x=some .local) {ar:_} (hpar:(fd.params.posonlyargs++fd.params.args).head?=some ar) (hnm0:fn.nm[0]?=some ar.arg)
  {cc:Addr} {cl cld csl:_} (hclo:fd.closure=[(("__class__":Str),cc)]) (hcc:b5.get? cc=some ⟨cl,cld,.cell (some (.ref (P.clsAddr 1))),csl⟩) {cda:Addr} {ocd:Obj} {cvs:Array Value} {file:Str} {tf:Tok} (hcd1:fd.code= .ref cda) (hcd2:b5.get? cda=some ocd) (hcd3:ocd.data= .fields cvs) (hcd4:cvs[2]?=some (.str file tf)) (hcd5:((prog.main.file:Str)==file)=true)
  (fo_top:(prog.main.scope.names.lookup ("super":Str)).isSome=false) {cd:ClassData} {oD:Obj} (hcl1:K.lookup (P.clsAddr 1)=some oD) (hD2:oD.data= .cls cd) (hcls:clsIn K (P.clsAddr 1)=some cd) {lm:List Value} (hmro:cd.mro.dropWhile (· != .ref (P.clsAddr 1))= .ref (P.clsAddr 1)::lm) (halong:alongIn K "__init__" lm=some (some (.ref (P.fnAddr k2))))
  (fo_mro:mroIn K (P.clsAddr 1) (.ref (P.clsAddr 1))=some true) {of:Obj} (hof:b5.get? (P.fnAddr k2)=some of) (hofc:of.cls= .type "function") (fo_fnin:fnIn K (P.fnAddr k2)=true) (fo_third:nsIn K cStatics "thirdparty.any"=some none) (fo_msup:mg "super"=none) (fo_ksup:fd.scope.names.lookup ("super":Str)=some .globalImplicit) (fo_kcls:fd.scope.names.lookup ("__class__":Str)=some .free) {as:List Arg} {tl:List St} (hfn:fn.body= .expr (.sup k2 0 as)::tl) {p0 p1 ap cp pos:Pos} {Xs:List Expr}
  (hst:st= .Expr (.Call (.Attribute (.Call (.Name ("super":Str) p0) [] [] p1) ("__init__":Str) ap) Xs [] cp) pos) (hline:(ap.endLine==cp.line)=true) (hlen:Xs.length<25) (hpl:Xs.all Expr.plain=true) (nd:(0::refsOf as).Nodup)
  (has:pE prog w P b5 T (dH k fn fd.scope) as Xs) (hs:mZ prog w P b5 T n (dH k fn fd.scope) tl rest) (hpu:lE k=false):
  qM prog w P b5 k (aBR (cU T n fn)):=by
 intro A F s xs vs fp r m7 good hb hF args ev;apply bc;intro Z;refine aP (Ua ev) fun at0 hv0 ev=>aQ ev fun Q0 ev=>?_;obtain⟨hnp,hkr⟩:=Q0;refine bG ev fun fl d7 e1 ev=>aO ev fun vs2 e2 e=>cK (eC e) fun Q0 Q1=>?_;rename_i y0 y1 y2;clear ev y0 y1 y2;subst Q0;subst Q1;have ok:=eY fo_ok;refine cK ok fun Q0 ok4=>?_;obtain⟨⟨ok1,ok2⟩,ok3⟩:=Q0;have hbs:∀a o,b5.get? a=some o->s.heap.get? a=some o:=fun a o e=>hF a o (hb a o e);have hxs:xs.length=fn.np:=args.len.trans hnp;have hzn:((fn.nm.take fn.np).zip xs).map (·.1)=fn.nm.take fn.np:=by rw[List.map_fst_zip];rw[List.length_take];lia
 have hzm:∀{x:Str} {v:Value},(x,v)∈(fn.nm.take fn.np).zip xs->x∈fn.nm:=fun h=>List.mem_of_mem_take (List.of_mem_zip h).1;apply Z;clear Z;have ndz:(((fn.nm.take fn.np).zip xs).map (·.1)).Nodup:=by rw[hzn];exact List.Sublist.nodup (List.take_sublist _ _) ok3
 refine ks_codeAny_call_defAt (fd:=fd) (body:=st::rest) (binds:=(fn.nm.take fn.np).zip xs) (by have:=good.depth;show A.depth<1000;lia) (hbs _ _ ho) hd (kn.gl.nolimit.keeps hbs) (fo_code.keeps hbs) fo_body (BindsTo.of_eq (fo_bind xs hxs)) fo_hcell
  (fun x hx=>fo_hloc _ (hzm hx)) (fun d6 hns keep=>?_) fo_co fo_gen fo_kind
 have bl:=aBS (k:=k) (L:=s.heap.objs.size) (a:=P.fnAddr k) fo_glob fo_blt fo_kind fo_ok fo_hloc;have slot:∀(i:Nat) (v:V),vs[i]?=some v->∃l x,(fn.nm.map fun x=>bF.ns s.heap.objs.size x)[i]?=some l/\xs[i]?=some x/\l.At d6 x:=fun i v hv=>by
  apply bc;intro Z;refine aP (args.at_ i v hv) fun x hx hr=>?_;apply Z;clear Z;have hi:i<fn.np:=by rw[<-hnp];exact(hZ.mp hv).1
  obtain⟨y,hy⟩:∃y,fn.nm[i]?=some y:=⟨_,fL (by lia)⟩;have hm:(y,x)∈(fn.nm.take fn.np).zip xs:=by refine dT (i:=i) ?_;rw[List.getElem?_zip_eq_some];exact⟨by rw[List.getElem?_take_of_lt hi];exact hy,hx⟩
  exact(dW (.ns s.heap.objs.size y) x (by rw[eW,hy];rfl) hx (aH _ hns (Gf ndz hm)))
 have new:∀l∈fn.nm.map (fun x=>bF.ns s.heap.objs.size x),l.There d6/\s.heap.objs.size<=l.addr:=fun l hl=>by apply bc;intro Z;refine aP (eO.mp hl) fun x _ Q2=>?_;clear hl;subst Q2;apply Z;clear Z;exact⟨⟨_,hns⟩,eQ _⟩
 have fi:=Cs args hF hnp ok2 bl.ns keep new slot;have p:Pre prog w P b5 (dH k fn fd.scope) (A.deeper (callEnv fd s.heap.objs.size (P.fnAddr k))) (callEnv fd s.heap.objs.size (P.fnAddr k)) (fn.nm.map fun x=>bF.ns s.heap.objs.size x) F (wN fn vs) fp {s with heap:=d6,toks:=s.toks+((fn.nm.take fn.np).zip xs).length}:=
  ⟨good.deep _,bl,hb,fun a o e=>keep a o (hF a o e),fi⟩
 generalize htk:s.toks+((fn.nm.take fn.np).zip xs).length=tk₁ at*;apply bc;intro Z;rw[hfn] at e1;refine bG (show b2 (evS T n (.expr (.sup k2 0 as)) (wN fn vs)) (fun fl b9=>nx fl b9 (dC T n tl))=_ from e1) fun fl0 σ2 e3 e1=>bE (yJ.symm.trans e3) fun d0 σ3 e4 e3=>aU (Eb e3).2 fun Q0 Q1=>?_;rename_i y0;clear e3 y0;subst Q0;subst Q1;refine bG (show b2 (pR T as (wN fn vs)) _=_ from e4) fun us σ4 e5 e4=>bN e4 fun v1 e6 e4=>bG e4 fun r1 us' e7 e4=>aO e4 fun σ5 e8 e=>?_;obtain rfl:=(eC e).2;have e1:dC T n tl σ5=some (fl,d7):=e1;apply Z;clear Z;apply bc;intro Z;have hσ0:(wN fn vs).get 0=some (.inst 1 at0):=Zw hv0;refine cJ (slot 0 _ hv0) fun l0 y0 hl0 hy0 hat0=>cJ (fi.sl 0 _ hσ0) fun l0' y0' q1 q2 hr0=>?_;rw[hl0] at q1;cases q1;obtain rfl:=hat0.unique q2;obtain⟨yy,dd,es,m,n5,hini,rfl,hyy,hdd,ra,hfp,ndd⟩:=id hr0;have X:K.In d6:=kn.gl.inK.keeps fun a o e=>keep a o (hbs a o e);have hyy1:d6.get? yy=some (instObj (P.clsAddr 1) dd):=keep _ _ (hF _ _ hyy);have hlL:l0= .ns s.heap.objs.size ar.arg:=by rw[eW,hnm0] at hl0;exact(aK hl0).symm
 clear q2;subst hlL;have hD1:=X _ _ hcl1;apply Z;clear Z;refine ks_wpAt_mono (Q:=fun f s'=>gJ prog w P (fn.nm.map fun x=>bF.ns s.heap.objs.size x) (kI fn.body) true F fp {s with heap:=d6,toks:=tk₁} fl d7 f s') (E:=NoE) ?_ (fun f s' h'=>Ct args keep new slot hkr (fun q=>by rw[hpu] at q;cases q) h' e2) (fun _ _ x=>x.elim);refine ks_wpAt_execs_cons ?_;rw[hst];refine ks_wpAt_Expr_any ?_ (by unfold interactive;rw[p.bl.kind];rfl) rfl;refine wO hpl (by lia) hline ?_;refine ks_wpAt_super_base (env:=callEnv fd s.heap.objs.size (P.fnAddr k)) (f:=P.fnAddr k) fo_ksup fo_kcls rfl rfl (keep _ _ (hbs _ _ ho)) hd hpar hcd1 (keep _ _ (hbs _ _ hcd2)) hcd3 hcd4 hcd5 fo_top ?_;refine ks_loadName_global fo_kind fo_ksup (Calls.loadGlobal_builtin (env:=callEnv fd s.heap.objs.size (P.fnAddr k)) (by show Heap.Ns _ fd.globals _;rw[fo_glob];exact kn.gl.g.keeps p.keeps) fo_msup (by show Heap.Ns _ fd.builtins _;rw[fo_blt];exact kn.gl.b.keeps p.keeps) ((kn.gl.builtins _ (by decide+kernel)).trans (show bootBuiltins "super"=some (.type "super") from(by first|boot_by_name|rfl|kernel_rfl))) ⟨rfl,?_⟩);refine wpAny_loadName_free fo_kind fo_kcls (c:=cc) (by show List.lookup _ fd.closure=_;rw[hclo];rfl) (aH _ (keep _ _ (hbs _ _ hcc)) rfl) ?_;apply bc;intro Z;refine aP hat0 fun mm hmm hmx=>?_;apply Z;clear Z;refine wpAny_loadName_local fo_kind (fo_hloc _ (dT hnm0)) hmm hmx ?_;refine ks_wpAny_isType_cls hD1 hD2 ⟨rfl,?_⟩;refine ks_wpAny_call_super hD1 hD2 hyy1 rfl (fun c e=>by cases e) (looks_mroIn X fo_mro) (fun i9 hso k₂ plq=>?_);apply bc;intro Z;have hyC:yy≠P.clsAddr 1:=fun q=>by rw[q,hD1] at hyy1;have:=bU Obj.data (aK hyy1);rw[hD2] at this;cases this
 have X2:K.In i9:=X.keeps k₂;apply Z;clear Z;refine ks_wpAny_getMethod_super hso (looks_opaque X2 fo_third) (l₀:=cd.mro) (fun A' Q' E' s' kk q=>aG ((looks_clsIn X2 hcls) A' _ E' s' kk (aY q))) (l:=lm) (by rw[hmro];rfl) X2 halong (k₂ _ _ (keep _ _ (hbs _ _ hof))) hofc hyC rfl ?_;have g0:Go prog w P (fn.nm.map fun x=>bF.ns s.heap.objs.size x) true F fp {s with heap:=d6,toks:=tk₁} F fp {s with heap:=i9.push {cls:= .type "method",data:= .fields #[.ref (P.fnAddr k2),.ref yy]},toks:=tk₁+1} (wN fn vs):=
  Go.keep (s:={s with heap:=d6,toks:=tk₁}) p.hF fi fun a o e=>bM _ (k₂ a o e)
 have pb:=p.next g0;have hM:MethP K i9.objs.size (P.fnAddr k2) (.ref yy) (i9.push {cls:= .type "method",data:= .fields #[.ref (P.fnAddr k2),.ref yy]}):=⟨dQ _ rfl,X2.keeps fun a o e=>bM _ e⟩;refine callWith_of (P:=MethP K i9.objs.size (P.fnAddr k2) (.ref yy)) (by rw[plain_any hpl];rfl) (keeps_M fo_fnin) (mN hpl (bX (has _ _ _ _ _ _ _ _ _ cp pb e5) (fun ys g8 h3=>?_) fun _ _ x=>x.elim));apply bc;intro Z;obtain⟨i7,i8,g3,r3⟩:=h3;have hM3:g8.heap.get? i9.objs.size=some (methodObj (.ref (P.fnAddr k2)) (.ref yy)):=g3.keepAll _ _ hM.1;apply Z;clear Z;refine⟨⟨hM3,(pb.next g3).keeps|>kn.gl.inK.keeps⟩,wpAny_call (ks_codeAny_call_bound hM3 ?_)⟩;have p3:=pb.next g3;have x3:ArgsAt prog w (fn.nm.map fun x=>bF.ns s.heap.objs.size x) i7 g8.heap σ4 (.r 0::as) (.ref yy::ys) (v1::us):=by refine .r hl0 ?_ e6 r3;have hy1:(bF.ns s.heap.objs.size ar.arg).At d6 (.ref yy):=(aH mm hmm hmx);have hy2:(bF.ns s.heap.objs.size ar.arg).At (i9.push {cls:= .type "method",data:= .fields #[.ref (P.fnAddr k2),.ref yy]}) (.ref yy):=hy1.keep fun o e=>bM _ (k₂ _ _ e);exact hy2.keep fun o e=>g3.keepAll _ _ e
 refine Zv (as:= .r 0::as) kn (by show 4*(k2+1)<=4*k+3;lia) p3 nd x3 e7 e8 fun y F₄ fp₄ s4 g4=>?_;have gA:=(g0.trans (g3.up (b':=true) fun _=>rfl)).trans g4;have p4:=p.next gA;refine _root_.PySem.wpAt_of_wpAny (bX (hs _ _ _ _ _ _ _ _ _ p4 e1) (fun f s5 h5=>?_) fun _ _ x=>x);exact gJ.after (p.toL gA) (p.kp gA) (h5.up fun _=>rfl) fun i hi=>by rw[hfn];exact dF.mpr (.inr hi)
end
def PP:PS:={fnAddr:=fun i=>aDX.getD i 0,clsAddr:=fun c=>if c=0 then 251 else 392,attrName:=fun i=>Kf.getD i (Str.ofString ""),na:=17,methName:=fun i=>Kg.getD i (Str.ofString ""),fnName:=Hq,clsName:=Ai,glName:=[(Str.ofString "_law_firsts",0)],me:=Hp,ini:=rI}
noncomputable def gl0:D:= .list [.tuple [.tuple [.int 1,.int 3]],.tuple [.tuple [.int 0,.int 3]],.tuple [.tuple [.int 1,.int 4]],.tuple [.tuple [.int 1,.int 1],.tuple [.int 3,.int 3]]]
def ent(T:Tab)(k:Nat):List V->Option (D×List V):=match aBi[k]? with
 |some g=>if k=21 then aBR (cU T 1000 g) else cU T 1000 g
 |none=>fun _=>none
def fnOf:Nat->Nat->List V->Option (D×List V)
 |0,_=>fun _=>none
 |k+1,f=>if f<k then fnOf k f else if f=k then ent {gl:=fun g=>if g=0 then some gl0 else none,fn:=fnOf k,me:=Hp,ini:=rI} k else fun _=>none
def aD(k:Nat):Tab:={gl:=fun g=>if g=0 then some gl0 else none,fn:=fnOf k,me:=Hp,ini:=rI}
theorem Ub{k f:Nat}(h:f<k):(aD (k+1)).fn f=(aD k).fn f:=by show fnOf (k+1) f=fnOf k f;exact aJ h
theorem Uc(k:Nat):(aD (k+1)).fn k=ent (aD k) k:=by show fnOf (k+1) k=_;exact(aR (jL k)).trans (aJ rfl)
noncomputable def dFn(d:Data):Option FuncData:=if h:d.ctorIdx=7 then Data.func.elim (motive:=fun _=>Option FuncData) d h some else none
theorem Zx{d:Data}{fd:FuncData}(h:dFn d=some fd):d= .func fd:=
 if hi:d.ctorIdx=7 then Data.func.elim (motive:=fun d=>dFn d=some fd->d= .func fd) d hi (fun f h=>bU Data.func (aK h)) h else(nn ((dif_neg hi).symm.trans h)).elim
noncomputable def dFl(d:Data):Option (Array Value):=if h:d.ctorIdx=9 then Data.fields.elim (motive:=fun _=>Option (Array Value)) d h some else none
theorem Zy{d:Data}{fd:Array Value}(h:dFl d=some fd):d= .fields fd:=
 if hi:d.ctorIdx=9 then Data.fields.elim (motive:=fun d=>dFl d=some fd->d= .fields fd) d hi (fun f h=>bU Data.fields (aK h)) h else(nn ((dif_neg hi).symm.trans h)).elim
noncomputable def Ud(d:Value):Option Str:=if h:d.ctorIdx=6 then Value.str.elim (motive:=fun _=>Option Str) d h (fun s _=>some s) else none
theorem Mm{d:Value}{s:Str}(h:Ud d=some s):∃t,d= .str s t:=
 if hi:d.ctorIdx=6 then Value.str.elim (motive:=fun d=>Ud d=some s->∃t,d= .str s t) d hi (fun f t h=>⟨t,bU (Value.str · t) (aK h)⟩) h else(nn ((dif_neg hi).symm.trans h)).elim
def aBT(K:Frag)(a:Addr):Option FuncData:=(K.lookup a).bind fun o=>dFn o.data
theorem Gg{K:Frag}{b5:Heap}{a:Addr}{fd:FuncData}(X:K.In b5)(h:aBT K a=some fd):∃o,b5.get? a=some o/\o.data= .func fd:=by refine bN h fun o ho h=>?_;exact(aH o (X _ _ ho) (Zx h))
def codeIn(K:Frag)(a:Addr):Option Str:=(K.lookup a).bind fun o=>(dFl o.data).bind fun vs=>(vs[1]?).bind Ud
theorem aZ{K:Frag}{b5:Heap}{a:Addr}{q:Str}(X:K.In b5)(h:codeIn K a=some q):b5.CodeRec (.ref a) q:=by refine bN h fun o ho h=>bN h fun vs hd h=>bN h fun v hv h=>X1 (Mm h) fun t Q1=>?_;clear h;subst Q1;exact(aDU a o vs t rfl (X _ _ ho) (Zy hd) hv)
theorem bd0{p:List Value->Prop}(h:p []):∀l,l.length=0->p l:=fun l hv=>by cases l with|nil=>exact h|cons a l=>cases hv
theorem bdS{n:Nat}{p:List Value->Prop}(h:∀a,∀l,l.length=n->p (a::l)):∀l,l.length=n+1->p l:=fun l hv=>by cases l with|nil=>cases hv|cons a l=>exact h a l (Nat.succ.inj hv)
section
variable {P:Params}{b5:Heap}
theorem foM{k:Nat}{fn:Fn}{fd:FuncData}{body:List Stmt}(X:(KK P).In b5)(obj:aBT (KK P) (PP.fnAddr k)=some fd)(bo:fd.body= .stmts body)(clo:fd.closure=[])(glob:fd.globals=mainGlobals)(blt:fd.builtins=builtinsNs)(code:b5.CodeRec fd.code fd.qualname)
  (bind:∀vals:List Value,vals.length=fn.np->bindArgs fd ⟨vals,[]⟩=pure ((fn.nm.take fn.np).zip vals)) (h:(decide (fd.scope.kind= .function)&&(!fd.scope.isCoroutine&&(!fd.scope.isGenerator&&oQ fd.scope fn)))=true):cA PP b5 k fn fd body:=
 aS h fun h1 h=>aS h fun h2 h=>aS h fun h3 h=>⟨Gg X obj,bo,clo,glob,blt,code,lO h1,(Bool.not_eq_true' _).mp h2,(Bool.not_eq_true' _).mp h3,bind,h⟩
theorem fo0(X:(KK P).In b5):cA PP b5 0 f0 (fD (bB 4) "next_from" "next_from" [] .none "fdsolve.domains" 194 41) (bB 4).2.1:=foM X (by kernel_rfl) rfl rfl rfl rfl (aZ X (by kernel_rfl)) (bdS fun _=>bdS fun _=>bd0 (by kernel_rfl)) (by kernel_rfl)
theorem fo1(X:(KK P).In b5):cA PP b5 1 f1 (fD (bB 5) "has" "has" [] .none "fdsolve.domains" 194 48) (bB 5).2.1:=foM X (by kernel_rfl) rfl rfl rfl rfl (aZ X (by kernel_rfl)) (bdS fun _=>bdS fun _=>bd0 (by kernel_rfl)) (by kernel_rfl)
theorem fo2(X:(KK P).In b5):cA PP b5 2 f2 (fD (bB 7) "values" "values" [] .none "fdsolve.domains" 194 55) (bB 7).2.1:=foM X (by kernel_rfl) rfl rfl rfl rfl (aZ X (by kernel_rfl)) (bdS fun _=>bd0 (by kernel_rfl)) (by kernel_rfl)
theorem fo3(X:(KK P).In b5):cA PP b5 3 f3 (fD (bB 8) "up_to" "up_to" [] .none "fdsolve.domains" 194 60) (bB 8).2.1:=foM X (by kernel_rfl) rfl rfl rfl rfl (aZ X (by kernel_rfl)) (bdS fun _=>bdS fun _=>bd0 (by kernel_rfl)) (by kernel_rfl)
theorem fo4(X:(KK P).In b5):cA PP b5 4 f4 (fD (bB 9) "from_on" "from_on" [] .none "fdsolve.domains" 194 65) (bB 9).2.1:=foM X (by kernel_rfl) rfl rfl rfl rfl (aZ X (by kernel_rfl)) (bdS fun _=>bdS fun _=>bd0 (by kernel_rfl)) (by kernel_rfl)
theorem fo5(X:(KK P).In b5):cA PP b5 5 f5 (fD (bB 10) "without" "without" [] .none "fdsolve.domains" 194 72) (bB 10).2.1:=foM X (by kernel_rfl) rfl rfl rfl rfl (aZ X (by kernel_rfl)) (bdS fun _=>bdS fun _=>bd0 (by kernel_rfl)) (by kernel_rfl)
theorem fo6(X:(KK P).In b5):cA PP b5 6 f6 (fD (bB 11) "meet" "meet" [] .none "fdsolve.domains" 194 79) (bB 11).2.1:=foM X (by kernel_rfl) rfl rfl rfl rfl (aZ X (by kernel_rfl)) (bdS fun _=>bdS fun _=>bd0 (by kernel_rfl)) (by kernel_rfl)
theorem fo7(X:(KK P).In b5):cA PP b5 7 f7 (fD (bB 12) "negation" "negation" [] .none "fdsolve.domains" 194 86) (bB 12).2.1:=foM X (by kernel_rfl) rfl rfl rfl rfl (aZ X (by kernel_rfl)) (bdS fun _=>bd0 (by kernel_rfl)) (by kernel_rfl)
theorem fo8(X:(KK P).In b5):cA PP b5 8 f8 (fD (bB 13) "struck" "struck" [] .none "fdsolve.domains" 194 93) (bB 13).2.1:=foM X (by kernel_rfl) rfl rfl rfl rfl (aZ X (by kernel_rfl)) (bdS fun _=>bdS fun _=>bd0 (by kernel_rfl)) (by kernel_rfl)
theorem fo9(X:(KK P).In b5):cA PP b5 9 f9 (fD (aX 16 0) "__init__" "Store.__init__" [] .none "fdsolve.store" 301 114) (aX 16 0).2.1:=foM X (by kernel_rfl) rfl rfl rfl rfl (aZ X (by kernel_rfl)) (bdS fun _=>bd0 (by kernel_rfl)) (by kernel_rfl)
theorem aD8(X:(KK P).In b5):cA PP b5 10 f10 (fD (aX 16 15) "fail" "Store.fail" [] .none "fdsolve.store" 301 219) (aX 16 15).2.1:=foM X (by kernel_rfl) rfl rfl rfl rfl (aZ X (by kernel_rfl)) (bdS fun _=>bdS fun _=>bd0 (by kernel_rfl)) (by kernel_rfl)
theorem aD9(X:(KK P).In b5):cA PP b5 11 f11 (fD (aX 16 1) "new_var" "Store.new_var" [] .none "fdsolve.store" 301 121) (aX 16 1).2.1:=foM X (by kernel_rfl) rfl rfl rfl rfl (aZ X (by kernel_rfl)) (bdS fun _=>bdS fun _=>bd0 (by kernel_rfl)) (by kernel_rfl)
theorem aEa(X:(KK P).In b5):cA PP b5 12 f12 (fD (aX 16 2) "size" "Store.size" [] .none "fdsolve.store" 301 128) (aX 16 2).2.1:=foM X (by kernel_rfl) rfl rfl rfl rfl (aZ X (by kernel_rfl)) (bdS fun _=>bd0 (by kernel_rfl)) (by kernel_rfl)
theorem aEb(X:(KK P).In b5):cA PP b5 13 f13 (fD (aX 16 3) "dom" "Store.dom" [] .none "fdsolve.store" 301 135) (aX 16 3).2.1:=foM X (by kernel_rfl) rfl rfl rfl rfl (aZ X (by kernel_rfl)) (bdS fun _=>bdS fun _=>bd0 (by kernel_rfl)) (by kernel_rfl)
theorem aEc(X:(KK P).In b5):cA PP b5 14 f14 (fD (aX 16 4) "initial" "Store.initial" [] .none "fdsolve.store" 301 142) (aX 16 4).2.1:=foM X (by kernel_rfl) rfl rfl rfl rfl (aZ X (by kernel_rfl)) (bdS fun _=>bdS fun _=>bd0 (by kernel_rfl)) (by kernel_rfl)
theorem aEd(X:(KK P).In b5):cA PP b5 15 f15 (fD (aX 16 12) "enter" "Store.enter" [] .none "fdsolve.store" 301 198) (aX 16 12).2.1:=foM X (by kernel_rfl) rfl rfl rfl rfl (aZ X (by kernel_rfl)) (bdS fun _=>bdS fun _=>bdS fun _=>bdS fun _=>bd0 (by kernel_rfl)) (by kernel_rfl)
theorem aEe(X:(KK P).In b5):cA PP b5 16 f16 (fD (aX 16 13) "strike" "Store.strike" [] .none "fdsolve.store" 301 205) (aX 16 13).2.1:=foM X (by kernel_rfl) rfl rfl rfl rfl (aZ X (by kernel_rfl)) (bdS fun _=>bdS fun _=>bdS fun _=>bd0 (by kernel_rfl)) (by kernel_rfl)
theorem aEf(X:(KK P).In b5):cA PP b5 17 f17 (fD (aX 16 14) "decide" "Store.decide" [] .none "fdsolve.store" 301 212) (aX 16 14).2.1:=foM X (by kernel_rfl) rfl rfl rfl rfl (aZ X (by kernel_rfl)) (bdS fun _=>bdS fun _=>bd0 (by kernel_rfl)) (by kernel_rfl)
theorem aEg(X:(KK P).In b5):cA PP b5 18 f18 (fD (aX 16 16) "push" "Store.push" [] .none "fdsolve.store" 301 226) (aX 16 16).2.1:=foM X (by kernel_rfl) rfl rfl rfl rfl (aZ X (by kernel_rfl)) (bdS fun _=>bd0 (by kernel_rfl)) (by kernel_rfl)
theorem aEh(X:(KK P).In b5):cA PP b5 19 f19 (fD (aX 16 17) "pop" "Store.pop" [] .none "fdsolve.store" 301 233) (aX 16 17).2.1:=foM X (by kernel_rfl) rfl rfl rfl rfl (aZ X (by kernel_rfl)) (bdS fun _=>bdS fun _=>bd0 (by kernel_rfl)) (by kernel_rfl)
theorem aEi(X:(KK P).In b5):cA PP b5 20 f20 (fD (aX 17 0) "__init__" "Propagator.__init__" [] .none "fdsolve.store" 301 268) (aX 17 0).2.1:=foM X (by kernel_rfl) rfl rfl rfl rfl (aZ X (by kernel_rfl)) (bdS fun _=>bdS fun _=>bdS fun _=>bd0 (by kernel_rfl)) (by kernel_rfl)
theorem aEj(X:(KK P).In b5):cA PP b5 22 f22 (fD (aX 19 3) "reached_of" "Regular.reached_of" [] .none "fdsolve.regular" 550 331) (aX 19 3).2.1:=foM X (by kernel_rfl) rfl rfl rfl rfl (aZ X (by kernel_rfl)) (bdS fun _=>bdS fun _=>bd0 (by kernel_rfl)) (by kernel_rfl)
theorem aEk(X:(KK P).In b5):cA PP b5 23 f23 (fD (aX 19 4) "alive_of" "Regular.alive_of" [] .none "fdsolve.regular" 550 336) (aX 19 4).2.1:=foM X (by kernel_rfl) rfl rfl rfl rfl (aZ X (by kernel_rfl)) (bdS fun _=>bdS fun _=>bd0 (by kernel_rfl)) (by kernel_rfl)
theorem aEl(X:(KK P).In b5):cA PP b5 24 f24 (fD (aX 19 5) "note_dead" "Regular.note_dead" [] .none "fdsolve.regular" 550 343) (aX 19 5).2.1:=foM X (by kernel_rfl) rfl rfl rfl rfl (aZ X (by kernel_rfl)) (bdS fun _=>bdS fun _=>bdS fun _=>bdS fun _=>bdS fun _=>bdS fun _=>bd0 (by kernel_rfl)) (by kernel_rfl)
theorem aEm(X:(KK P).In b5):cA PP b5 25 f25 (fD (aX 19 6) "note_unreached" "Regular.note_unreached" [] .none "fdsolve.regular" 550 350) (aX 19 6).2.1:=foM X (by kernel_rfl) rfl rfl rfl rfl (aZ X (by kernel_rfl)) (bdS fun _=>bdS fun _=>bdS fun _=>bdS fun _=>bdS fun _=>bd0 (by kernel_rfl)) (by kernel_rfl)
theorem aEn(X:(KK P).In b5):cA PP b5 26 f26 (fD (aX 19 7) "reasons_of" "Regular.reasons_of" [] .none "fdsolve.regular" 550 355) (aX 19 7).2.1:=foM X (by kernel_rfl) rfl rfl rfl rfl (aZ X (by kernel_rfl)) (bdS fun _=>bdS fun _=>bdS fun _=>bd0 (by kernel_rfl)) (by kernel_rfl)
theorem aEo(X:(KK P).In b5):cA PP b5 27 f27 (fD (aX 19 8) "why_not" "Regular.why_not" [] .none "fdsolve.regular" 550 362) (aX 19 8).2.1:=foM X (by kernel_rfl) rfl rfl rfl rfl (aZ X (by kernel_rfl)) (bdS fun _=>bdS fun _=>bdS fun _=>bdS fun _=>bdS fun _=>bdS fun _=>bdS fun _=>bd0 (by kernel_rfl)) (by kernel_rfl)
theorem aEp(X:(KK P).In b5):cA PP b5 28 f28 (fD (aX 19 9) "has_support" "Regular.has_support" [] .none "fdsolve.regular" 550 369) (aX 19 9).2.1:=foM X (by kernel_rfl) rfl rfl rfl rfl (aZ X (by kernel_rfl)) (bdS fun _=>bdS fun _=>bdS fun _=>bdS fun _=>bdS fun _=>bd0 (by kernel_rfl)) (by kernel_rfl)
theorem aEq(X:(KK P).In b5):cA PP b5 29 f29 (fD (aX 19 10) "keep_letters" "Regular.keep_letters" [] .none "fdsolve.regular" 550 376) (aX 19 10).2.1:=foM X (by kernel_rfl) rfl rfl rfl rfl (aZ X (by kernel_rfl)) (bdS fun _=>bdS fun _=>bd0 (by kernel_rfl)) (by kernel_rfl)
theorem aEr(X:(KK P).In b5):cA PP b5 30 f30 (fD (aX 19 11) "strike_round" "Regular.strike_round" [] .none "fdsolve.regular" 550 381) (aX 19 11).2.1:=foM X (by kernel_rfl) rfl rfl rfl rfl (aZ X (by kernel_rfl)) (bdS fun _=>bdS fun _=>bd0 (by kernel_rfl)) (by kernel_rfl)
theorem aEs(X:(KK P).In b5):cA PP b5 31 f31 (fD (aX 19 12) "propagate" "Regular.propagate" [] .none "fdsolve.regular" 550 388) (aX 19 12).2.1:=foM X (by kernel_rfl) rfl rfl rfl rfl (aZ X (by kernel_rfl)) (bdS fun _=>bdS fun _=>bd0 (by kernel_rfl)) (by kernel_rfl)
theorem aEt(X:(KK P).In b5):cA PP b5 32 f32 (fD (bB 22) "_law_dip" "_law_dip" [] .none "law_pc0048_01" 708 410) (bB 22).2.1:=foM X (by kernel_rfl) rfl rfl rfl rfl (aZ X (by kernel_rfl)) (bdS fun _=>bdS fun _=>bd0 (by kernel_rfl)) (by kernel_rfl)
theorem aEu(X:(KK P).In b5):cA PP b5 33 f33 (fD (bB 23) "_law_words" "_law_words" [] .none "law_pc0048_01" 708 415) (bB 23).2.1:=foM X (by kernel_rfl) rfl rfl rfl rfl (aZ X (by kernel_rfl)) (bdS fun _=>bdS fun _=>bdS fun _=>bdS fun _=>bd0 (by kernel_rfl)) (by kernel_rfl)
theorem aEv(X:(KK P).In b5):cA PP b5 34 f34 (fD (bB 24) "_law_lets" "_law_lets" [] .none "law_pc0048_01" 708 422) (bB 24).2.1:=foM X (by kernel_rfl) rfl rfl rfl rfl (aZ X (by kernel_rfl)) (bdS fun _=>bdS fun _=>bd0 (by kernel_rfl)) (by kernel_rfl)
theorem aEw(X:(KK P).In b5):cA PP b5 35 f35 (fD (bB 25) "_law_are_true" "_law_are_true" [] .none "law_pc0048_01" 708 427) (bB 25).2.1:=foM X (by kernel_rfl) rfl rfl rfl rfl (aZ X (by kernel_rfl)) (bdS fun _=>bdS fun _=>bd0 (by kernel_rfl)) (by kernel_rfl)
theorem aEx(X:(KK P).In b5):cA PP b5 36 f36 (fD (bB 26) "_law_let_by" "_law_let_by" [] .none "law_pc0048_01" 708 432) (bB 26).2.1:=foM X (by kernel_rfl) rfl rfl rfl rfl (aZ X (by kernel_rfl)) (bdS fun _=>bdS fun _=>bdS fun _=>bd0 (by kernel_rfl)) (by kernel_rfl)
theorem aEy(X:(KK P).In b5):cA PP b5 37 f37 (fD (bB 27) "_law_left" "_law_left" [] .none "law_pc0048_01" 708 437) (bB 27).2.1:=foM X (by kernel_rfl) rfl rfl rfl rfl (aZ X (by kernel_rfl)) (bdS fun _=>bdS fun _=>bdS fun _=>bd0 (by kernel_rfl)) (by kernel_rfl)
theorem aEz(X:(KK P).In b5):cA PP b5 38 f38 (fD (bB 28) "_law_seen" "_law_seen" [] .none "law_pc0048_01" 708 442) (bB 28).2.1:=foM X (by kernel_rfl) rfl rfl rfl rfl (aZ X (by kernel_rfl)) (bdS fun _=>bd0 (by kernel_rfl)) (by kernel_rfl)
theorem aEA(X:(KK P).In b5):cA PP b5 39 f39 (fD (bB 29) "_law_are_followed" "_law_are_followed" [] .none "law_pc0048_01" 708 447) (bB 29).2.1:=foM X (by kernel_rfl) rfl rfl rfl rfl (aZ X (by kernel_rfl)) (bdS fun _=>bdS fun _=>bdS fun _=>bdS fun _=>bdS fun _=>bd0 (by kernel_rfl)) (by kernel_rfl)
theorem aEB(X:(KK P).In b5):cA PP b5 40 f40 (fD (bB 30) "_law_asked" "_law_asked" [] .none "law_pc0048_01" 708 454) (bB 30).2.1:=foM X (by kernel_rfl) rfl rfl rfl rfl (aZ X (by kernel_rfl)) (bdS fun _=>bdS fun _=>bdS fun _=>bdS fun _=>bd0 (by kernel_rfl)) (by kernel_rfl)
theorem aEC(X:(KK P).In b5):cA PP b5 41 f41 (fD (bB 31) "_law_decided" "_law_decided" [] .none "law_pc0048_01" 708 461) (bB 31).2.1:=foM X (by kernel_rfl) rfl rfl rfl rfl (aZ X (by kernel_rfl)) (bdS fun _=>bdS fun _=>bd0 (by kernel_rfl)) (by kernel_rfl)
theorem aED(X:(KK P).In b5):cA PP b5 42 f42 (fD (bB 32) "law" "law" [] .none "law_pc0048_01" 708 466) (bB 32).2.1:=foM X (by kernel_rfl) rfl rfl rfl rfl (aZ X (by kernel_rfl)) (bdS fun _=>bd0 (by kernel_rfl)) (by kernel_rfl)
end
theorem ok0:dE PP (dH 0 f0 (bB 4).2.2) f0.body (bB 4).2.1=true:=by kernel_rfl
theorem ok1:dE PP (dH 1 f1 (bB 5).2.2) f1.body (bB 5).2.1=true:=by kernel_rfl
theorem ok2:dE PP (dH 2 f2 (bB 7).2.2) f2.body (bB 7).2.1=true:=by kernel_rfl
theorem ok3:dE PP (dH 3 f3 (bB 8).2.2) f3.body (bB 8).2.1=true:=by kernel_rfl
theorem ok4:dE PP (dH 4 f4 (bB 9).2.2) f4.body (bB 9).2.1=true:=by kernel_rfl
theorem ok5:dE PP (dH 5 f5 (bB 10).2.2) f5.body (bB 10).2.1=true:=by kernel_rfl
theorem ok6:dE PP (dH 6 f6 (bB 11).2.2) f6.body (bB 11).2.1=true:=by kernel_rfl
theorem ok7:dE PP (dH 7 f7 (bB 12).2.2) f7.body (bB 12).2.1=true:=by kernel_rfl
theorem ok8:dE PP (dH 8 f8 (bB 13).2.2) f8.body (bB 13).2.1=true:=by kernel_rfl
theorem ok9:dE PP (dH 9 f9 (aX 16 0).2.2) f9.body (aX 16 0).2.1=true:=by kernel_rfl
theorem aEE:dE PP (dH 10 f10 (aX 16 15).2.2) f10.body (aX 16 15).2.1=true:=by kernel_rfl
theorem aEF:dE PP (dH 11 f11 (aX 16 1).2.2) f11.body (aX 16 1).2.1=true:=by kernel_rfl
theorem aEG:dE PP (dH 12 f12 (aX 16 2).2.2) f12.body (aX 16 2).2.1=true:=by kernel_rfl
theorem aEH:dE PP (dH 13 f13 (aX 16 3).2.2) f13.body (aX 16 3).2.1=true:=by kernel_rfl
theorem aEI:dE PP (dH 14 f14 (aX 16 4).2.2) f14.body (aX 16 4).2.1=true:=by kernel_rfl
theorem aEJ:dE PP (dH 15 f15 (aX 16 12).2.2) f15.body (aX 16 12).2.1=true:=by kernel_rfl
theorem aEK:dE PP (dH 16 f16 (aX 16 13).2.2) f16.body (aX 16 13).2.1=true:=by kernel_rfl
theorem aEL:dE PP (dH 17 f17 (aX 16 14).2.2) f17.body (aX 16 14).2.1=true:=by kernel_rfl
theorem aEM:dE PP (dH 18 f18 (aX 16 16).2.2) f18.body (aX 16 16).2.1=true:=by kernel_rfl
theorem aEN:dE PP (dH 19 f19 (aX 16 17).2.2) f19.body (aX 16 17).2.1=true:=by kernel_rfl
theorem aEO:dE PP (dH 20 f20 (aX 17 0).2.2) f20.body (aX 17 0).2.1=true:=by kernel_rfl
theorem aEP:dE PP (dH 22 f22 (aX 19 3).2.2) f22.body (aX 19 3).2.1=true:=by kernel_rfl
theorem aEQ:dE PP (dH 23 f23 (aX 19 4).2.2) f23.body (aX 19 4).2.1=true:=by kernel_rfl
theorem aER:dE PP (dH 24 f24 (aX 19 5).2.2) f24.body (aX 19 5).2.1=true:=by kernel_rfl
theorem aES:dE PP (dH 25 f25 (aX 19 6).2.2) f25.body (aX 19 6).2.1=true:=by kernel_rfl
theorem aET:dE PP (dH 26 f26 (aX 19 7).2.2) f26.body (aX 19 7).2.1=true:=by kernel_rfl
theorem aEU:dE PP (dH 27 f27 (aX 19 8).2.2) f27.body (aX 19 8).2.1=true:=by kernel_rfl
theorem aEV:dE PP (dH 28 f28 (aX 19 9).2.2) f28.body (aX 19 9).2.1=true:=by kernel_rfl
theorem aEW:dE PP (dH 29 f29 (aX 19 10).2.2) f29.body (aX 19 10).2.1=true:=by kernel_rfl
theorem aEX:dE PP (dH 30 f30 (aX 19 11).2.2) f30.body (aX 19 11).2.1=true:=by kernel_rfl
theorem aEY:dE PP (dH 31 f31 (aX 19 12).2.2) f31.body (aX 19 12).2.1=true:=by kernel_rfl
theorem aEZ:dE PP (dH 32 f32 (bB 22).2.2) f32.body (bB 22).2.1=true:=by kernel_rfl
theorem aE0:dE PP (dH 33 f33 (bB 23).2.2) f33.body (bB 23).2.1=true:=by kernel_rfl
theorem aE1:dE PP (dH 34 f34 (bB 24).2.2) f34.body (bB 24).2.1=true:=by kernel_rfl
theorem aE2:dE PP (dH 35 f35 (bB 25).2.2) f35.body (bB 25).2.1=true:=by kernel_rfl
theorem aE3:dE PP (dH 36 f36 (bB 26).2.2) f36.body (bB 26).2.1=true:=by kernel_rfl
theorem aE4:dE PP (dH 37 f37 (bB 27).2.2) f37.body (bB 27).2.1=true:=by kernel_rfl
theorem aE5:dE PP (dH 38 f38 (bB 28).2.2) f38.body (bB 28).2.1=true:=by kernel_rfl
theorem aE6:dE PP (dH 39 f39 (bB 29).2.2) f39.body (bB 29).2.1=true:=by kernel_rfl
theorem aE7:dE PP (dH 40 f40 (bB 30).2.2) f40.body (bB 30).2.1=true:=by kernel_rfl
theorem aE8:dE PP (dH 41 f41 (bB 31).2.2) f41.body (bB 31).2.1=true:=by kernel_rfl
theorem aE9:dE PP (dH 42 f42 (bB 32).2.2) f42.body (bB 32).2.1=true:=by kernel_rfl
def aDt(k:List Expr->Pos->Pos->Bool)(s:Stmt):Bool:=os4 (sG fun f Xs kw cp=>kw.isEmpty&&uA (fun x n ap=>n==("__init__":Str)&&(sG (fun g ys kw2 _=>kw2.isEmpty&&ys.isEmpty&&on3 (fun y=>y==("super":Str)) g) x&&k Xs ap cp)) f) s
inductive aDu(k:List Expr->Pos->Pos->Bool)(s:Stmt):Prop
 |mk (p0 p1 ap cp pos:Pos) (Xs:List Expr):s= .Expr (.Call (.Attribute (.Call (.Name ("super":Str) p0) [] [] p1) ("__init__":Str) ap) Xs [] cp) pos->k Xs ap cp=true->aDu k s
theorem aFa{s:Stmt}{k:List Expr->Pos->Pos->Bool}(h:aDt k s=true):aDu k s:=by refine Xk h fun v pos Q2 h=>?_;subst Q2;refine Km h fun f Xs kw cp Q4 h=>?_;subst Q4;refine aS h fun h1 h=>Ow h fun x n ap Q3 h=>?_;subst Q3;refine aS h fun h2 h=>aS h fun h3 h=>Km h3 fun g ys kw2 p1 Q4 h3=>?_;subst Q4;refine aS h3 fun h4 h5=>aS h4 fun h4 h6=>v3k h5 fun y p0 Q2 h5=>?_;subst Q2;obtain rfl:=cX.mp h2;obtain rfl:=cX.mp h5;obtain rfl:=w0 h1;obtain rfl:=w0 h4;obtain rfl:=w0 h6;exact⟨p0,p1,ap,cp,pos,Xs,rfl,h⟩
def b21:List Stmt:=(aX 19 0).2.1
def s21:Stmt:=b21.headD (.Pass default)
def t21:List Stmt:=b21.tail
abbrev Mn:FuncData:=fD (aX 19 0) "__init__" "Regular.__init__" [(.ofString "__class__",301)] (.ref 306) "fdsolve.regular" 550 312
def gl3(P:Params):Array DictEntry:=match(KK P).lookup mainGlobals with
 |some o=>(match o.data with| .dict es _=>es|_=> #[])
 |none=> #[]
noncomputable def aAY(K:Frag)(a:Addr):ClassData:=(clsIn K a).getD default
section
variable {P:Params}{b5:Heap}{mg mb:Str->Option Value}{w:World}
theorem xI(X:(KK P).In b5)(hg:b5.Ns mainGlobals mg)(x:Str):mg x=nsFind (gl3 P) x:=by refine Ad hg fun o es ep ho hd _ hm=>?_;have:∃o',(KK P).lookup mainGlobals=some o'/\∃ep',o'.data= .dict (gl3 P) ep':=(xX _ rfl _ rfl);refine Dw this fun o' h1 ep' h2=>?_;have:=X _ _ h1;rw[ho] at this;cases this;rw[hd] at h2;cases h2;exact(hm x).symm
theorem jS{α:Type}{l:List α}{p:α->Bool}(h:l.all p=true){x:α}(hx:x∈l):p x=true:=List.all_eq_true.mp h x hx
noncomputable def aDv(v:Value)(b:Addr):Bool:=match v with| .ref a=>Nat.beq a b|_=>false
theorem Zz{v:Value}{b:Addr}(h:aDv v b=true):v= .ref b:=by cases v with|ref a=>rw[fM h]|_=>cases h
def Jc(v:Option Value)(b:Addr):Bool:=cQ v fun v=>aDv v b
theorem uY{v:Option Value}{b:Addr}(h:Jc v b=true):v=some (.ref b):=by refine jP h fun v Q1 h=>?_;subst Q1;rw[Zz h]
noncomputable def Jd:Option Value->Bool
 |none=>true
 |_=>false
theorem Gh{v:Option Value}(h:Jd v=true):v=none:=by cases v;rfl;cases h
noncomputable def Mo:List Str:=[("len":Str),"max","min","range","reversed","sorted","set","tuple","list","dict","int"]
def rS(K:Frag)(a:Addr):Bool:=(aBT K a).isSome
theorem pJ{K:Frag}{a:Addr}(X:K.In b5)(h:rS K a=true):∃o fd,b5.get? a=some o/\o.data= .func fd:=by refine X1 (wU.mp h) fun fd hf=>aP (Gg X hf) fun o h1 h2=>?_;exact(hN o fd h1 h2)
theorem Ue:Hq.all (fun q=>Jc (nsFind (gl3 P) q.1) (PP.fnAddr q.2)&&rS (KK P) (PP.fnAddr q.2))=true:=by kernel_rfl
theorem Mp:Ai.all (fun q=>Jc (nsFind (gl3 P) q.1) (PP.clsAddr q.2)&&keepIn (KK P) (.ref (PP.clsAddr q.2))&&makesIn (KK P) (PP.clsAddr q.2))=true:=by kernel_rfl
theorem Gi:Mo.all (fun x=>Jd (nsFind (gl3 P) x))=true:=by kernel_rfl
theorem aBU{m c f:Nat}(h:Hp m c=some f):(m,c,f)∈meL:=by refine aP (Option.map_eq_some_iff.mp h) fun q hq Q2=>?_;subst Q2;have hb:(Nat.beq q.1 m&&Nat.beq q.2.1 c)=true:=List.find?_some (p:=fun(q:Nat×Nat×Nat)=>Nat.beq q.1 m&&Nat.beq q.2.1 c) hq;refine aS hb fun h1 h2=>?_;obtain rfl:=fM h1;obtain rfl:=fM h2;exact List.mem_of_find?_eq_some hq
def uZ:Option (Option Value)->Addr->Bool
 |some v,a=>Jc v a
 |_,_=>false
theorem sQ{v:Option (Option Value)}{a:Addr}(h:uZ v a=true):v=some (some (.ref a)):=by
 cases v with
 |none=>cases h
 |some v=>rw[uY (v:=v) h]
noncomputable def rT:Option (Option Value)->Bool
 |some none=>true
 |_=>false
theorem qU{v:Option (Option Value)}(h:rT v=true):v=some none:=by
 cases v with
 |none=>cases h
 |some v=>cases v with|none=>rfl|some v=>cases h
theorem aDw:meL.all (fun q=>uZ (findIn (KK P) (.ref (PP.clsAddr q.2.1)) (PP.methName q.1)) (PP.fnAddr q.2.2)&&isFn (KK P) (.ref (PP.fnAddr q.2.2))&&(!Ak q.1||lE q.2.2)&&(List.range 17).all (fun i=>PP.attrName i != PP.methName q.1)&&rS (KK P) (PP.fnAddr q.2.2))=true:=by kernel_rfl
theorem aBV:[(0,9),(1,21)].all (fun q:Nat×Nat=>uZ (findIn (KK P) (.ref (PP.clsAddr q.1)) ("__init__":Str)) (PP.fnAddr q.2)&&isFn (KK P) (.ref (PP.fnAddr q.2)))=true:=by kernel_rfl
noncomputable def aFb(v:Value):Bool:=match v with| .builtin x=>x=="object.__setattr__"|_=>false
def xJ(v:Option (Option Value)):Bool:=cQ v fun v=>cQ v aFb
theorem zC{v:Option (Option Value)}(h:xJ v=true):v=some (some (.builtin "object.__setattr__")):=by
 refine jP h fun u Q1 h1=>?_;subst Q1;refine jP h1 fun v Q1 h=>?_;subst Q1
 cases v with|builtin x=>rw[cX.mp h]|_=>cases h
theorem aAa:[0,1].all (fun c=>plainGet (KK P) (PP.clsAddr c) (Str.ofString "x")&&hasDictIn (KK P) (PP.clsAddr c)&&xJ (findIn (KK P) (.ref (PP.clsAddr c)) "__setattr__")&&plainOver (KK P) (PP.clsAddr c)&&
  (List.range 17).all (fun i=>rT (findIn (KK P) (.ref (PP.clsAddr c)) (PP.attrName i))&&rT (takerIn (KK P) (PP.clsAddr c) (PP.attrName i))))=true:=by kernel_rfl
theorem aBW:(List.range 17).all (fun i=>(List.range 17).all fun j=>Nat.beq i j||PP.attrName i != PP.attrName j)=true:=by kernel_rfl
noncomputable def Mq:Addr:=404
theorem Je{c f:Nat}(h:rI c=some f):(c,f)∈[(0,9),(1,21)]:=by
 match c with
 |0=>cases h;exact List.mem_cons_self
 |1=>cases h;exact List.mem_cons_of_mem _ List.mem_cons_self
 |c+2=>cases h
theorem Uf{c:Nat}(h:rI c≠none):c∈[0,1]:=by
 cases e:rI c with
 |none=>exact absurd e h
 |some f=>exact List.mem_map_of_mem (f:=Prod.fst) (Je e)
theorem Gj(X:(KK P).In b5):Rep pw w b5.get? (.ref Mq) gl0:=by
 have iv:∀{a b:Addr} {i j:Int} {t u:Tok},(KK P).lookup a=some (sO (.type "tuple") [.int i t,.int j u] 0)->Rep pw w b5.get? (.ref a) (.tuple [.int i,.int j]):=fun{a b i j t u} h=> .tuple (X _ _ h) rfl rfl (.cons (.int _ _) (.cons (.int _ _) .nil));have one:∀{a b:Addr} {d:D},(KK P).lookup a=some (sO (.type "tuple") [.ref b] 0)->Rep pw w b5.get? (.ref b) d->Rep pw w b5.get? (.ref a) (.tuple [d]):=fun{a b d} h r=> .tuple (X _ _ h) rfl rfl (.cons r .nil);have h404:(KK P).lookup 404=some (sO (.type "list") [(.ref 396),(.ref 398),(.ref 400),(.ref 403)] 0):=by kernel_rfl
 have h403:(KK P).lookup 403=some (sO (.type "tuple") [(.ref 401),(.ref 402)] 0):=by kernel_rfl
 exact .list (X _ _ h404) rfl rfl (.cons (one (a:=396) (b:=395) (by kernel_rfl) (iv (b:=0) (t:=710) (u:=711) (by kernel_rfl))) (.cons (one (a:=398) (b:=397) (by kernel_rfl) (iv (b:=0) (t:=712) (u:=713) (by kernel_rfl)))
  (.cons (one (a:=400) (b:=399) (by kernel_rfl) (iv (b:=0) (t:=714) (u:=715) (by kernel_rfl))) (.cons (.tuple (X _ _ h403) rfl rfl (.cons (iv (b:=0) (t:=716) (u:=717) (by kernel_rfl)) (.cons (iv (b:=0) (t:=718) (u:=719) (by kernel_rfl)) .nil))) .nil))))
theorem aFc(X:(KK P).In b5)(hg:b5.Ns mainGlobals mg)(k:Nat):Xl pw w PP (KK P) b5 (aD k) mg where
 fn:=fun x f h=>by have q:=jS (Ue (P:=P)) (mem_of_lookup h);refine aS q fun q1 q2=>?_;exact⟨(xI X hg x).trans (uY q1),pJ X q2⟩
 cls:=fun x c h=>by have q:=jS (Mp (P:=P)) (mem_of_lookup h);refine aS q fun q q3=>aS q fun q1 q2=>?_;exact(cD ((xI X hg x).trans (uY q1)) q2 q3)
 gl:=fun x g d h h2=>by
  have hx:(x,g)∈[(Str.ofString "_law_firsts",0)]:=mem_of_lookup h
  cases dJ.mp hx
  cases h2
  exact(aH _ ((xI X hg _).trans (by kernel_rfl)) (Gj X))
 free:=fun x hx=>(xI X hg x).trans (Gh (jS (Gi (P:=P)) hx))
 me:=fun m c f h=>by
  have q:=jS (aDw (P:=P)) (aBU h);refine aS q fun q q5=>aS q fun q q4=>aS q fun q q3=>aS q fun q1 q2=>?_;refine(Wq (sQ q1) q2 (fun hm=>?_) (fun id hid=>?_) (pJ X q5))
  ·dsimp only at q3;rw[hm] at q3;exact q3
  ·have:=jS q4 (dU.mpr hid);exact bne_iff_ne.mp this
 ini:=fun c f h=>by refine aS (jS (aBV (P:=P)) (Je h)) fun q1 q2=>?_;exact⟨sQ q1,q2⟩
 tini:=rfl
 tme:=rfl
 two:=fun c h=>by
  rcases iA.mp (Uf h) with rfl|h
  ·decide
  ·rw[dJ.mp h];decide
 inst:=fun c h=>by have q:=jS (aAa (P:=P)) (Uf h);refine aS q fun q q5=>aS q fun q q4=>aS q fun q q3=>aS q fun q1 q2=>?_;refine(Wq (fun n=>q1) q2 (zC q3) q4 (fun id hid=>?_));refine aS (jS q5 (dU.mpr hid)) fun r1 r2=>?_;exact⟨qU r1,qU r2⟩
 inj:=fun i j hi hj e=>by
  have q:=jS (jS aBW (dU.mpr hi)) (dU.mpr hj);rcases Bool.or_eq_true_iff.mp q with q|q
  ·exact fM q
  ·exact absurd e (bne_iff_ne.mp q)
def aDx:List Arg:=[.e (.tupleOf (.v 1)),.e (.k (.str oK))]
theorem aDy:aDt (fun Xs ap cp=>(ap.endLine==cp.line)&&Nat.blt Xs.length 25&&Xs.all Expr.plain&&Ei PP (dH 21 f21 (aX 19 0).2.2) aDx Xs) s21=true:=by kernel_rfl
theorem aDz:dE PP (dH 21 f21 (aX 19 0).2.2) f21.body.tail t21=true:=by kernel_rfl
def zD(w:World)(b5:Heap)(k:Nat):Prop:=∀f<k,qM pw w PP b5 f ((aD k).fn f)
theorem nV(gl:Gl pw w (KK w.params) b5 mg mb){k:Nat}(h:zD w b5 k):Known pw w PP (KK w.params) b5 (aD k) mg mb (4*k+3):=
 ⟨gl,aFc gl.inK gl.g k,fun f hf=>h f (by omega)⟩
theorem up{k:Nat}(h:zD w b5 k)(s:qM pw w PP b5 k (ent (aD k) k)):zD w b5 (k+1):=fun f hf=>by
 rcases Nat.lt_or_ge f k with q|q
 ·rw[Ub q];exact h f q
 ·obtain rfl:f=k:=Nat.le_antisymm (tR hf) q;rw[Uc];exact s
theorem goF{k:Nat}{fn:Fn}{fd:FuncData}{body:List Stmt}(gl:Gl pw w (KK w.params) b5 mg mb)(h:zD w b5 k)(fo:cA PP b5 k fn fd body)(ok:dE PP (dH k fn fd.scope) fn.body body=true)(hp:lE k=true->pW fn.body=true)(e:ent (aD k) k=cU (aD k) 1000 fn):zD w b5 (k+1):=
 up h (e▸Tz (nV gl h) fo (Iz _ (nV gl h) _ _ _ rfl ok) hp)
theorem u21(gl:Gl pw w (KK w.params) b5 mg mb)(hU:zD w b5 21):zD w b5 22:=by
 obtain⟨p0,p1,ap,cp,pos,Xs,h1,h2⟩:=aFa aDy;refine aS h2 fun h2 h3=>aS h2 fun h2 h4=>aS h2 fun h2 h5=>?_;have X:=gl.inK;refine aP (Gg X (fd:=Mn) (a:=PP.fnAddr 21) (by kernel_rfl)) fun o ho hd=>?_;have h:∃oD,(KK w.params).lookup 392=some oD/\oD.data= .cls (aAY (KK w.params) 392):=(aH _ rfl rfl);refine aP h fun oD q1 q2=>?_;have h:∃o,(KK w.params).lookup (PP.fnAddr 20)=some o/\o.cls= .type "function":=(aH _ rfl rfl);exact aP h fun of q3 q4=>up hU (Ml (nV gl hU) (by decide) ho hd (by kernel_rfl) rfl rfl (aZ X (by kernel_rfl)) (by kernel_rfl) (by kernel_rfl) (by kernel_rfl)
  (bdS fun _=>bdS fun _=>bdS fun _=>bdS fun _=>bdS fun _=>bdS fun _=>bdS fun _=>bd0 (by kernel_rfl)) (by kernel_rfl)
  (fun x hx=>bne_iff_ne.mp (jS (p:=fun x:Str×NameKind=>x.2 != .cell) (show Mn.scope.names.all (fun x=>x.2 != .cell)=true by kernel_rfl) hx))
  (fun x hx=>cX.mp (jS (p:=fun x:Str=>Mn.scope.names.lookup x==some .local) (show f21.nm.all (fun x=>Mn.scope.names.lookup x==some .local)=true by kernel_rfl) hx))
  (ar:=(Mn.params.posonlyargs++Mn.params.args).headD default) (by kernel_rfl) (by kernel_rfl) (cc:=301) (by kernel_rfl) (X 301 {cls:=(.type "cell"),data:= .cell (some (.ref 392))} (by kernel_rfl))
  (cda:=312) rfl (X 312 ((KK w.params |>.lookup 312).getD default) (by kernel_rfl)) rfl (file:="/claim/cut.py") (tf:=566) (by kernel_rfl) (by kernel_rfl) (by kernel_rfl)
  (cd:=aAY (KK w.params) 392) q1 q2 (by kernel_rfl) (lm:=[(.ref 293),(.type "object")]) (by kernel_rfl) (by kernel_rfl) (by kernel_rfl) (X _ _ q3) q4 (by kernel_rfl) (by kernel_rfl) ((xI X gl.g _).trans (by kernel_rfl)) (by kernel_rfl) (by kernel_rfl) (as:=aDx) (tl:=f21.body.tail) rfl h1 h2 (Nat.le_of_ble_eq_true h5) h4 (by decide) (Zd _ (nV gl hU) _ _ _ rfl h3) (Iz _ (nV gl hU) _ _ _ rfl aDz) rfl)
theorem u0:zD w b5 0:=fun f hf=>absurd hf (Nat.not_lt_zero f)
theorem Mr(gl:Gl pw w (KK w.params) b5 mg mb):zD w b5 43:=by have h0:=u0 (w:=w) (b5:=b5);have h1:=goF gl h0 (fo0 gl.inK) ok0 (fun q=>nomatch q) rfl;have h2:=goF gl h1 (fo1 gl.inK) ok1 (fun q=>nomatch q) rfl;have h3:=goF gl h2 (fo2 gl.inK) ok2 (fun q=>nomatch q) rfl;have h4:=goF gl h3 (fo3 gl.inK) ok3 (fun q=>nomatch q) rfl;have h5:=goF gl h4 (fo4 gl.inK) ok4 (fun q=>nomatch q) rfl;have h6:=goF gl h5 (fo5 gl.inK) ok5 (fun q=>nomatch q) rfl;have h7:=goF gl h6 (fo6 gl.inK) ok6 (fun q=>nomatch q) rfl;have h8:=goF gl h7 (fo7 gl.inK) ok7 (fun q=>nomatch q) rfl;have h9:=goF gl h8 (fo8 gl.inK) ok8 (fun q=>nomatch q) rfl;have h10:=goF gl h9 (fo9 gl.inK) ok9 (fun q=>nomatch q) rfl;have h11:=goF gl h10 (aD8 gl.inK) aEE (fun q=>nomatch q) rfl;have h12:=goF gl h11 (aD9 gl.inK) aEF (fun q=>nomatch q) rfl;have h13:=goF gl h12 (aEa gl.inK) aEG (fun _=>rfl) rfl;have h14:=goF gl h13 (aEb gl.inK) aEH (fun _=>rfl) rfl;have h15:=goF gl h14 (aEc gl.inK) aEI (fun _=>rfl) rfl;have h16:=goF gl h15 (aEd gl.inK) aEJ (fun q=>nomatch q) rfl;have h17:=goF gl h16 (aEe gl.inK) aEK (fun q=>nomatch q) rfl;have h18:=goF gl h17 (aEf gl.inK) aEL (fun q=>nomatch q) rfl;have h19:=goF gl h18 (aEg gl.inK) aEM (fun q=>nomatch q) rfl;have h20:=goF gl h19 (aEh gl.inK) aEN (fun q=>nomatch q) rfl;have h21:=goF gl h20 (aEi gl.inK) aEO (fun q=>nomatch q) rfl;have h22:=u21 gl h21;have h23:=goF gl h22 (aEj gl.inK) aEP (fun q=>nomatch q) rfl;have h24:=goF gl h23 (aEk gl.inK) aEQ (fun q=>nomatch q) rfl;have h25:=goF gl h24 (aEl gl.inK) aER (fun q=>nomatch q) rfl;have h26:=goF gl h25 (aEm gl.inK) aES (fun q=>nomatch q) rfl;have h27:=goF gl h26 (aEn gl.inK) aET (fun _=>rfl) rfl;have h28:=goF gl h27 (aEo gl.inK) aEU (fun q=>nomatch q) rfl;have h29:=goF gl h28 (aEp gl.inK) aEV (fun q=>nomatch q) rfl;have h30:=goF gl h29 (aEq gl.inK) aEW (fun q=>nomatch q) rfl;have h31:=goF gl h30 (aEr gl.inK) aEX (fun q=>nomatch q) rfl;have h32:=goF gl h31 (aEs gl.inK) aEY (fun q=>nomatch q) rfl;have h33:=goF gl h32 (aEt gl.inK) aEZ (fun q=>nomatch q) rfl;have h34:=goF gl h33 (aEu gl.inK) aE0 (fun q=>nomatch q) rfl;have h35:=goF gl h34 (aEv gl.inK) aE1 (fun q=>nomatch q) rfl;have h36:=goF gl h35 (aEw gl.inK) aE2 (fun q=>nomatch q) rfl;have h37:=goF gl h36 (aEx gl.inK) aE3 (fun q=>nomatch q) rfl;have h38:=goF gl h37 (aEy gl.inK) aE4 (fun q=>nomatch q) rfl;have h39:=goF gl h38 (aEz gl.inK) aE5 (fun _=>rfl) rfl;have h40:=goF gl h39 (aEA gl.inK) aE6 (fun q=>nomatch q) rfl;have h41:=goF gl h40 (aEB gl.inK) aE7 (fun q=>nomatch q) rfl;have h42:=goF gl h41 (aEC gl.inK) aE8 (fun q=>nomatch q) rfl;have h43:=goF gl h42 (aED gl.inK) aE9 (fun q=>nomatch q) rfl;exact h43
end
set_option maxHeartbeats 0
def aDA:Option (DefRec×List (Str×Expr)):=defOf qq (Str.ofString "law")
theorem xK:aDA.isSome=true:=by kernel_rfl
def zE:DefRec×List (Str×Expr):=aDA.get xK
theorem Jf:defOf qq (Str.ofString "law")=some (zE.1,zE.2):=(Option.some_get xK).symm
theorem aAb:pw.theDef (Str.ofString "law")=some (zE.1.params,zE.1.body,zE.1.scope):=by kernel_rfl
theorem aBX:kwWritten? zE.1.params.kwonlyargs zE.1.params.kw_defaults=some zE.2:=by kernel_rfl
theorem vA:∀{xs:List WData},WShape.hasItems [] xs .int=true->∃ns:List Int,xs=ns.map .int
 |[],_=>⟨[],rfl⟩
 |x::r,h=>by
  obtain⟨h1,h2⟩:=Bool.and_eq_true_iff.mp (show(WShape.has [] x .int&&WShape.hasItems [] r .int)=true by simpa only[WShape.hasItems] using h);obtain⟨ns,rfl⟩:=vA h2
  cases x<;>first|exact⟨_::ns,rfl⟩|exact(eX h1).elim
theorem Gk{args:List WData}(h:PySem.Challenge.rw_pc0048_01.row.claim.pre args=true):∃ns:List Int,args=[.list (ns.map .int)]/\ns.length<=63:=by
 obtain⟨h1,h2⟩:=Bool.and_eq_true_iff.mp h;change WShape.hasAll [] args [.list .int]=true at h1
 match args,h1,h2 with
 |d::r,h1,h2=>
  simp only[WShape.hasAll,Bool.and_eq_true] at h1;obtain⟨h1,h3⟩:=h1
  cases r with
  |cons _ _=>simp[WShape.hasAll] at h3
  |nil=>
   cases d<;>try exact(eX h1).elim
   rename_i xs;have h1':WShape.hasItems [] xs .int=true:=by have h1:(WShape.hasItems [] xs .int||false)=true:=h1;simpa using h1
   obtain⟨ns,rfl⟩:=vA h1';refine⟨ns,rfl,?_⟩;have e:∀q:Bool,WTm.holds [] (.and (.not (.lit (.bool q))) (.lit (.bool true))) {args:=[]}= !q:=fun q=>by cases q<;>rfl
   have e:(!decide ((63:Int)<((ns.map WData.int).length:Int)))=true:=(e _).symm.trans h2;by_cases q:(63:Int)<((ns.map WData.int).length:Int)
   ·rw[iX q] at e;cases e
   ·rw[bT] at q;omega
theorem Gm{F:Fz}{w:World}{R:WRecords}{cl:Str->Option Addr}{h:Heap}{vs:List Value}{as:List Addr}:∀{ns:List Int},ReadsAllW R cl h vs (ns.map .int) as->aM pw w F vs (ns.map .int):=by
 intro ns
 induction ns generalizing vs as with
 |nil=>intro r;cases r;exact .nil
 |cons n ns ih=>
  intro r
  cases r with
  |cons a r=>
   cases a
   exact .cons (.int _ _) (ih r)
theorem aBY(aCu:∀ns:List Int,ns.length<=63->∃m7,(aD 43).fn 42 [.d (.list (ns.map .int))]=some (.bool true,m7)):PySem.Challenge.rw_pc0048_01.Holds:=by
 refine holds_law (l:=PySem.Challenge.rw_pc0048_01) (by kernel_rfl) fun said=>?_;refine PySem.W.holds_open (r:=PySem.Challenge.rw_pc0048_01.row) (q:=qq) (loose:=rK) (Xt:=fun _=>true) (XP:=fun _ _=>True) (Yf:=fun s=>KAs.map s.heap.get?) (Ya:=fun w:World=>(KK w.params).map fun(p:Addr×Obj)=>some p.2) (YP:=InK KK) (N:=2700) left (InK.of aBj) InK.keeps
  (fun _ _=>trivial) (fun _ _ _ _ _=>trivial) Jf aAb aBX (fun s e=>recFacts_nil rfl) rfl (by assumption) (by decide+kernel) ⟨rfl,rfl,rfl,rfl,rfl,by decide+kernel⟩ ?hw ?hc
 case hw=>w_witness2
 case hc=>
  intro w l6 c5 mg mb G Y fa o pm cd doc dV kV ho hd hcd hD hmg hg args vals as hpre hlay hrd hwl hlo;obtain⟨ns,rfl,hns⟩:=Gk hpre;obtain⟨m7,hv⟩:=aCu ns hns;have X:(KK w.params).In c5.heap:=Y;have gl:Gl pw w (KK w.params) c5.heap mg mb:=⟨X,G.T.g,G.T.b,G.T.nolimit,⟨467,_,X 467 _ (show(KK w.params).lookup 467=some (fO (fD (bB 32) "law" "law" [] .none "law_pc0048_01" 708 466)) by kernel_rfl),by decide⟩,G.T.builtins⟩;have hfa:fa=PP.fnAddr 42:=by
   have e1:=xI X G.T.g zE.1.name;rw[defOf_name Jf] at e1 hmg;have e2:nsFind (gl3 w.params) (Str.ofString "law")=some (.ref (PP.fnAddr 42)):=by kernel_rfl
   rw[e1,e2] at hmg
   cases hmg;rfl
  subst hfa
  cases hrd with
  |cons r rn=>
   cases rn
   cases r with
   |list h1 h2 h3 h4=>
    have R:Rep pw w c5.heap.get? (.ref _) (.list (ns.map .int)):= .list h1 h2 h3 (Gm h4);have ar:Args pw w PP c5.heap.get? c5.heap [.ref _] [.d (.list (ns.map .int))] (fun _=>[]):={
     len:=rfl
     at_:=fun i v hi=>by
      match i,hi with
      |0,hi=>cases hi;exact⟨_,rfl,R,rfl⟩
     emp:=fun _ _=>rfl
     dj:=fun i j a ha=>by cases ha
     off:=fun i a ha=>by cases ha}
    refine wpAny_call (codeAny_mono (Mr gl 42 (by decide) callerA c5.heap.get? c5 _ _ (fun _=>[]) _ _ ⟨rfl,by decide+kernel,by decide+kernel⟩ (fun _ _ e=>e) (fun _ _ e=>e) ar hv) fun res s' h=>?_);obtain⟨x,F',e9,rfl,tr,rx,_⟩:=h
    cases rx
    refine⟨.inl ⟨_,.bool true,[],rfl,fun _=>rfl,.bool true,(by kernel_rfl),fun _=>⟨.nil,fun _ h=>(nomatch h)⟩⟩,.of_keep (fun b o e=>tr.kept b o e fun _ ⟨i,hi⟩=>(nomatch hi)),?_,.of_eq ?_⟩
    ·rw[tr.rest]
    ·rw[tr.rest];exact hg
end Mine
namespace Mine
open PySem
def G(k:Nat):List V->Option (D×List V):=ent (aD k) k
theorem mQ:∀{k j:Nat},j<k->(aD k).fn j=G j
 |0,_,h=>absurd h (Nat.not_lt_zero _)
 |k+1,j,h=>by
  rcases Nat.lt_or_ge j k with q|q
  ·rw[Ub q];exact mQ q
  ·obtain rfl:j=k:=by omega
   exact Uc j
theorem bZ{k j:Nat}(h:j<k){vs:List V}{r:Option (D×List V)}(q:G j vs=r):(aD k).fn j vs=r:=(mV (mQ h) _).trans q
inductive Sn where
 |ne|eq|le|ge
 deriving DecidableEq
structure Lit where
 (x:Nat) (s:Sn) (k:Int)
 deriving DecidableEq
def Sn.str:Sn->Str
 | .ne=>sNe
 | .eq=>sEq
 | .le=>sLe
 | .ge=>sGe
def Lit.d(l:Lit):D:= .tuple [.int l.x,.str l.s.str,.int l.k]
def cE(ls:List Lit):D:= .tuple (ls.map Lit.d)
noncomputable def ivs:Nat->Nat->List (Int×Int)->List (Int×Int)
 |0,_,acc=>acc
 |n+1,m,acc=>if m.testBit n then(match acc with
   |(a,b)::r=>if a=n+1 then ivs n m (((n:Int),b)::r) else ivs n m (((n:Int),(n:Int))::(a,b)::r)
   |[]=>ivs n m [((n:Int),(n:Int))]) else ivs n m acc
def dm(m:Nat):D:= .tuple ((ivs 5 m []).map fun p=> .tuple [.int p.1,.int p.2])
noncomputable def vl(m:Nat):List Nat:=[0,1,2,3,4].filter m.testBit
noncomputable def aB(l:List Nat):List D:=l.map fun(v:Nat)=>PyData.int (v:Int)
noncomputable def lets(s:Sn)(k v:Int):Bool:=match s with
 | .ne=>v != k
 | .eq=>v==k
 | .le=>decide (v<=k)
 | .ge=>decide (k<=v)
noncomputable def fY(f:Nat->Bool):Nat:=(if f 0 then 1 else 0)+(if f 1 then 2 else 0)+(if f 2 then 4 else 0)+(if f 3 then 8 else 0)+(if f 4 then 16 else 0)
def cut(s:Sn)(k:Int)(m:Nat):Nat:=fY fun v=>m.testBit v&&lets s k v
theorem Gn:(List.range 32).map (fun m=>G 2 [.d (dm m)])=(List.range 32).map fun m=>some (.list (aB (vl m)),[.d (dm m)]):=by kernel_rfl
theorem aAc:(List.range 32).map (fun m=>(List.range 5).map fun(v:Nat)=>G 1 [.d (dm m),.d (.int (v:Int))])=(List.range 32).map fun m=>(List.range 5).map fun(v:Nat)=>some (.bool (m.testBit v),[.d (dm m),.d (.int (v:Int))]):=by kernel_rfl
theorem Gp(x:D):[Sn.ne,Sn.eq,Sn.le,Sn.ge].map (fun s=>(List.range 5).map fun(k:Nat)=>(List.range 32).map fun m=>G 8 [.d (.tuple [x,.str s.str,.int (k:Int)]),.d (dm m)])=
  [Sn.ne,Sn.eq,Sn.le,Sn.ge].map fun s=>(List.range 5).map fun(k:Nat)=>(List.range 32).map fun m=>some (dm (cut s k m),[.d (.tuple [x,.str s.str,.int (k:Int)]),.d (dm m)]):=by kernel_rfl
theorem aBZ:(List.range 32).map (fun m=>(List.range 32).map fun m'=>eqD (dm m) (dm m'))=(List.range 32).map fun m=>(List.range 32).map fun m'=>some (Nat.beq m m'):=by kernel_rfl
theorem at2{α β:Type}{f g:Nat->α}{n k:Nat}(h:(List.range n).map f=(List.range n).map g)(hk:k<n):f k=g k:=by have:=List.map_inj_left.mp h k (dU.mpr hk);exact this
theorem oR{m:Nat}(h:m<32):G 2 [.d (dm m)]=some (.list (aB (vl m)),[.d (dm m)]):=at2 (β:=Nat) Gn h
theorem Ug{m m':Nat}(h:m<32)(h':m'<32):eqD (dm m) (dm m')=some (Nat.beq m m'):=at2 (β:=Nat) (at2 (β:=Nat) aBZ h) h'
structure Ent where
 (x:Nat) (old:Nat) (l:Lit) (why:Option (List Lit))
def Gq:Option (List Lit)->D
 |none=> .none
 |some ls=>cE ls
def Ent.d(e:Ent):D:= .tuple [.int e.x,dm e.old,e.l.d,Gq e.why,.int (-1)]
structure Sto where
 (doms firsts:List Nat) (trail:List Ent) (marks:List Nat) (news:List (Int×D)) (failed:Bool) (clash:List Lit)
def Sto.at(S:Sto):List (Nat×AV):=[(0,.c (.lst (S.doms.map dm))),(1,.c (.lst (S.firsts.map dm))),(2,.c (.lst (S.trail.map Ent.d))),(3,.c (.lst (aB S.marks))),(4,.c (.di S.news)),(5,.d (.int (-1))),(6,.d (.bool S.failed)),(7,.d (cE S.clash))]
def Sto.v(S:Sto):V:= .inst 0 S.at
theorem Jg{S:Sto}{ls:List Lit}:G 10 [S.v,.d (cE ls)]=some (.bool false,[({S with failed:=true,clash:=ls}:Sto).v,.d (cE ls)]):=by kernel_rfl
section
variable {α β γ:Type}
theorem cH{o:Option (α×β)}{k:α->β->Option γ}{a:α}{b:β}{r:Option γ}(h:o=some (a,b))(h2:k a b=r):b2 o k=r:=by subst h;exact h2
theorem iJ{o:Option α}{k:α->Option γ}{a:α}{r:Option γ}(h:o=some a)(h2:k a=r):o.bind k=r:=by subst h;exact h2
theorem dG{o:Option α}{k:α->γ}{a:α}(h:o=some a):o.map k=some (k a):=by subst h;rfl
theorem aAZ{o:Option V}{k:D->Option α}{x:D}{r:Option α}(h:o=some (.d x))(h2:k x=r):gD o k=r:=by subst h;exact h2
theorem aA0{o:Option V}{k:C->Option α}{x:C}{r:Option α}(h:o=some (.c x))(h2:k x=r):gC o k=r:=by subst h;exact h2
theorem Uh{o:Option V}{k:Nat->List (Nat×AV)->Option α}{c:Nat}{x:List (Nat×AV)}{r:Option α}(h:o=some (.inst c x))(h2:k c x=r):gI o k=r:=by subst h;exact h2
theorem dX{o:Option (V×β)}{k:D->β->Option α}{x:D}{s:β}{r:Option α}(h:o=some (.d x,s))(h2:k x s=r):bD o k=r:=by subst h;exact h2
theorem aA1{o:Option (V×β)}{k:C->β->Option α}{x:C}{s:β}{r:Option α}(h:o=some (.c x,s))(h2:k x s=r):bC o k=r:=by subst h;exact h2
theorem pK{o:Option (V×β)}{k:Int->β->Option α}{x:Int}{s:β}{r:Option α}(h:o=some (.d (.int x),s))(h2:k x s=r):bI o k=r:=by subst h;exact h2
theorem Ui{o:Option (V×β)}{k:List D->β->Option α}{x:List D}{s:β}{r:Option α}(h:o=some (.d (.list x),s))(h2:k x s=r):bL o k=r:=by subst h;exact h2
theorem vB{o:Option C}{k:List D->Option α}{x:List D}{r:Option α}(h:o=some (.lst x))(h2:k x=r):oL o k=r:=by subst h;exact h2
variable {T:Tab}{n:Nat}{σ b9 c8 g6:Sg}{R:Option (Flow×Sg)}{r:List St}{x y z:D}{v:V}{i:Nat}{p:Pl}{a b e:Ex}{t:Tx}{ds:List D}{c:C}
theorem e_v(h:σ.get i=some (.d x)):evE T (.v i) σ=some (.d x,σ):=
 aAZ h rfl
theorem fK{id:Nat}(h:(Pl.a i id).get σ=some (.d x)):evE T (.at i id) σ=some (.d x,σ):=
 aAZ h rfl
theorem wP(h:σ.get i=some (.c c))(h2:mI c=some x):evE T (.sh i) σ=some (.d x,σ.put i (.d x)):=
 aA0 h (dG h2)
theorem cW{o:BOp}(h1:evE T a σ=some (.d x,b9))(h2:evE T b b9=some (.d y,c8))(h3:Af o x y=some z):evE T (.bin o a b) σ=some (.d z,c8):=
 dX h1 (dX h2 (dG h3))
theorem aA2{k:Int}(h1:evE T a σ=some (.d x,b9))(h2:evE T b b9=some (.d (.int k),c8))(h3:(decide (0<=k)&&decide (k<1000))=true):evE T (.rep a b) σ=some (.c (.lst (List.replicate k.toNat x)),c8):=
 dX h1 (pK h2 (aJ (by simpa using h3)))
theorem gK{es:List Ex}(h:pQ T es σ=some (ds,b9)):evE T (.tup es) σ=some (.d (.tuple ds),b9):=
 dG h
theorem iV{es:List Ex}(h:pQ T es σ=some (ds,b9)):evE T (.lst es) σ=some (.c (.lst ds),b9):=
 dG h
theorem bH:pQ T [] σ=some ([],σ):=rfl
theorem aT{es:List Ex}(h1:evE T e σ=some (.d x,b9))(h2:pQ T es b9=some (ds,c8)):pQ T (e::es) σ=some (x::ds,c8):=
 dX h1 (dG h2)
theorem bO(h1:evE T a σ=some (.d x,b9))(h2:evE T b b9=some (.d y,c8))(h3:nB x y=some z):evE T (.sub a b) σ=some (.d z,c8):=
 dX h1 (dX h2 (dG h3))
theorem nW(h1:(p.get σ).isSome=true)(h2:evE T b σ=some (.d y,b9))(h3:p.get b9=some v)(h4:Kd v y=some z):evE T (.subP p b) σ=some (.d z,b9):=
 (aJ h1).trans (dX h2 (iJ h3 (dG h4)))
theorem aAd{k:Int}(h1:(p.get σ).isSome=true)(h2:evE T b σ=some (.d (.int k),b9))(h3:p.cont b9=some (.lst ds))(h4:0<=k/\k<2^40/\ds.length<=1000000):evE T (.slToP p b) σ=some (.c (.lst (ds.take k.toNat)),b9):=
 (aJ h1).trans (pK h2 (vB h3 (aJ h4)))
theorem Mt{k:Int}(h1:(p.get σ).isSome=true)(h2:evE T b σ=some (.d (.int k),b9))(h3:p.cont b9=some (.lst ds))(h4:0<=k/\k<2^40/\ds.length<=1000000):evE T (.slFromP p b) σ=some (.c (.lst (ds.drop k.toNat)),b9):=
 (aJ h1).trans (pK h2 (vB h3 (aJ h4)))
theorem aB0{k:Int}(h1:evE T a σ=some (.d (.list ds),b9))(h2:evE T b b9=some (.d (.int k),c8))(h4:0<=k/\k<2^40/\ds.length<=1000000):evE T (.slTo a b) σ=some (.c (.lst (ds.take k.toNat)),c8):=
 Ui h1 (pK h2 (aJ h4))
theorem qV(h1:evE T a σ=some (.d x,b9))(h2:Ob x=some z):evE T (.len a) σ=some (.d z,b9):=
 dX h1 (dG h2)
theorem pX(h1:p.cont σ=some (.lst ds))(h2:ds.length<=1000000):evE T (.lenP p) σ=some (.d (.int ds.length),σ):=
 vB h1 (aJ h2)
theorem lH{c:Bool}(h1:evT T t σ=some (c,b9))(h2:evE T (if c then a else b) b9=some (v,c8)):evE T (.ite t a b) σ=some (v,c8):=
 cH h1 (by cases c<;>exact h2)
theorem gZ{o:CmpOp}{q:Bool}(h1:evE T a σ=some (.d x,b9))(h2:evE T b b9=some (.d y,c8))(h3:eL o x y=some q):evE T (.cmp o a b) σ=some (.d (.bool q),c8):=
 dX h1 (dX h2 (dG h3))
theorem aB1{o:CmpOp}{q:Bool}(h1:(p.get σ).isSome=true)(h2:evE T b σ=some (.d y,b9))(h3:p.cont b9=some c)(h4:Ec o c y=some q):evE T (.cmpP o p b) σ=some (.d (.bool q),b9):=
 (aJ h1).trans (dX h2 (iJ h3 (dG h4)))
theorem aDB{q:Bool}(h1:evE T a σ=some (.d x,b9))(h3:p.cont b9=some c)(h4:inC x c=some q):evE T (.inP a p) σ=some (.d (.bool q),b9):=
 dX h1 (iJ h3 (dG h4))
theorem cR(h1:evE T a σ=some (.c c,b9))(h2:mI c=some x):evE T (.frz a) σ=some (.d x,b9):=
 aA1 h1 (dG h2)
theorem bS{f:Nat}{as:List Arg}{vs m7:List V}(h1:pR T as σ=some (vs,b9))(h2:T.fn f vs=some (x,m7))(h3:tW as vs m7 b9=some c8):evE T (.call f as) σ=some (.d x,c8):=
 cH h1 (cH h2 (dG h3))
theorem cB{m cl f:Nat}{at_:List (Nat×AV)}{as:List Arg}{vs m7:List V}(h0:σ.get i=some (.inst cl at_))(hm:T.me m cl=some f)(h1:pR T as σ=some (vs,b9))(h4:b9.get i=some v)(h2:T.fn f (v::vs)=some (x,m7))(h3:tW (.r i::as) (v::vs) m7 b9=some c8):evE T (.meth m i as) σ=some (.d x,c8):=
 Uh h0 (iJ hm (cH h1 (iJ h4 (cH h2 (dG h3)))))
theorem aDC{f:Nat}{as:List Arg}{vs m7:List V}(h1:pR T as σ=some (vs,b9))(h4:b9.get i=some v)(h2:T.fn f (v::vs)=some (x,m7))(h3:tW (.r i::as) (v::vs) m7 b9=some c8):evE T (.sup f i as) σ=some (.d x,c8):=
 cH h1 (iJ h4 (cH h2 (dG h3)))
theorem aN:pR T [] σ=some ([],σ):=rfl
theorem bA{as:List Arg}{vs:List V}(h1:evE T e σ=some (.d x,b9))(h2:pR T as b9=some (vs,c8)):pR T (.e e::as) σ=some (.d x::vs,c8):=
 dX h1 (dG h2)
theorem eB{as:List Arg}{vs:List V}(h0:(σ.get i).isSome=true)(h1:pR T as σ=some (vs,b9))(h2:b9.get i=some v):pR T (.r i::as) σ=some (v::vs,b9):=
 (aJ h0).trans (cH h1 (dG h2))
theorem aA3{cl f:Nat}{es:List Ex}{m7:List V}(h0:T.ini cl=some f)(h1:pQ T es σ=some (ds,b9))(h2:T.fn f (.inst cl []::ds.map .d)=some (.none,v::m7)):evE T (.new cl es) σ=some (v,b9):=
 iJ h0 (cH h1 (dG (a:=v) (h2▸rfl)))
theorem zF(h1:evE T a σ=some (.d (.list ds),b9))(h2:ds.length<=1000000):evE T (.tupleOf a) σ=some (.d (.tuple ds),b9):=
 dX h1 (dG (aJ h2))
theorem Uj(h1:evE T a σ=some (.d (.tuple ds),b9)):evE T (.tupleOf a) σ=some (.d (.tuple ds),b9):=
 dX h1 rfl
theorem aAe{k:Int}(h1:evE T a σ=some (.d (.int k),b9)):evE T (.intOf a) σ=some (.d (.int k),b9):=
 pK h1 rfl
theorem aB2{ns:List Int}(h1:evE T a σ=some (.d (.list ds),b9))(h2:nG ds=some ns)(h3:ds.length<=1000/\nH ns=true):evE T (.sortedSet a) σ=some (.d (.list ((qI ns).map .int)),b9):=
 dX h1 (iJ (a:=ds) rfl (iJ h2 (aJ h3)))
theorem aB3{ns:List Int}(h1:evE T a σ=some (.d (.tuple ds),b9))(h2:nG ds=some ns)(h3:ds.length<=1000/\nH ns=true):evE T (.sortedSet a) σ=some (.d (.list ((qI ns).map .int)),b9):=
 dX h1 (iJ (a:=ds) rfl (iJ h2 (aJ h3)))
theorem aB4{ks:List (Int×Int)}(h1:σ.get i=some (.c (.dt ks)))(h2:ks.length<64):evE T (.sortedKeys i) σ=some (.d (.list ((nJ ks).map lP)),σ):=
 aA0 h1 (aJ h2)
theorem Cu{ps:List (Int×D)}(h1:evE T a σ=some (.c (.lst ds),b9))(h2:ds.length<=1000)(h3:lA ds=some ps):evE T (.dictPairs a) σ=some (.c (.di (ps.foldl (fun d p=>jO p.1 p.2 d) [])),b9):=
 aA1 h1 ((aJ h2).trans (dG h3))
theorem Gr{l9:List (D×D)}{ps:List (Int×D)}(h1:evE T a σ=some (.d (.dict l9),b9))(h2:l9.length<=1000)(h3:eD l9=some ps):evE T (.dictCopy a) σ=some (.c (.di ps),b9):=
 dX h1 ((aJ h2).trans (dG h3))
theorem aB5(h1:p.cont σ=some (.lst ds))(h2:ds.getLast?=some x)(h3:ds.length<=1000000)(h4:p.put σ (.lst ds.dropLast)=some b9):evE T (.popP p) σ=some (.d x,b9):=
 vB h1 (iJ h2 ((aJ h3).trans (dG h4)))
theorem iK{q:Bool}(h:evT T t σ=some (q,b9)):evT T (.not t) σ=some (!q,b9):=
 dG h
theorem aV{o:CmpOp}{q:Bool}(h1:evE T a σ=some (.d x,b9))(h2:evE T b b9=some (.d y,c8))(h3:eL o x y=some q):evT T (.cmp o a b) σ=some (q,c8):=
 dX h1 (dX h2 (dG h3))
theorem Uk{o:CmpOp}{q:Bool}(h1:(p.get σ).isSome=true)(h2:evE T b σ=some (.d y,b9))(h3:p.cont b9=some c)(h4:Ec o c y=some q):evT T (.cmpP o p b) σ=some (q,b9):=
 (aJ h1).trans (dX h2 (iJ h3 (dG h4)))
theorem dY{q:Bool}(h:evE T a σ=some (.d (.bool q),b9)):evT T (.val a) σ=some (q,b9):=
 dX h rfl
theorem fN{ts:List Tx}{q:Bool×Sg}(h:gB T ts σ=some q):evT T (.and ts) σ=some q:=h
theorem qW{ts:List Tx}{q:Bool×Sg}(h:Ag T ts σ=some q):evT T (.or ts) σ=some q:=h
theorem cG:gB T [] σ=some (true,σ):=rfl
theorem eV{ts:List Tx}{q:Bool×Sg}(h1:evT T t σ=some (true,b9))(h2:gB T ts b9=some q):gB T (t::ts) σ=some q:=
 cH h1 h2
theorem fW{ts:List Tx}(h1:evT T t σ=some (false,b9)):gB T (t::ts) σ=some (false,b9):=
 cH h1 rfl
theorem nY:Ag T [] σ=some (false,σ):=rfl
theorem kX{ts:List Tx}{q:Bool×Sg}(h1:evT T t σ=some (false,b9))(h2:Ag T ts b9=some q):Ag T (t::ts) σ=some q:=
 cH h1 h2
theorem Mu{ts:List Tx}(h1:evT T t σ=some (true,b9)):Ag T (t::ts) σ=some (true,b9):=
 cH h1 rfl
theorem dR(h1:evE T a σ=some (.d x,b9))(h2:mJ x=some ds):evI T (.seq a) σ=some (ds,b9):=
 aBh.trans (dX h1 (dG h2))
theorem vE{k:Int}(h1:evE T a σ=some (.d (.int k),b9))(h2:k.natAbs<2^40):evI T (.r1 a) σ=some (fA 0 k,b9):=
 pK h1 (aJ h2)
theorem zG{k l:Int}(h1:evE T a σ=some (.d (.int k),b9))(h2:evE T b b9=some (.d (.int l),c8))(h3:k.natAbs<2^40/\l.natAbs<2^40):evI T (.r2 a b) σ=some (fA k l,c8):=
 pK h1 (pK h2 (aJ h3))
theorem aFd{k l:Int}(h1:evE T a σ=some (.d (.int k),b9))(h2:evE T b b9=some (.d (.int l),c8))(h3:k.natAbs<2^40/\l.natAbs<2^40):evI T (.rd a b) σ=some (gU k l,c8):=
 pK h1 (pK h2 (aJ h3))
theorem aDD(h1:evE T a σ=some (.d (.list ds),b9)):evI T (.rev a) σ=some (ds.reverse,b9):=
 Ui h1 rfl
theorem aA{s:St}(h:evS T n s σ=some (.next,b9))(k:dC T n r b9=R):dC T n (s::r) σ=R:=
 cH h k
theorem aW{s:St}(h:evS T n s σ=some (.ret x,b9)):dC T n (s::r) σ=some (.ret x,b9):=
 cH h rfl
theorem bP(h:evE T e σ=some (v,b9)):evS T n (.asg i e) σ=some (.next,b9.put i v):=
 Od.trans (cH h rfl)
theorem iL:yI T [] σ=some ([],σ):=rfl
theorem bY{es:List Ex}{vs:List V}(h1:evE T e σ=some (v,b9))(h2:yI T es b9=some (vs,c8)):yI T (e::es) σ=some (v::vs,c8):=
 cH h1 (dG h2)
theorem iM{is:List Nat}{es:List Ex}{vs:List V}(h:yI T es σ=some (vs,b9))(h2:putAll b9 is vs=some c8):evS T n (.masg is es) σ=some (.next,c8):=
 Hm.trans (cH h (dG h2))
theorem nZ{id cl:Nat}{at_:List (Nat×AV)}(h:evE T e σ=some (.d x,b9))(h2:b9.get i=some (.inst cl at_))(h3:Nat.ble at_.length 900=true):evS T n (.setAt i id e) σ=some (.next,b9.put i (.inst cl (gM id (.d x) at_))):=
 tX.trans (cH h (Uh h2 (aJ (Nat.le_of_ble_eq_true h3))))
theorem Ul{id cl:Nat}{at_:List (Nat×AV)}(h:evE T e σ=some (.c c,b9))(h2:b9.get i=some (.inst cl at_))(h3:Nat.ble at_.length 900=true):evS T n (.setAt i id e) σ=some (.next,b9.put i (.inst cl (gM id (.c c) at_))):=
 tX.trans (cH h (Uh h2 (aJ (Nat.le_of_ble_eq_true h3))))
theorem jF{c':C}(h1:evE T e σ=some (.d x,b9))(h2:(p.get b9).isSome=true)(h3:evE T a b9=some (.d y,c8))(h4:p.cont c8=some c)(h5:yH c y x=some c')(h6:p.put c8 c'=some g6):evS T n (.setP p a e) σ=some (.next,g6):=
 Hn.trans (dX h1 ((aJ h2).trans (dX h3 (iJ h4 (iJ h5 (dG h6))))))
theorem pL{ds':List D}(h1:p.cont σ=some (.lst ds'))(h2:evE T e σ=some (.d x,b9))(h3:p.cont b9=some (.lst ds))(h4:ds.length<=1000000)(h5:p.put b9 (.lst (ds++[x]))=some c8):evS T n (.app p e) σ=some (.next,c8):=
 Oe.trans (vB h1 (dX h2 (vB h3 ((aJ h4).trans (dG h5)))))
theorem aDE(h1:p.cont σ=some (.lst ds))(h4:ds.length<=1000000)(h5:p.put σ (.lst ds.reverse)=some b9):evS T n (.rev p) σ=some (.next,b9):=
 Of.trans (vB h1 ((aJ h4).trans (dG h5)))
theorem oA(h:evE T e σ=some (.d x,b9))(h2:Hl x=true):evS T n (.expr e) σ=some (.next,b9):=
 yJ.trans (dX h (aJ h2))
theorem aDF(h:σ.get i=some (.c c))(h2:mI c=some x):evS T n (.sh i) σ=some (.next,σ.put i (.d x)):=
 aAJ.trans (cH (wP h h2) rfl)
theorem bQ{ta tb:List St}{q:Bool}(h:evT T t σ=some (q,b9))(h2:dC T n (if q then ta else tb) b9=R):evS T n (.ite t ta tb) σ=R:=
 Og.trans (cH h (by cases q<;>exact h2))
theorem cN(h:evE T e σ=some (.d x,b9)):evS T n (.ret e) σ=some (.ret x,b9):=
 Ed.trans (dX h rfl)
abbrev eG(T:Tab)(n:Nat)(t:Tgt)(body:List St):Sg->D->Option (Flow×Sg):=fun s x=>match iS s t x with
 |some c5=>dC T n body c5
 |none=>none
theorem aDG{t:Tgt}{body:List St}:(fun s x=>(iS s t x).bind fun c5=>dC T n body c5)=eG T n t body:=by
 funext s x
 show _=(match iS s t x with|some c5=>dC T n body c5|none=>none)
 cases iS s t x<;>rfl
theorem aDH{t:Tgt}{body:List St}{s c5:Sg}(h:iS s t x=some c5):eG T n t body s x=dC T n body c5:=by show(match iS s t x with|some c5=>dC T n body c5|none=>none)=_;rw[h]
theorem eJ{t:Tgt}{it:It}{body:List St}(h:evI T it σ=some (ds,b9))(h2:lB (eG T n t body) ds b9=R):evS T n (.for_ t it body) σ=R:=
 Ho.trans (cH h (by rw[aDG];exact h2))
theorem tI{f:Fn}{vs m7:List V}{d7:Sg}(h0:(Nat.beq vs.length f.np&&gV (kI f.body) vs 0)=true)(h:dC T n f.body (vs.map some++List.replicate (f.ns-f.np) none)=some (.ret x,d7))(ho:Ah vs d7=some m7):
  cU T n f vs=some (x,m7):=by
 refine cK (Bool.and_eq_true_iff.mp h0) fun h1 h2=>?_;exact(aJ ⟨fM h1,h2⟩).trans (cH h (dG ho))
theorem Cv{f:Fn}{vs m7:List V}{d7:Sg}(h0:(Nat.beq vs.length f.np&&gV (kI f.body) vs 0)=true)(h:dC T n f.body (vs.map some++List.replicate (f.ns-f.np) none)=some (.next,d7))(ho:Ah vs d7=some m7):
  cU T n f vs=some (.none,m7):=by
 refine cK (Bool.and_eq_true_iff.mp h0) fun h1 h2=>?_;exact(aJ ⟨fM h1,h2⟩).trans (cH h (dG ho))
theorem gr{j:Nat}{f:Fn}{vs m7:List V}(hG:G j=cU (aD j) 1000 f)(h0:(Nat.beq vs.length f.np&&gV (kI f.body) vs 0)=true){d7:Sg}(h:dC (aD j) 1000 f.body (vs.map some++List.replicate (f.ns-f.np) none)=some (.ret x,d7))(ho:Ah vs d7=some m7):G j vs=some (x,m7):=
 (mV hG _).trans (tI h0 h ho)
theorem gn{j:Nat}{f:Fn}{vs m7:List V}(hG:G j=cU (aD j) 1000 f)(h0:(Nat.beq vs.length f.np&&gV (kI f.body) vs 0)=true){d7:Sg}(h:dC (aD j) 1000 f.body (vs.map some++List.replicate (f.ns-f.np) none)=some (.next,d7))(ho:Ah vs d7=some m7):G j vs=some (.none,m7):=
 (mV hG _).trans (Cv h0 h ho)
theorem dA{β:Type}{f:Sg->D->Option (Flow×Sg)}{m6:β->D}{all:List β}(P:List β->Sg->Prop)(step:∀(pre:List β) (x:β) (m0:List β) (σ:Sg),pre++x::m0=all->P pre σ->∃d7,f σ (m6 x)=some (.next,d7)/\P (pre++[x]) d7):
  ∀(m0 pre:List β) (σ:Sg),pre++m0=all->P pre σ->∃d7,lB f (m0.map m6) σ=some (.next,d7)/\P all d7
 |[],pre,σ,e,h=>(aH σ rfl (by rw[<-e];simpa using h))
 |x::m0,pre,σ,e,h=>by refine aP (step pre x m0 σ e h) fun b9 h1 h2=>aP (dA P step m0 (pre++[x]) b9 (by rw[<-e];simp) h2) fun c8 h3 h4=>?_;refine(aH c8 ?_ h4);exact cH h1 h3
theorem tJ{β:Type}{f:Sg->D->List D->Option (List D×Sg)}{m6:β->D}{all:List β}(P:List β->List D->Sg->Prop)(step:∀(pre:List β) (x:β) (m0:List β) (acc:List D) (σ:Sg),pre++x::m0=all->P pre acc σ->∃acc' d7,f σ (m6 x) acc=some (acc',d7)/\P (pre++[x]) acc' d7):
  ∀(m0 pre:List β) (acc:List D) (σ:Sg),pre++m0=all->P pre acc σ->∃acc' d7,lY f (m0.map m6) acc σ=some (acc',d7)/\P all acc' d7
 |[],pre,acc,σ,e,h=>(hN acc σ rfl (by rw[<-e];simpa using h))
 |x::m0,pre,acc,σ,e,h=>by apply bc;intro Z;refine fG (step pre x m0 acc σ e h) fun a₁ b9 h1 h2=>fG (tJ P step m0 (pre++[x]) a₁ b9 (by rw[<-e];simp) h2) fun a₂ c8 h3 h4=>?_;apply Z;clear Z;refine(hN a₂ c8 ?_ h4);exact cH h1 h3
theorem aAf{o:Option (V×Sg)}{y:D}{s:Sg}{acc:List D}(h:o=some (.d y,s))(h4:acc.length<=1000000):sF o acc=some (acc++[y],s):=by subst h;exact aJ h4
abbrev vF(T:Tab)(l8:Ex)(t:Tgt)(ifs:List Tx):Sg->D->List D->Option (List D×Sg):=fun s x acc=>(iS s t x).bind fun c5=>b2 (gB T ifs c5) fun q c9=>bif q then sF (evE T l8 c9) acc else some (acc,c9)
theorem Um{m:Nat}{l8:Ex}{tg:Tgt}{it:It}{ifs:List Tx}{acc:List D}(h:evI T it σ=some (ds,b9))(h2:lY (vF T l8 tg ifs) ds [] (b9++List.replicate m none)=some (acc,c8))(h3:c8.take b9.length=g6):evE T (.comp m l8 tg it ifs) σ=some (.c (.lst acc),g6):=
 cH h (cH h2 (by subst h3;rfl))
theorem Jh{l8:Ex}{tg:Tgt}{ifs:List Tx}{acc:List D}(h1:iS σ tg x=some b9)(h2:gB T ifs b9=some (false,c8)):vF T l8 tg ifs σ x acc=some (acc,c8):=
 iJ h1 (cH h2 rfl)
theorem zH{l8:Ex}{tg:Tgt}{ifs:List Tx}{acc:List D}(h1:iS σ tg x=some b9)(h2:gB T ifs b9=some (true,c8))(h3:evE T l8 c8=some (.d y,g6))(h4:acc.length<=1000000):vF T l8 tg ifs σ x acc=some (acc++[y],g6):=
 iJ h1 (cH h2 (aAf h3 h4))
theorem bV{β:Type}{m:Nat}{l8:Ex}{tg:Tgt}{it:It}{ifs:List Tx}{m6:β->D}{xs:List β}{c:β->Bool}{g:β->D}(h:evI T it σ=some (xs.map m6,b9))(hl:xs.length<=1000000)
  (step:∀x∈xs,∀J:List (Option V),J.length=m->∃c5 J',iS (b9++J) tg (m6 x)=some c5/\gB T ifs c5=some (c x,b9++J')/\J'.length=m/\(c x=true->∃J'',evE T l8 (b9++J')=some (.d (g x),b9++J'')/\J''.length=m)):
  evE T (.comp m l8 tg it ifs) σ=some (.c (.lst ((xs.filter c).map g)),b9):=by
 apply bc;intro Z;refine fG (tJ (f:=vF T l8 tg ifs) (m6:=m6) (all:=xs) (fun pre acc s=>∃J:List (Option V),s=b9++J/\J.length=m/\acc=(pre.filter c).map g) (fun pre x m0 acc s e hp=>by
  refine eR hp fun J Q1 hJ Q3=>?_;clear hp;subst Q1;subst Q3;refine oZ (step x (by rw[<-e];simp) J hJ) fun c5 J' q1 q2 q3 q4=>?_
  cases hc:c x with
  |false=>
   rw[hc] at q2;exact(hN _ _ (Jh q1 q2) (cY J' rfl q3 (by simp[hc])))
  |true=>
   rw[hc] at q2;refine aP (q4 hc) fun J'' q5 q6=>?_;refine(hN _ _ (zH q1 q2 q5 ?_) (cY J'' rfl q6 (by simp[hc])));have:=gR c pre;have e2:=bU List.length e;simp at e2;simp;lia) xs [] [] (b9++List.replicate m none) rfl (cY _ rfl (by simp) rfl)) fun acc s h1 Q3=>?_;obtain⟨J,h2,h3,h4⟩:=Q3
 apply Z;clear Z;refine Um (c8:=s) h ?_ ?_
 ·rw[h1,h4]
 ·rw[h2];simp
end
section
variable {α:Type}{f:α->D}{l:List α}{a b c d e:D}{r:List D}{i:Nat}{x:α}
theorem it0:lW (a::r) 0=some a:=by kernel_rfl
theorem it2:lW (a::b::c::r) 2=some c:=by kernel_rfl
theorem oB(h:l[i]?=some x)(hi:i<1000):lW (l.map f) (i:Int)=some (f x):=by unfold lW;rw[aJ (by lia),sE,eW,h];rfl
theorem mE{xs:List D}{k:Int}:nB (.list xs) (.int k)=lW xs k:=rfl
theorem Cw{xs:List D}{k:Int}:nB (.tuple xs) (.int k)=lW xs k:=rfl
theorem Un{xs:List D}{k:Int}:Kd (.c (.lst xs)) (.int k)=lW xs k:=rfl
theorem Uo{xs:List D}{k:Int}:yH (.lst xs) (.int k) d=if 0<=k/\k<2^40/\k.toNat<xs.length then some (.lst (xs.set k.toNat d)) else none:=rfl
theorem tK(h:l[i]?=some x)(hi:i<1000):Kd (.c (.lst (l.map f))) (.int (i:Int))=some (f x):=Un.trans (oB h hi)
theorem Ji(h:i<l.length)(hi:i<1000):yH (.lst (l.map f)) (.int (i:Int)) (f x)=some (.lst ((l.set i x).map f)):=by rw[Uo,aJ (by rw[bT];lia)];rw[sE,List.map_set]
theorem Cx(h:l.getLast?=some x):(l.map f).getLast?=some (f x):=by rw[List.getLast?_map,h];rfl
theorem zI:(l.map f).dropLast=l.dropLast.map f:=by rw[List.map_dropLast]
end
theorem pY{m v:Nat}:v∈vl m↔v<5/\m.testBit v=true:=by unfold vl;rw[eP];exact and_congr ⟨(by decide:∀v∈[0,1,2,3,4],v<5) v,(by decide:∀v,v<5->v∈[0,1,2,3,4]) v⟩ Iff.rfl
section
variable {S:Sto}{x m k:Nat}{l:Lit}{w:Option (List Lit)}{ls:List Lit}
theorem G13:G 13=cU (aD 13) 1000 f13:=rfl
theorem G14:G 14=cU (aD 14) 1000 f14:=rfl
theorem G15:G 15=cU (aD 15) 1000 f15:=rfl
theorem Gs(h:S.doms[x]?=some m)(hx:x<1000):G 13 [S.v,.d (.int x)]=some (dm m,[S.v,.d (.int x)]):=
 (gr G13 rfl (aW (cN (nW (y:= .int x) rfl (e_v rfl) rfl (tK h hx)))) rfl)
theorem Gu(h:S.firsts[x]?=some m)(hx:x<1000):G 14 [S.v,.d (.int x)]=some (dm m,[S.v,.d (.int x)]):=
 (gr G14 rfl (aW (cN (nW (y:= .int x) rfl (e_v rfl) rfl (tK h hx)))) rfl)
theorem Jj{S:Sto}(h:S.doms.length<=1000000):G 12 [S.v]=some (.int S.doms.length,[S.v]):=by
 have:=tI (T:=aD 12) (n:=1000) (f:=f12) (vs:=[S.v]) rfl (aW (cN (pX (p:= .a 0 0) (ds:=S.doms.map dm) rfl (by rw[bT];exact h)))) rfl
 rwa [bT] at this
noncomputable def oC(l:Lit):Lit:=match l.s with
 | .le=>{l with s:= .ge,k:=l.k+1}
 | .ge=>{l with s:= .le,k:=l.k-1}
 | .eq=>{l with s:= .ne}
 | .ne=>{l with s:= .eq}
theorem aB6:G 7 [.d l.d]=some ((oC l).d,[.d l.d]):=by
 obtain⟨x,s,k⟩:=l
 cases s<;>kernel_rfl
theorem Mv(hl:l.k=(k:Int))(hk:k<5)(hm:m<32):G 8 [.d l.d,.d (dm m)]=some (dm (cut l.s l.k m),[.d l.d,.d (dm m)]):=by
 have hs:l.s∈[Sn.ne,Sn.eq,Sn.le,Sn.ge]:=by cases l.s<;>decide
 unfold Lit.d;rw[hl];exact at2 (β:=Nat) (at2 (β:=Nat) (List.map_inj_left.mp (Gp (.int l.x)) l.s hs) hk) hm
end
theorem xL(f:Nat->Bool):fY f<32:=
 (by decide:∀a b c d e:Bool,(if a then 1 else 0)+(if b then 2 else 0)+(if c then 4 else 0)+(if d then 8 else 0)+(if e then 16 else 0)<32) (f 0) (f 1) (f 2) (f 3) (f 4)
theorem mR{s:Sn}{k:Int}{m:Nat}:cut s k m<32:=xL _
def Sto.cutTo(S:Sto)(l:Lit)(w:Option (List Lit))(m:Nat):Sto:=
 {S with trail:=S.trail++[⟨l.x,m,l,w⟩],doms:=S.doms.set l.x (cut l.s l.k m),news:=jO l.x (.bool true) S.news}
noncomputable def Sto.failBy(S:Sto)(ls:List Lit):Sto:={S with failed:=true,clash:=ls}
def dZ(S:Sto)(l:Lit)(w:Option (List Lit)):Bool×Sto:=match S.doms[l.x]? with
 |none=>(false,S)
 |some m=>if cut l.s l.k m=0 then(false,S.failBy (w.getD []++[oC l])) else if cut l.s l.k m=m then(true,S) else(true,S.cutTo l w m)
structure Sto.Small(S:Sto):Prop where
 doms:S.doms.length<=100
 firsts:S.firsts.length<=100
 trail:S.trail.length<=900
 marks:S.marks.length<=900
 news:S.news.length<=900
 clash:S.clash.length<=900
 dm:∀m∈S.doms,m<32
 fm:∀m∈S.firsts,m<32
theorem dm0:dm 0= .tuple []:=by kernel_rfl
theorem is_none{w:Option (List Lit)}:eL .Is (Gq w) .none=some w.isNone:=by cases w<;>rfl
theorem qY{m:Nat}(h:m<32):eL .Eq (dm m) (.tuple [])=some (Nat.beq m 0):=by rw[<-dm0];exact Ug h (by decide)
section
variable {S:Sto}{x m k:Nat}{l:Lit}{w:Option (List Lit)}
theorem aAg:nB l.d (.int 0)=some (.int l.x):=by kernel_rfl
theorem aB7:∀{j},j<15->(aD 15).fn j=G j:=mQ
theorem Up{a b:List Lit}(h:a.length+b.length<=1000000):Af .add (cE a) (cE b)=some (cE (a++b)):=by refine(aJ (by simpa using h)).trans ?_;rw[<-List.map_append];rfl
theorem Cy(hs:S.Small)(hm:S.doms[l.x]?=some m)(hk:l.k=(k:Int))(hk5:k<5)(hw:∀ls,w=some ls->ls.length<=800)(hx:l.x<1000):G 15 [S.v,.d l.d,.d (Gq w),.d (.int (-1))]=some (.bool (dZ S l w).1,[(dZ S l w).2.v,.d l.d,.d (Gq w),.d (.int (-1))]):=by
 have hm2:=hs.dm m (dT hm);have st:=Mv hk hk5 hm2;have e0:∀{R:Option (Flow×Sg)},dC (aD 15) 1000 [.ite (.cmp .Eq (.v 6) (.tup [])) [.ret (.meth 8 0 [.e (.bin .add (.ite (.cmp .Is (.v 2) (.k .none)) (.tup []) (.v 2)) (.tup [(.call 7 [.e (.v 1)])]))])] [],.ite (.cmp .Eq (.v 6) (.v 5)) [.ret (.k (.bool true))] [],.app (.a 0 2) (.tup [(.v 4),(.v 5),(.v 1),(.v 2),(.v 3)]),.setP (.a 0 0) (.v 4) (.v 6),.setP (.a 0 4) (.v 4) (.k (.bool true)),.ret (.k (.bool true))]
   [some S.v,some (.d l.d),some (.d (Gq w)),some (.d (.int (-1))),some (.d (.int l.x)),some (.d (dm m)),some (.d (dm (cut l.s l.k m)))]=R->
   dC (aD 15) 1000 f15.body [some S.v,some (.d l.d),some (.d (Gq w)),some (.d (.int (-1))),none,none,none]=R:=fun{R} h=>
  aA (bP (bO (e_v rfl) rfl aAg)) (aA (bP (nW (y:= .int l.x) rfl (e_v rfl) rfl (tK hm hx))) (aA (bP (bS (bA (e_v rfl) (bA (e_v rfl) aN)) ((mV (aB7 (by decide)) _).trans st) rfl)) h))
 have hc:cut l.s l.k m<32:=mR;unfold dZ;rw[hm];dsimp only;by_cases h0:cut l.s l.k m=0
 ·rw[aJ h0];have why:∀σ:Sg,σ.get 2=some (.d (Gq w))->evE (aD 15) (.ite (.cmp .Is (.v 2) (.k .none)) (.tup []) (.v 2)) σ=some (.d (cE (w.getD [])),σ):=fun σ hσ=>by
   cases w with
   |none=>exact lH (c:=true) (aV (e_v hσ) rfl is_none) (gK bH)
   |some ls=>exact lH (c:=false) (aV (e_v hσ) rfl is_none) (e_v hσ)
  have hl:(w.getD []).length+[oC l].length<=1000000:=by
   cases w with
   |none=>simp
   |some ls=>have:=hw ls rfl;simp;lia
  exact gr G15 rfl (e0 (aW (bQ (q:=true) (aV (e_v rfl) (gK bH) ((qY hc).trans (by rw[h0];rfl))) (aW (cN (cB (S.v|>fun _=>rfl) rfl (bA (cW (why _ rfl) (gK (aT (bS (bA (e_v rfl) aN) ((mV (aB7 (by decide)) _).trans aB6) rfl) bH)) (Up hl)) aN) rfl ((mV (aB7 (by decide)) _).trans Jg) rfl)))))) rfl
 ·rw[aR h0];have z:Nat.beq (cut l.s l.k m) 0=false:=by rw[<-fQ];intro h;exact h0 (fM h)
  by_cases he:cut l.s l.k m=m
  ·rw[aJ he];exact gr G15 rfl (e0 (aA (bQ (q:=false) (aV (e_v rfl) (gK bH) ((qY hc).trans (by rw[z]))) rfl) (aW (bQ (q:=true) (aV (e_v rfl) (e_v rfl) ((Ug hc hm2).trans (by rw[he,Nat.beq_refl]))) (aW (cN rfl)))))) rfl
  ·rw[aR he];have z2:Nat.beq (cut l.s l.k m) m=false:=by rw[<-fQ];intro h;exact he (fM h)
   have hd:l.x<S.doms.length:=(hZ.mp hm).1;refine(gr G15 rfl (e0 (aA (bQ (q:=false) (aV (e_v rfl) (gK bH) ((qY hc).trans (by rw[z]))) rfl) (aA (bQ (q:=false) (aV (e_v rfl) (e_v rfl) ((Ug hc hm2).trans (by rw[z2]))) rfl)
    (aA (pL rfl (gK (aT (e_v rfl) (aT (e_v rfl) (aT (e_v rfl) (aT (e_v rfl) (aT (e_v rfl) bH)))))) rfl (by have:=hs.trail;simp;lia) rfl)
    (aA (jF (c':= .lst ((S.doms.set l.x (cut l.s l.k m)).map dm)) (e_v rfl) rfl (e_v rfl) rfl (Ji hd hx) rfl)
    (aA (jF (c':= .di (jO l.x (.bool true) S.news)) rfl rfl (e_v rfl) rfl (aJ (by have:=hs.news;lia)) rfl)
    (aW (cN rfl)))))))) ?_)
   unfold Sto.cutTo Sto.v Sto.at;dsimp only;rw[List.map_append];rfl
variable {T:Tab}{n:Nat}{σ b9 c8:Sg}{R:Option (Flow×Sg)}{t:Tx}{body:List St}
theorem mS(h:iZ n (evT T t) (dC T n body) σ=R):evS T n (.while_ t body) σ=R:=h
theorem pZ{k:Nat}{t:Sg->Option (Bool×Sg)}{f:Sg->Option (Flow×Sg)}(h1:t σ=some (true,b9))(h2:f b9=some (.next,c8))(h3:iZ k t f c8=R):iZ (k+1) t f σ=R:=
 cH h1 ((cond_true _ _).trans (cH h2 h3))
theorem sR{k:Nat}{t:Sg->Option (Bool×Sg)}{f:Sg->Option (Flow×Sg)}(h1:t σ=some (false,b9)):iZ (k+1) t f σ=some (.next,b9):=
 cH h1 rfl
theorem aDI{i id cl:Nat}{at_:List (Nat×AV)}(h2:σ.get i=some (.inst cl at_))(h3:Nat.ble at_.length 900=true):evS T n (.setAt i id (.emp 0)) σ=some (.next,σ.put i (.inst cl (gM id (.c (.di [])) at_))):=Ul rfl h2 h3
variable {ls:List Lit}
theorem G16:G 16=cU (aD 16) 1000 f16:=rfl
theorem G17:G 17=cU (aD 17) 1000 f17:=rfl
theorem G18:G 18=cU (aD 18) 1000 f18:=rfl
theorem Mw(hs:S.Small)(hm:S.doms[l.x]?=some m)(hk:l.k=(k:Int))(hk5:k<5)(hw:ls.length<=800)(hx:l.x<1000):G 16 [S.v,.d l.d,.d (cE ls)]=some (.bool (dZ S l (some ls)).1,[(dZ S l (some ls)).2.v,.d l.d,.d (cE ls)]):=
 (gr G16 rfl (aW (cN (cB rfl rfl (bA (e_v rfl) (bA (Uj (e_v rfl)) (bA (fK rfl) aN))) rfl ((mV (mQ (k:=16) (j:=15) (by decide)) _).trans (Cy (w:=some ls) hs hm hk hk5 (fun _ e=>by cases e;exact hw) hx)) rfl))) rfl)
theorem Gv(hs:S.Small)(hm:S.doms[l.x]?=some m)(hk:l.k=(k:Int))(hk5:k<5)(hx:l.x<1000):G 17 [S.v,.d l.d]=some (.bool (dZ S l none).1,[(dZ S l none).2.v,.d l.d]):=
 (gr G17 rfl (aW (cN (cB rfl rfl (bA (e_v rfl) (bA (x:= .none) rfl (bA (x:= .int (-1)) rfl aN))) rfl ((mV (mQ (k:=17) (j:=15) (by decide)) _).trans (Cy (w:=none) hs hm hk hk5 (fun _ e=>by cases e) hx)) rfl))) rfl)
noncomputable def Sto.pushS(S:Sto):Sto:={S with marks:=S.marks++[S.trail.length]}
theorem aAh(hs:S.Small):G 18 [S.v]=some (.none,[S.pushS.v]):=by refine(gn G18 rfl (aA (pL rfl (pX rfl (by have:=hs.trail;simp;lia)) rfl (by have:=hs.marks;simp[aB];lia) rfl) rfl) ?_);unfold Sto.pushS Sto.v Sto.at aB;dsimp only;rw[List.map_append,bT];rfl
noncomputable def Cz(es:List Ent)(ds:List Nat):List Nat:=es.foldr (fun e d=>d.set e.x e.old) ds
theorem xM(es:List Ent)(e:Ent)(ds:List Nat):Cz (es++[e]) ds=Cz es (ds.set e.x e.old):=by unfold Cz;rw[List.foldr_append];rfl
theorem aFe{e:Ent}:nB e.d (.int 0)=some (.int e.x):=by kernel_rfl
theorem aFf{e:Ent}:nB e.d (.int 1)=some (dm e.old):=by kernel_rfl
noncomputable def Jk:List St:=[.asg 3 (.popP (.a 0 2)),.setP (.a 0 0) (.sub (.v 3) (.k (.int 0))) (.sub (.v 3) (.k (.int 1)))]
noncomputable def Jl:Tx:= .cmp .Gt (.lenP (.a 0 2)) (.v 2)
theorem Db{T:Tab}{y:V}:∀(k:Nat) (pre es:List Ent) (S:Sto) (J:Option V) (n:Nat),es.length=k->S.trail=pre++es->k<n->S.trail.length<=900->S.doms.length<=100->(∀e∈es,e.x<S.doms.length)->
  ∃J',iZ n (evT T Jl) (dC T 1000 Jk) [some S.v,some y,some (.d (.int (pre.length:Int))),J]=some (.next,[some ({S with trail:=pre,doms:=Cz es S.doms}:Sto).v,some y,some (.d (.int (pre.length:Int))),J'])
 |0,pre,es,S,J,n,hk,ht,hn,hl,hd,hx=>by
  obtain rfl:es=[]:=List.length_eq_zero_iff.mp hk;obtain⟨n,rfl⟩:∃m,n=m+1:=⟨n-1,by lia⟩;rw[List.append_nil] at ht;subst ht;exact⟨J,sR (aV (pX rfl (by simp;lia)) (e_v rfl) (by show some (decide ((S.trail.length:Int)<((S.trail.map Ent.d).length:Int)))=_;simp))⟩
 |k+1,pre,es,S,J,n,hk,ht,hn,hl,hd,hx=>by
  obtain⟨n,rfl⟩:∃m,n=m+1:=⟨n-1,by lia⟩;have hne:es≠[]:=by intro q;subst q;simp at hk
  obtain⟨es',e,rfl⟩:∃es' e,es=es'++[e]:=⟨es.dropLast,es.getLast hne,(List.dropLast_concat_getLast hne).symm⟩;have hlast:S.trail.getLast?=some e:=by rw[ht,<-List.append_assoc,List.getLast?_concat]
  have hdrop:S.trail.dropLast=pre++es':=by rw[ht,<-List.append_assoc,List.dropLast_concat]
  have hex:e.x<S.doms.length:=hx e (by simp);obtain⟨J',ih⟩:=Db (T:=T) (y:=y) k pre es' {S with trail:=pre++es',doms:=S.doms.set e.x e.old} (some (.d e.d)) n (by simpa using hk) rfl (tR ‹_›) (by rw[<-hdrop,List.length_dropLast];lia) (by simpa using hd) (fun e' he'=>by rw[List.length_set];exact hx e' (by simp[he']));refine⟨J',pZ (aV (pX rfl (by simp;lia)) (e_v rfl) ?_) (aA (bP (aB5 rfl (Cx hlast) (by simp;lia) rfl)) (aA (jF (c':= .lst ((S.doms.set e.x e.old).map dm)) (bO (e_v rfl) rfl aFf) rfl (bO (e_v rfl) rfl aFe) rfl (Ji hex (by lia)) rfl) rfl)) ?_⟩
  ·show some (decide ((pre.length:Int)<((S.trail.map Ent.d).length:Int)))=_;rw[ht];simp;lia
  ·rw[xM];rw[<-ih];unfold Sto.v Sto.at;dsimp only;rw[zI,hdrop];rfl
end
theorem oE{β:Type}{f:Sg->D->Option (Flow×Sg)}{m6:β->D}{all:List β}(P:List β->Sg->Prop)(Q:D->Sg->Prop)(step:∀(pre:List β) (x:β) (m0:List β) (σ:Sg),pre++x::m0=all->P pre σ->(∃d7,f σ (m6 x)=some (.next,d7)/\P (pre++[x]) d7)\/∃d d7,f σ (m6 x)=some (.ret d,d7)/\Q d d7):
  ∀(m0 pre:List β) (σ:Sg),pre++m0=all->P pre σ->(∃d7,lB f (m0.map m6) σ=some (.next,d7)/\P all d7)\/∃d d7,lB f (m0.map m6) σ=some (.ret d,d7)/\Q d d7
 |[],pre,σ,e,h=> .inl (aH σ rfl (by rw[<-e];simpa using h))
 |x::m0,pre,σ,e,h=>by
  rcases step pre x m0 σ e h with⟨b9,h1,h2⟩|⟨d,b9,h1,h2⟩
  ·exact(oE P Q step m0 (pre++[x]) b9 (by rw[<-e];simp) h2).imp (fun⟨s,q,r⟩=>⟨s,cH h1 q,r⟩) fun⟨d,s,q,r⟩=>⟨d,s,cH h1 q,r⟩
  ·exact .inr (hN d b9 (cH h1 rfl) h2)
noncomputable def hV(f:Nat->Bool):List D:=[.bool (f 0),.bool (f 1),.bool (f 2),.bool (f 3)]
def lay(f:Nat->Bool):D:= .list (hV f)
noncomputable def rU(f:Nat->Bool)(i:Nat)(b:Bool):Nat->Bool:=fun j=>bif Nat.beq j i then b else f j
theorem oF{f:Nat->Bool}{i:Nat}(h:i<4):nB (lay f) (.int (i:Int))=some (.bool (f i)):=by refine lS h (fun h=>lS h (fun h=>lS h (fun h=>lS h l0 ?_) ?_) ?_) ?_<;>kernel_rfl
theorem tL{f:Nat->Bool}{i:Nat}{b:Bool}(h:i<4):yH (.lst (hV f)) (.int (i:Int)) (.bool b)=some (.lst (hV (rU f i b))):=by refine lS h (fun h=>lS h (fun h=>lS h (fun h=>lS h l0 ?_) ?_) ?_) ?_<;>kernel_rfl
theorem zJ{f:Nat->Bool}{i j:Nat}{b:Bool}:rU f i b j=if j=i then b else f j:=by
 unfold rU;by_cases h:j=i
 ·subst h;simp
 ·have:Nat.beq j i=false:=by rw[<-fQ];intro q;exact h (fM q)
  rw[this,aR h];rfl
theorem vG{f g:Nat->Bool}(h:∀t,t<4->f t=g t):hV f=hV g:=by unfold hV;rw[h 0 (by decide),h 1 (by decide),h 2 (by decide),h 3 (by decide)]
def iW(n:Nat)(L:Nat->Nat->Bool):List D:=(List.range (n+1)).map fun i=>lay (L i)
def bW(n:Nat)(L:Nat->Nat->Bool):D:= .list (iW n L)
theorem oS{n i:Nat}(h:i<n):(List.range n)[i]?=some i:=by simp[h]
theorem oT{n i:Nat}{L:Nat->Nat->Bool}(h:i<=n)(hi:i<1000):nB (bW n L) (.int (i:Int))=some (lay (L i)):=
 mE.trans<|oB (f:=fun i=>lay (L i)) (l:=List.range (n+1)) (oS (Nat.lt_succ_of_le ‹_›)) hi
theorem vH{n:Nat}{L:Nat->Nat->Bool}:iW n L++[lay (L (n+1))]=iW (n+1) L:=by unfold iW;rw[List.range_succ (n:=n+1),List.map_append];rfl
noncomputable def Uq(M:Nat->Nat->Nat)(s:Nat):D:= .tuple [.int (M s 1:Int),.int (M s 2:Int),.int (M s 3:Int)]
def fP(M:Nat->Nat->Nat):D:= .tuple [Uq M 1,Uq M 2,Uq M 3]
theorem aAi{M:Nat->Nat->Nat}{s:Nat}(h:1<=s/\s<=3):nB (fP M) (.int ((s:Int)-1))=some (Uq M s):=by refine b3 h ?_ ?_ ?_<;>kernel_rfl
theorem aB8{M:Nat->Nat->Nat}{s a:Nat}(h:1<=a/\a<=3):nB (Uq M s) (.int ((a:Int)-1))=some (.int (M s a:Int)):=by refine b3 h ?_ ?_ ?_<;>kernel_rfl
structure Rg where
 (M:Nat->Nat->Nat) (pl fin:List Nat) (tw:Bool)
def Rg.v(r:Rg):V:= .inst 1 [(8,.d (.int (-1))),(9,.d (.tuple (aB r.pl))),(10,.d (.str oK)),(11,.d (.int 3)),(12,.d (.int 3)),(13,.d (fP r.M)),(14,.d (.int 1)),(15,.d (.tuple (aB r.fin))),(16,.d (.bool r.tw))]
structure Rg.Ok(r:Rg):Prop where
 m:∀s a,r.M s a<4
 len:1<=r.pl.length/\r.pl.length<=4
 p:∀x∈r.pl,x<3
 f:∀s∈r.fin,1<=s/\s<=3
 fl:r.fin.length<=3
section
variable {T:Tab}{σ:Sg}{r:Ex}{M:Nat->Nat->Nat}{s a i j:Nat}
theorem pM(hr:evE T r σ=some (.d (fP M),σ))(hi:σ.get i=some (.d (.int (s:Int))))(hj:σ.get j=some (.d (.int (a:Int))))(hs:1<=s/\s<=3)(ha:1<=a/\a<=3):
  evE T (.sub (.sub r (.bin .sub (.v i) (.k (.int 1)))) (.bin .sub (.v j) (.k (.int 1)))) σ=some (.d (.int (M s a:Int)),σ):=
 bO (bO hr (cW (e_v hi) rfl rfl) (aAi hs)) (cW (e_v hj) rfl rfl) (aB8 ha)
end
theorem aAj{α:Type}{l:List α}{n:Nat}(h:l.length=n+1){P:Prop}(f:∀a t,l=a::t->t.length=n->P):P:=by
 cases l with
 |nil=>cases h
 |cons a t=>exact f a t rfl (Nat.succ.inj h)
theorem eK{α:Type}{l:List α}(h:l.length=2){P:Prop}(f:∀a b,l=[a,b]->P):P:=
 aAj h fun a _ e h=>aAj h fun b _ e2 h=>f a b (by rw[e,e2,mU h])
theorem pN{α:Type}{l:List α}(h:l.length=3){P:Prop}(f:∀a b c,l=[a,b,c]->P):P:=
 aAj h fun a _ e h=>eK h fun b c e2=>f a b c (by rw[e,e2])
theorem aA4{α:Type}{l:List α}(h:l.length=4){P:Prop}(f:∀a b c d,l=[a,b,c,d]->P):P:=
 aAj h fun a _ e h=>pN h fun b c d e2=>f a b c d (by rw[e,e2])
theorem lR{s:Nat}:s∈[1,2,3]↔1<=s/\s<=3:=
 ⟨(by decide:∀s∈[1,2,3],1<=s/\s<=3) s,fun h=>(by decide:∀s,s<4->1<=s->s∈[1,2,3]) s (Nat.lt_succ_of_le h.2) h.1⟩
theorem gO{α:Type}{pre m0 all:List α}{x:α}(e:pre++x::m0=all):x∈all:=by rw[<-e];simp
def dK(ks:List (List Nat)):D:= .list (ks.map fun l=> .list (aB l))
theorem zK{a b:Nat}:PyData.eqv (.int (a:Int)) (.int (b:Int))=decide (a=b):=by
 show((a:Int)==(b:Int))=_;by_cases h:a=b
 ·subst h;simp
 ·simp[h];lia
theorem vJ:∀a b:List Nat,PyData.eqvAll (aB a) (aB b)=decide (a=b)
 |[],[]=>rfl
 |x::a,[]=>by simp[aB,PyData.eqvAll]
 |[],y::b=>by simp[aB,PyData.eqvAll]
 |x::a,y::b=>by show(PyData.eqv (.int (x:Int)) (.int (y:Int))&&PyData.eqvAll (aB a) (aB b))=_;rw[vJ a b,zK];by_cases h:x=y<;>by_cases h2:a=b<;>simp[h,h2]
theorem vK:∀l:List Nat,PyData.canLayAll0 (aB l)=true/\PyData.depthAll (aB l)<=1
 |[]=>⟨rfl,by decide⟩
 |x::l=>by
  obtain⟨h1,h2⟩:=vK l;refine⟨?_,?_⟩
  ·show(PyData.canLay0 (.int (x:Int))&&PyData.canLayAll0 (aB l))=true;rw[h1];rfl
  ·show max (PyData.depth (.int (x:Int))) (PyData.depthAll (aB l))<=1;have:PyData.depth (.int (x:Int))=0:=rfl;assumption
theorem zL{l:List Nat}:okD (.list (aB l))=true:=by refine cK (vK l) fun h1 h2=>?_;unfold okD;have e1:PyData.canLay0 (.list (aB l))=PyData.canLayAll0 (aB l):=rfl;have e2:PyData.depth (.list (aB l))=PyData.depthAll (aB l)+1:=rfl;rw[e1,e2,h1,Bool.true_and,decide_eq_true_eq];lia
theorem eq_int{a b:Nat}:eqD (.int (a:Int)) (.int (b:Int))=some (decide (a=b)):=(show _=some (PyData.eqv (.int (a:Int)) (.int (b:Int))) from rfl).trans (bU some zK)
theorem aAk{a b:List Nat}:eqD (.list (aB a)) (.list (aB b))=some (decide (a=b)):=by show(if okD (.list (aB a))&&okD (.list (aB b)) then some (PyData.eqvAll (aB a) (aB b)) else none)=_;rw[zL,zL,vJ];rfl
theorem rV{a:List Nat}:eqD (.list (aB a)) (.list [])=some (decide (a=[])):=aAk (b:=[])
theorem Ur{l:List Nat}:(aB l).all okD=true:=by unfold aB;rw[List.all_map,List.all_eq_true];intro x hx;rfl
theorem any_ints{l:List Nat}{s:Nat}:((aB l).any fun y=>PyData.eqv y (.int (s:Int)))=l.contains s:=by
 unfold aB;rw[List.any_map,List.contains_eq_any_beq]
 congr 1
 funext x
 show PyData.eqv (.int (x:Int)) (.int (s:Int))=_;rw[zK];by_cases h:x=s
 ·subst h;simp
 ·have:s≠x:=fun q=>h q.symm;simp[h,this]
theorem qZ{l:List Nat}{s:Nat}:inD (.int (s:Int)) (.list (aB l))=some (l.contains s):=by show(if okD (.int (s:Int))&&(aB l).all okD then some ((aB l).any fun y=>PyData.eqv y (.int (s:Int))) else none)=_;rw[Ur,any_ints];rfl
theorem vL{l:List Nat}{s:Nat}:inD (.int (s:Int)) (.tuple (aB l))=some (l.contains s):=qZ
theorem kP{α:Type}{l:List α}:l.filter (fun _=>true)=l:=by simp
theorem jZ{f:Sg->D->Option (Flow×Sg)}{x:D}{xs:List D}{σ b9:Sg}{R:Option (Flow×Sg)}(h:f σ x=some (.next,b9))(h2:lB f xs b9=R):lB f (x::xs) σ=R:=cH h h2
theorem G11:G 11=cU (aD 11) 1000 f11:=rfl
theorem G19:G 19=cU (aD 19) 1000 f19:=rfl
noncomputable def aAl:Sto:=⟨[],[],[],[],[],false,[]⟩
theorem aAm:G 9 [.inst 0 []]=some (.none,[aAl.v]):=by kernel_rfl
theorem Mx{S:Sto}{m:Nat}(h:S.doms.length<=100)(h2:S.firsts.length<=100)(hm:m<32)(h0:m≠0):G 11 [S.v,.d (dm m)]=some (.int S.doms.length,[({S with doms:=S.doms++[m],firsts:=S.firsts++[m]}:Sto).v,.d (dm m)]):=by
 have z:Nat.beq m 0=false:=by rw[<-fQ];intro h;exact h0 (fM h)
 have e:({S with doms:=S.doms++[m],firsts:=S.firsts++[m]}:Sto).v= .inst 0 (({S with doms:=S.doms++[m],firsts:=S.firsts++[m]}:Sto).at):=rfl;refine(gr G11 rfl (aA (pL rfl (e_v rfl) rfl (by simp;lia) rfl) (aA (pL rfl (e_v rfl) rfl (by simp;lia) rfl) (aA (bQ (q:=false) (aV (e_v rfl) (gK bH) ((qY hm).trans (by rw[z]))) rfl) (aW (cN (cW (pX (ds:=(S.doms++[m]).map dm) ?_ (by simp;lia)) rfl ?_)))))) ?_)
 ·rw[List.map_append];rfl
 ·show some (PyData.int (((S.doms++[m]).map dm).length-1))=_;simp
 ·unfold Sto.v Sto.at;dsimp only;rw[List.map_append,List.map_append];rfl
noncomputable def Dc(M:Nat->Nat->Nat)(f:Nat->Bool)(l:List Nat):Nat->Bool:=fun t=> !(Nat.beq t 0)&&[1,2,3].any fun s=>f s&&l.any fun a=>Nat.beq (M s a) t
noncomputable def Dd(M:Nat->Nat->Nat)(f:Nat->Bool)(l:List Nat):Nat->Bool:=fun s=> !(Nat.beq s 0)&&l.any fun a=>f (M s a)
def Rch(M:Nat->Nat->Nat)(ks:List (List Nat)):Nat->Nat->Bool
 |0=>fun s=>Nat.beq s 1
 |i+1=>Dc M (Rch M ks i) (ks.getD i [])
def Alv(M:Nat->Nat->Nat)(fin:List Nat)(ks:List (List Nat)):Nat->Nat->Bool
 |0=>fun s=>fin.contains s
 |i+1=>Dd M (Alv M fin ks i) (ks.getD (ks.length-1-i) [])
theorem G22:G 22=cU (aD 22) 1000 f22:=rfl
theorem G23:G 23=cU (aD 23) 1000 f23:=rfl
theorem G28:G 28=cU (aD 28) 1000 f28:=rfl
section
variable {r:Rg}{ks:List (List Nat)}
theorem Us{T:Tab}{g f:Nat->Bool}{l:List Nat}{s:Nat}{k x3 j7:Option V}(hr:∀s a,r.M s a<4)(hs:1<=s/\s<=3)(hl:∀a∈l,1<=a/\a<=3):
  ∃g' j7',evS T 1000 (.for_ (.n 7) (.seq (.ite (.val (.sub (.v 2) (.v 6))) (.v 4) (.frz (.lst [])))) [.setP (.v 5) (.sub (.sub (.at 0 13) (.bin .sub (.v 6) (.k (.int 1)))) (.bin .sub (.v 7) (.k (.int 1)))) (.k (.bool true))])
   [some r.v,k,some (.d (lay f)),x3,some (.d (.list (aB l))),some (.c (.lst (hV g))),some (.d (.int (s:Int))),j7]=some (.next,[some r.v,k,some (.d (lay f)),x3,some (.d (.list (aB l))),some (.c (.lst (hV g'))),some (.d (.int (s:Int))),j7'])/\∀t,g' t=(g t||(f s&&l.any fun a=>Nat.beq (r.M s a) t)):=by
 apply bc;intro Z;refine Ac (dA (f:=eG T 1000 (.n 7) [.setP (.v 5) (.sub (.sub (.at 0 13) (.bin .sub (.v 6) (.k (.int 1)))) (.bin .sub (.v 7) (.k (.int 1)))) (.k (.bool true))]) (m6:=fun(v:Nat)=>PyData.int (v:Int)) (all:=if f s then l else[])
  (fun pre σ=>∃g' j7',σ=[some r.v,k,some (.d (lay f)),x3,some (.d (.list (aB l))),some (.c (.lst (hV g'))),some (.d (.int (s:Int))),j7']/\∀t,g' t=(g t||pre.any fun a=>Nat.beq (r.M s a) t))
  (fun pre a m0 σ e zz=>by
   refine fG zz fun g' j7' Q2 hg=>?_;clear zz;subst Q2;have ha:1<=a/\a<=3:=by
    have:=gO e
    cases hf:f s<;>rw[hf] at this
    ·exact absurd this (by simp)
    ·exact hl a this
   refine(Ab _ (aA (jF (c':= .lst (hV (rU g' (r.M s a) true))) rfl rfl (pM (fK rfl) rfl rfl hs ha) rfl (tL (hr s a)) rfl) rfl) _ (some (.d (.int (a:Int)))) rfl (fun t=>?_));rw[zJ,List.any_append,hg];by_cases q:t=r.M s a
   ·subst q;simp
   ·rw[aR q];have:Nat.beq (r.M s a) t=false:=by rw[<-fQ];intro z;exact q (fM z).symm
    simp[this]) (if f s then l else[]) [] [some r.v,k,some (.d (lay f)),x3,some (.d (.list (aB l))),some (.c (.lst (hV g))),some (.d (.int (s:Int))),j7] rfl (hN g j7 rfl (fun t=>by simp))) fun d7 h g' j7' Q4 hg=>?_;subst Q4
 apply Z;clear Z;refine(hN g' j7' (eJ (ds:=(if f s then l else[]).map fun(v:Nat)=>PyData.int (v:Int)) (dR (x:= .list (aB (if f s then l else[]))) (lH (c:=f s) (dY (bO (e_v rfl) (e_v rfl) (oF (by lia)))) ?_) rfl) h) (fun t=>?_))
 ·cases f s<;>rfl
 ·rw[hg]
  cases f s<;>simp
theorem Gw(hr:∀s a,r.M s a<4)(hl:∀l∈ks,∀a∈l,1<=a/\a<=3)(hk:ks.length<=4):G 22 [r.v,.d (dK ks)]=some (bW ks.length (Rch r.M ks),[r.v,.d (dK ks)]):=by
 apply bc;intro Z;have e1:evE (aD 22) (.frz (.comp 2 (.cmp .Eq (.v 8) (.at 0 14)) (.n 8) (.r1 (.bin .add (.at 0 11) (.k (.int 1)))) [])) [some r.v,some (.d (dK ks)),none,none,none,none,none,none]=some (.d (lay (Rch r.M ks 0)),[some r.v,some (.d (dK ks)),none,none,none,none,none,none]):=by kernel_rfl
 refine aP (dA (f:=eG (aD 22) 1000 (.n 4) [.asg 5 (.rep (.k (.bool false)) (.bin .add (.at 0 11) (.k (.int 1)))),.for_ (.n 6) (.r2 (.k (.int 1)) (.bin .add (.at 0 11) (.k (.int 1)))) [.for_ (.n 7) (.seq (.ite (.val (.sub (.v 2) (.v 6))) (.v 4) (.frz (.lst [])))) [.setP (.v 5) (.sub (.sub (.at 0 13) (.bin .sub (.v 6) (.k (.int 1)))) (.bin .sub (.v 7) (.k (.int 1)))) (.k (.bool true))]],.setP (.v 5) (.k (.int 0)) (.k (.bool false)),.asg 2 (.sh 5),.app (.v 3) (.v 2)]) (m6:=fun l=>PyData.list (aB l)) (all:=ks)
  (fun pre σ=>∃j4 j5 j6 j7,σ=[some r.v,some (.d (dK ks)),some (.d (lay (Rch r.M ks pre.length))),some (.c (.lst (iW pre.length (Rch r.M ks)))),j4,j5,j6,j7])
  (fun pre l m0 σ e zz=>by
   refine X4 zz fun j4 j5 j6 j7 Q4=>?_;subst Q4;refine aP (dA (f:=eG (aD 22) 1000 (.n 6) [.for_ (.n 7) (.seq (.ite (.val (.sub (.v 2) (.v 6))) (.v 4) (.frz (.lst [])))) [.setP (.v 5) (.sub (.sub (.at 0 13) (.bin .sub (.v 6) (.k (.int 1)))) (.bin .sub (.v 7) (.k (.int 1)))) (.k (.bool true))]]) (m6:=fun(v:Nat)=>PyData.int (v:Int)) (all:=[1,2,3])
    (fun q σ=>∃g' k6 k7,σ=[some r.v,some (.d (dK ks)),some (.d (lay (Rch r.M ks pre.length))),some (.c (.lst (iW pre.length (Rch r.M ks)))),some (.d (.list (aB l))),some (.c (.lst (hV g'))),k6,k7]/\∀t,g' t=q.any fun s=>Rch r.M ks pre.length s&&l.any fun a=>Nat.beq (r.M s a) t)
    (fun q s suf' σ e' zz=>by refine sX zz fun g' k6 k7 Q3 hg=>?_;clear zz;subst Q3;refine fG (Us (T:=aD 22) (g:=g') (f:=Rch r.M ks pre.length) (k:=some (.d (dK ks))) (x3:=some (.c (.lst (iW pre.length (Rch r.M ks))))) (j7:=k7) hr (lR.mp (gO e')) (hl l (gO e))) fun g2 k7' h2 hg2=>?_;exact(aH _ (aA h2 rfl) (nA g2 _ _ rfl (fun t=>by rw[hg2,hg,List.any_append];simp)))) [1,2,3] [] [some r.v,some (.d (dK ks)),some (.d (lay (Rch r.M ks pre.length))),some (.c (.lst (iW pre.length (Rch r.M ks)))),some (.d (.list (aB l))),some (.c (.lst (hV fun _=>false))),j6,j7] rfl (nA (fun _=>false) j6 j7 rfl (fun t=>rfl))) fun d7 h Q2=>?_;obtain⟨g',k6,k7,rfl,hg⟩:=Q2
   have hlate:hV (rU g' 0 false)=hV (Rch r.M ks (pre.length+1)):=vG fun t ht=>by
    have hi:ks.getD pre.length []=l:=by rw[<-e];simp
    rw[zJ];show _=Dc r.M (Rch r.M ks pre.length) (ks.getD pre.length []) t;rw[hi];unfold Dc;by_cases q:t=0
    ·clear ht;subst q;rfl
    ·have:Nat.beq t 0=false:=by rw[<-fQ];intro z;exact q (fM z)
     rw[aR q,this,hg];rfl
   have hn:pre.length<=4:=by have:=bU List.length e;simp at this;lia
   refine(aH _ (aA (bP (aA2 rfl (cW (fK rfl) rfl rfl) rfl)) (aA (eJ (zG rfl (cW (fK rfl) rfl rfl) (by decide)) h) (aA (jF (c':= .lst (hV (rU g' 0 false))) rfl rfl rfl rfl (tL (i:=0) (by decide)) rfl) (aA (bP (wP rfl rfl)) (aA (pL rfl (e_v rfl) rfl (by unfold iW;simp;lia) rfl) rfl))))) ?_);refine(I4 (some (.d (.list (aB l)))) (some (.d (lay (Rch r.M ks (pre.length+1))))) k6 k7 ?_);rw[dI,kY,<-vH,show PyData.list (hV (rU g' 0 false))=lay (Rch r.M ks (pre.length+1)) from bU PyData.list hlate];rfl) ks [] [some r.v,some (.d (dK ks)),some (.d (lay (Rch r.M ks 0))),some (.c (.lst [lay (Rch r.M ks 0)])),none,none,none,none] rfl (I4 _ _ _ _ rfl)) fun d7 h Q2=>?_;obtain⟨j4,j5,j6,j7,rfl⟩:=Q2
 apply Z;clear Z;exact gr G22 rfl (aA (bP e1) (aA (bP (iV (aT (e_v rfl) bH))) (aA (eJ (dR (e_v rfl) rfl) h) (aW (cN (wP rfl rfl)))))) rfl
theorem My{n:Nat}{L:Nat->Nat->Bool}:(iW n L).reverse=iW n fun i=>L (n-i):=by unfold iW;rw[<-List.map_reverse];refine List.ext_getElem (by simp) fun i h1 h2=>?_;simp
theorem Ut{l:List Nat}{f:Nat->Bool}:inD (.bool true) (.list (l.map fun a=> .bool (f a)))=some (l.any f):=by
 have q:(l.map fun a=>PyData.bool (f a)).all okD=true:=by rw[List.all_map,List.all_eq_true];intro x hx;rfl
 show(if okD (.bool true)&&(l.map fun a=>PyData.bool (f a)).all okD then some ((l.map fun a=>PyData.bool (f a)).any fun y=>PyData.eqv y (.bool true)) else none)=_;rw[q,List.any_map];show some _=_
 congr 2
 funext x
 show PyData.eqv (.bool (f x)) (.bool true)=_
 cases f x<;>rfl
theorem Uu{T:Tab}{f:Nat->Bool}{l:List Nat}{s:Nat}{k x3:Option V}{g:Nat->Bool}(hr:∀s a,r.M s a<4)(hs:1<=s/\s<=3)(hl:∀a∈l,1<=a/\a<=3)(hn:l.length<=5):
  evS T 1000 (.setP (.v 5) (.v 6) (.cmp .In (.k (.bool true)) (.frz (.comp 2 (.sub (.v 2) (.sub (.sub (.at 0 13) (.bin .sub (.v 6) (.k (.int 1)))) (.bin .sub (.v 7) (.k (.int 1))))) (.n 7) (.seq (.v 4)) []))))
   [some r.v,k,some (.d (lay f)),x3,some (.d (.list (aB l))),some (.c (.lst (hV g))),some (.d (.int (s:Int)))]=some (.next,[some r.v,k,some (.d (lay f)),x3,some (.d (.list (aB l))),some (.c (.lst (hV (rU g s (l.any fun a=>f (r.M s a)))))),some (.d (.int (s:Int)))]):=by
 have e1:=bV (T:=T) (m:=2) (l8:=(.sub (.v 2) (.sub (.sub (.at 0 13) (.bin .sub (.v 6) (.k (.int 1)))) (.bin .sub (.v 7) (.k (.int 1)))))) (tg:= .n 7) (it:= .seq (.v 4)) (ifs:=[]) (m6:=fun(v:Nat)=>PyData.int (v:Int)) (xs:=l) (c:=fun _=>true) (g:=fun a=> .bool (f (r.M s a)))
  (σ:=[some r.v,k,some (.d (lay f)),x3,some (.d (.list (aB l))),some (.c (.lst (hV g))),some (.d (.int (s:Int)))]) (b9:=[some r.v,k,some (.d (lay f)),x3,some (.d (.list (aB l))),some (.c (.lst (hV g))),some (.d (.int (s:Int)))]) (dR (e_v rfl) rfl) (by lia)
  (fun a ha J hJ=>by apply bc;intro Z;refine eK hJ fun x y Q2=>?_;clear hJ;subst Q2;apply Z;clear Z;exact(fH _ ([some (.d (.int (a:Int))),y]) rfl cG rfl (fun _=>(aH _ (bO (e_v rfl) (pM (fK rfl) rfl rfl hs (hl a ha)) (oF (hr s a))) rfl))))
 rw[kP] at e1;exact jF (c':= .lst (hV (rU g s (l.any fun a=>f (r.M s a))))) (gZ rfl (cR e1 rfl) Ut) rfl (e_v rfl) rfl (tL (by lia)) rfl
theorem Uv(hr:r.Ok)(hl:∀l∈ks,l.length<=5/\∀a∈l,1<=a/\a<=3)(hk:ks.length<=4):G 23 [r.v,.d (dK ks)]=some (bW ks.length fun i=>Alv r.M r.fin ks (ks.length-i),[r.v,.d (dK ks)]):=by
 apply bc;intro Z;have hf0:r.fin.contains 0=false:=by rw[<-fQ];intro h;have:=(hr.f 0 (by simpa using h)).1;lia
 have e1:=bV (T:=aD 23) (m:=2) (l8:= .cmp .In (.v 7) (.at 0 15)) (tg:= .n 7) (it:= .r1 (.bin .add (.at 0 11) (.k (.int 1)))) (ifs:=[]) (m6:=fun(v:Nat)=>PyData.int (v:Int)) (xs:=[0,1,2,3]) (c:=fun _=>true) (g:=fun s=> .bool (r.fin.contains s))
  (σ:=[some r.v,some (.d (dK ks)),none,none,none,none,none]) (b9:=[some r.v,some (.d (dK ks)),none,none,none,none,none]) (vE (k:=4) (cW (fK rfl) rfl rfl) (by decide)) (by decide)
  (fun a ha J hJ=>by refine eK hJ fun x y Q2=>?_;clear hJ;subst Q2;exact(fH _ ([some (.d (.int (a:Int))),y]) rfl cG rfl (fun _=>(aH _ (gZ (e_v rfl) (fK rfl) vL) rfl))))
 rw[kP] at e1;have e0:hV (rU (fun s=>r.fin.contains s) 0 false)=hV (Alv r.M r.fin ks 0):=vG fun t ht=>by
  rw[zJ];by_cases q:t=0
  ·clear ht;subst q;rw[aJ rfl];exact hf0.symm
  ·rw[aR q];rfl
 refine aP (dA (f:=eG (aD 23) 1000 (.n 4) [.asg 5 (.rep (.k (.bool false)) (.bin .add (.at 0 11) (.k (.int 1)))),.for_ (.n 6) (.r2 (.k (.int 1)) (.bin .add (.at 0 11) (.k (.int 1)))) [.setP (.v 5) (.v 6) (.cmp .In (.k (.bool true)) (.frz (.comp 2 (.sub (.v 2) (.sub (.sub (.at 0 13) (.bin .sub (.v 6) (.k (.int 1)))) (.bin .sub (.v 7) (.k (.int 1))))) (.n 7) (.seq (.v 4)) [])))],.asg 2 (.sh 5),.app (.v 3) (.v 2)]) (m6:=fun l=>PyData.list (aB l)) (all:=ks.reverse)
  (fun pre σ=>∃j4 j5 j6 x2,σ=[some r.v,some (.d (dK ks)),x2,some (.c (.lst (iW pre.length (Alv r.M r.fin ks)))),j4,j5,j6]/\x2=some (.d (lay (Alv r.M r.fin ks pre.length))))
  (fun pre l m0 σ e zz=>by
   refine Nw zz fun j4 j5 j6 x2 hσ hx=>?_;clear zz;subst hσ hx;have hll:=hl l (List.mem_reverse.mp (gO e));have hn:pre.length<ks.length:=by have:=bU List.length e;simp at this;lia
   have h:evS (aD 23) 1000 (.for_ (.n 6) (.r2 (.k (.int 1)) (.bin .add (.at 0 11) (.k (.int 1)))) [.setP (.v 5) (.v 6) (.cmp .In (.k (.bool true)) (.frz (.comp 2 (.sub (.v 2) (.sub (.sub (.at 0 13) (.bin .sub (.v 6) (.k (.int 1)))) (.bin .sub (.v 7) (.k (.int 1))))) (.n 7) (.seq (.v 4)) [])))]) [some r.v,some (.d (dK ks)),some (.d (lay (Alv r.M r.fin ks pre.length))),some (.c (.lst (iW pre.length (Alv r.M r.fin ks)))),some (.d (.list (aB l))),some (.c (.lst (hV fun _=>false))),j6]=some (.next,[some r.v,some (.d (dK ks)),some (.d (lay (Alv r.M r.fin ks pre.length))),some (.c (.lst (iW pre.length (Alv r.M r.fin ks)))),some (.d (.list (aB l))),some (.c (.lst (hV (Alv r.M r.fin ks (pre.length+1))))),some (.d (.int 3))]):=by
    have q:hV (rU (rU (rU (fun _=>false) 1 (l.any fun a=>Alv r.M r.fin ks pre.length (r.M 1 a))) 2 (l.any fun a=>Alv r.M r.fin ks pre.length (r.M 2 a))) 3 (l.any fun a=>Alv r.M r.fin ks pre.length (r.M 3 a)))=hV (Alv r.M r.fin ks (pre.length+1)):=by
     have hi:ks.getD (ks.length-1-pre.length) []=l:=by
      have h1:ks.reverse[pre.length]?=some l:=by rw[<-e];simp
      rw[List.getElem?_reverse hn] at h1;rw[dS,h1];rfl
     show _=hV (Dd r.M (Alv r.M r.fin ks pre.length) (ks.getD (ks.length-1-pre.length) []));rw[hi];rfl
    rw[<-q];refine eJ (zG rfl (cW (fK rfl) rfl rfl) (by decide)) ?_;show lB _ [PyData.int ((1:Nat):Int),PyData.int ((2:Nat):Int),PyData.int ((3:Nat):Int)] _=_;have st:=fun(s:Nat) (hs:1<=s/\s<=3) (g:Nat->Bool)=>Uu (T:=aD 23) (f:=Alv r.M r.fin ks pre.length) (k:=some (.d (dK ks))) (x3:=some (.c (.lst (iW pre.length (Alv r.M r.fin ks))))) (g:=g) hr.m hs hll.2 hll.1;refine jZ (aA (st 1 (by decide) _) rfl) (jZ (aA (st 2 (by decide) _) rfl) (jZ (aA (st 3 (by decide) _) rfl) rfl))
   refine(aH _ (aA (bP (aA2 rfl (cW (fK rfl) rfl rfl) rfl)) (aA h (aA (bP (wP rfl rfl)) (aA (pL rfl (e_v rfl) rfl (by unfold iW;simp;lia) rfl) rfl)))) ?_);refine(xZ (some (.d (.list (aB l)))) (some (.d (lay (Alv r.M r.fin ks (pre.length+1))))) (some (.d (.int 3))) (some (.d (lay (Alv r.M r.fin ks (pre.length+1))))) ?_ (by rw[dI,kY]));rw[dI,kY,<-vH];rfl) ks.reverse [] [some r.v,some (.d (dK ks)),some (.d (lay (Alv r.M r.fin ks 0))),some (.c (.lst [lay (Alv r.M r.fin ks 0)])),none,none,none] rfl (xZ _ _ _ _ rfl rfl)) fun d7 h Q2=>?_;obtain⟨j4,j5,j6,x2,rfl,hx2⟩:=Q2
 rw[List.length_reverse] at h;apply Z;clear Z;refine(gr G23 rfl (aA (bP e1) (aA (jF (c':= .lst (hV (Alv r.M r.fin ks 0))) rfl rfl rfl rfl ?_ rfl) (aA (bP (iV (aT (wP rfl rfl) bH))) (aA (eJ (aDD (e_v rfl)) (((bU (fun z=>lB _ z _) List.map_reverse.symm).trans h))) (aA (aDE rfl (by unfold iW;simp;lia) rfl) (aW (cN (wP (x:=bW ks.length fun i=>Alv r.M r.fin ks (ks.length-i)) rfl ?_)))))))) rfl)
 ·exact(tL (b:=false) (i:=0) (by decide)).trans (by rw[e0])
 ·exact bU (fun z=>some (PyData.list z)) My
theorem Gx{n i a:Nat}{R A:Nat->Nat->Bool}(hr:r.Ok)(hi:i+1<=n)(hn:n<=4)(ha:1<=a/\a<=3):G 28 [r.v,.d (bW n R),.d (bW n A),.d (.int (i:Int)),.d (.int (a:Int))]=some (.bool ([1,2,3].any fun s=>R i s&&A (i+1) (r.M s a)),[r.v,.d (bW n R),.d (bW n A),.d (.int (i:Int)),.d (.int (a:Int))]):=by
 rcases oE (f:=eG (aD 28) 1000 (.n 5) [.ite (.and [(.val (.sub (.sub (.v 1) (.v 3)) (.v 5))),(.val (.sub (.sub (.v 2) (.bin .add (.v 3) (.k (.int 1)))) (.sub (.sub (.at 0 13) (.bin .sub (.v 5) (.k (.int 1)))) (.bin .sub (.v 4) (.k (.int 1))))))]) [.ret (.k (.bool true))] []]) (m6:=fun(v:Nat)=>PyData.int (v:Int)) (all:=[1,2,3])
  (fun pre σ=>∃j,σ=[some r.v,some (.d (bW n R)),some (.d (bW n A)),some (.d (.int (i:Int))),some (.d (.int (a:Int))),j]/\(pre.any fun s=>R i s&&A (i+1) (r.M s a))=false)
  (fun d σ=>∃j,σ=[some r.v,some (.d (bW n R)),some (.d (bW n A)),some (.d (.int (i:Int))),some (.d (.int (a:Int))),j]/\d= .bool true/\([1,2,3].any fun s=>R i s&&A (i+1) (r.M s a))=true)
  (fun pre s m0 σ e zz=>by
   refine aP zz fun j Q1 hp=>?_;clear zz;subst Q1;have hs:=lR.mp (gO e);have t1:∀{σ:Sg},σ=[some r.v,some (.d (bW n R)),some (.d (bW n A)),some (.d (.int (i:Int))),some (.d (.int (a:Int))),some (.d (.int (s:Int)))]->evT (aD 28) (.val (.sub (.sub (.v 1) (.v 3)) (.v 5))) σ=some (R i s,σ):=fun{σ} e=>by subst e;exact dY (bO (bO (e_v rfl) (e_v rfl) (oT (jM ‹_›) (by lia))) (e_v rfl) (oF (by lia)))
   have t2:∀{σ:Sg},σ=[some r.v,some (.d (bW n R)),some (.d (bW n A)),some (.d (.int (i:Int))),some (.d (.int (a:Int))),some (.d (.int (s:Int)))]->evT (aD 28) (.val (.sub (.sub (.v 2) (.bin .add (.v 3) (.k (.int 1)))) (.sub (.sub (.at 0 13) (.bin .sub (.v 5) (.k (.int 1)))) (.bin .sub (.v 4) (.k (.int 1)))))) σ=some (A (i+1) (r.M s a),σ):=fun{σ} e=>by subst e;exact dY (bO (bO (e_v rfl) (cW (e_v rfl) rfl rfl) (oT (i:=i+1) (by assumption) (by lia))) (pM (fK rfl) rfl rfl hs ha) (oF (hr.m s a)))
   cases h1:R i s with
   |false=>
    rw[h1] at t1;exact .inl (tT _ (aA (bQ (q:=false) (fN (fW (t1 rfl))) rfl) rfl) _ rfl (by rw[List.any_append,hp];simp[h1]))
   |true=>
    rw[h1] at t1
    cases h2:A (i+1) (r.M s a) with
    |false=>
     rw[h2] at t2;exact .inl (tT _ (aA (bQ (q:=false) (fN (eV (t1 rfl) (fW (t2 rfl)))) rfl) rfl) _ rfl (by rw[List.any_append,hp];simp[h1,h2]))
    |true=>
     rw[h2] at t2;exact .inr (hN _ _ (aW (bQ (q:=true) (fN (eV (t1 rfl) (eV (t2 rfl) cG))) (aW (cN rfl)))) (cY _ rfl rfl (List.any_eq_true.mpr (aH s (gO e) (by rw[h1,h2];rfl)))))) [1,2,3] [] [some r.v,some (.d (bW n R)),some (.d (bW n A)),some (.d (.int (i:Int))),some (.d (.int (a:Int))),none] rfl (aH _ rfl rfl) with⟨d7,h,j,rfl,h2⟩|⟨d,d7,h,j,rfl,rfl,h2⟩
 ·rw[h2];exact gr G28 rfl (aA (eJ (zG rfl (cW (fK rfl) rfl rfl) (by decide)) h) (aW (cN rfl))) rfl
 ·rw[h2];exact gr G28 rfl (aW (eJ (zG rfl (cW (fK rfl) rfl rfl) (by decide)) h)) rfl
end
theorem jG(ks:List (Int×Int)):(nJ ks).Perm ks:=by
 unfold nJ;by_cases h:ks.length<2
 ·rw[aJ h]
 ·rw[aR h];have h0:0<ks.length:=by omega
  have p:=jR.run (fun i j=>ltP (ks.getD i (0,0)) (ks.getD j (0,0))) (yT h0);have q:=p.toList;refine(q.map fun i=>ks.getD i (0,0)).trans (List.Perm.of_eq ?_);refine List.ext_getElem (by simp) fun i h1 h2=>?_;simp[h2]
noncomputable def eS(l:List Nat):List Nat:=[0,1,2,3].filter l.contains
theorem fF{l:List Nat}(h:∀v∈l,v<4){v:Nat}:v∈eS l↔v∈l:=by
 unfold eS;rw[eP];constructor
 ·intro q;simpa using q.2
 ·intro q;have:=h v q;refine⟨?_,by simpa using q⟩;exact(by decide:∀v,v<4->v∈[0,1,2,3]) v this
theorem qA:∀l:List Nat,nG (aB l)=some (l.map fun(v:Nat)=>(v:Int))
 |[]=>rfl
 |x::l=>by show(nG (aB l)).map _=_;rw[qA l];rfl
theorem vM{l:List Nat}(h:∀v∈l,v<4):nH (l.map fun(v:Nat)=>(v:Int))=true:=by unfold nH;rw[List.all_map,List.all_eq_true];intro x hx;have:=h x hx;show(decide ((0:Int)<=(x:Int))&&decide ((x:Int)<=3))=true;rw[jV,decide_eq_true_eq,decide_eq_true_eq];lia
theorem vN{l:List Nat}:(qI (l.map fun(v:Nat)=>(v:Int))).map PyData.int=aB (eS l):=by
 have q:∀v:Nat,(l.map fun(v:Nat)=>(v:Int)).contains (v:Int)=l.contains v:=fun v=>by
  rw[Bool.eq_iff_iff];simp;constructor
  ·rintro ⟨a,h,e⟩
   have:a=v:=Int.ofNat.inj ‹_›;clear e;subst this;exact h
  ·exact fun h=>(aH v h rfl)
 have q0:(l.map fun(v:Nat)=>(v:Int)).contains 0=l.contains 0:=q 0;have q1:(l.map fun(v:Nat)=>(v:Int)).contains 1=l.contains 1:=q 1;have q2:(l.map fun(v:Nat)=>(v:Int)).contains 2=l.contains 2:=q 2;have q3:(l.map fun(v:Nat)=>(v:Int)).contains 3=l.contains 3:=q 3;unfold qI eS;simp only[List.filter];rw[q0,q1,q2,q3]
 cases l.contains 0<;>cases l.contains 1<;>cases l.contains 2<;>cases l.contains 3<;>rfl
section
variable {T:Tab}{σ b9:Sg}{a:Ex}{l:List Nat}
theorem zM(h1:evE T a σ=some (.d (.list (aB l)),b9))(h2:l.length<=1000)(h3:∀v∈l,v<4):evE T (.sortedSet a) σ=some (.d (.list (aB (eS l))),b9):=by rw[<-vN];exact aB2 h1 (qA l) ⟨by unfold aB;simpa using h2,vM h3⟩
theorem aAn(h1:evE T a σ=some (.d (.tuple (aB l)),b9))(h2:l.length<=1000)(h3:∀v∈l,v<4):evE T (.sortedSet a) σ=some (.d (.list (aB (eS l))),b9):=by rw[<-vN];exact aB3 h1 (qA l) ⟨by unfold aB;simpa using h2,vM h3⟩
end
def stp(x:Nat)(cond:Nat->Nat->Option Bool)(out:Nat->Nat->Nat)(c:List Nat×List (Int×Int))(p:Nat×Nat):List Nat×List (Int×Int):=match cond p.1 p.2 with
 |none=>c
 |some true=>(c.1,sY ((x:Int),(p.2:Int)) c.2)
 |some false=>(c.1++[out p.1 p.2],c.2)
theorem Uw{k:Int×Int}{ks:List (Int×Int)}{q:Int×Int}:q∈sY k ks↔q∈ks\/q=k:=by
 unfold sY;by_cases h:k∈ks
 ·rw[aJ h];constructor
  ·exact .inl
  ·rintro (h2|rfl)<;>assumption
 ·rw[aR h];simp
theorem Ux{k:Int×Int}{ks:List (Int×Int)}:(sY k ks).length<=ks.length+1:=by
 unfold sY
 split<;>simp
theorem iN{x:Nat}{cond:Nat->Nat->Option Bool}{out:Nat->Nat->Nat}:∀(L:List (Nat×Nat)) (c:List Nat×List (Int×Int)),
  (∀g,g∈(L.foldl (stp x cond out) c).1↔g∈c.1\/∃p∈L,cond p.1 p.2=some false/\out p.1 p.2=g)/\(∀k,k∈(L.foldl (stp x cond out) c).2↔k∈c.2\/∃p∈L,cond p.1 p.2=some true/\k=((x:Int),(p.2:Int)))/\(L.foldl (stp x cond out) c).1.length<=c.1.length+L.length/\(L.foldl (stp x cond out) c).2.length<=c.2.length+L.length
 |[],c=>by simp
 |p::L,c=>by
  refine pP (iN (x:=x) (cond:=cond) (out:=out) L (stp x cond out c p)) fun h1 h2 h3 h4=>?_;rw[List.foldl_cons];have e:stp x cond out c p=(match cond p.1 p.2 with|none=>c|some true=>(c.1,sY ((x:Int),(p.2:Int)) c.2)|some false=>(c.1++[out p.1 p.2],c.2)):=rfl;generalize stp x cond out c p=c' at*
  cases hc:cond p.1 p.2 with
  |none=>
   rw[hc] at e;subst e;refine(sW (fun g=>(h1 g).trans ?_) (fun k=>(h2 k).trans ?_) (by simp;exact Nat.le_succ_of_le ‹_›) (by simp;exact Nat.le_succ_of_le ‹_›))
   ·simp[hc]
   ·simp[hc]
  |some b=>
   cases b with
   |true=>
    rw[hc] at e;subst e;refine(sW (fun g=>(h1 g).trans ?_) (fun k=>(h2 k).trans ?_) (by simp at h3 ⊢;exact Nat.le_succ_of_le ‹_›) ?_)
    ·simp[hc]
    ·rw[Uw];simp[hc,or_assoc]
    ·have:=Ux (k:=((x:Int),(p.2:Int))) (ks:=c.2);simp at h4 ⊢;lia
   |false=>
    rw[hc] at e;subst e;refine(sW (fun g=>(h1 g).trans ?_) (fun k=>(h2 k).trans ?_) (by simp at h3 ⊢;lia) (by simp at h4 ⊢;exact Nat.le_succ_of_le ‹_›))
    ·simp[hc,or_assoc,eq_comm]
    ·simp[hc]
noncomputable def eT(s:Nat):List (Nat×Nat):=[(s,1),(s,2),(s,3)]
theorem xN{s t a:Nat}:(t,a)∈eT s↔t=s/\1<=a/\a<=3:=by show _∈[1,2,3].map (Prod.mk s)↔_;rw[eO];exact⟨fun h=>aP h fun x h e=>by cases e;exact⟨rfl,lR.mp h⟩,fun h=>(aH a (lR.mpr h.2) (h.1▸rfl))⟩
theorem fT{a b:Nat}:fA (a:Int) (b:Int)=(List.range (b-a)).map fun(k:Nat)=>PyData.int ((a+k:Nat):Int):=by unfold fA;rw[Int.toNat_sub];refine List.map_congr_left fun k _=>?_;rw[Int.natCast_add]
theorem sS{pre m0:List Nat}{x n:Nat}(e:pre++x::m0=List.range n):x=pre.length/\pre.length<n:=by
 have h:(List.range n)[pre.length]?=some x:=by rw[<-e];simp
 have h2:pre.length<n:=by have:=bU List.length e;simp at this;lia
 rw[oS h2] at h;exact⟨by simpa using h.symm,h2⟩
theorem fX{pre m0:List Nat}{x n:Nat}(e:pre++x::m0=List.range n){P:Prop}(f:x=pre.length->pre.length<n->P):P:=cK (sS e) f
theorem gL{l:List Nat}{k:Nat}(h:k<l.length)(h2:k<1000):nB (.tuple (aB l)) (.int (k:Int))=some (.int ((l.getD k 0:Nat):Int)):=
 Cw.trans<|oB (f:=fun(v:Nat)=>PyData.int (v:Int)) (by rw[dS,fL h];rfl) h2
theorem G24:G 24=cU (aD 24) 1000 f24:=rfl
theorem G25:G 25=cU (aD 25) 1000 f25:=rfl
theorem tM{g:Nat}:eL .NotEq (.int (g:Int)) (.int 0)=some (!decide (g=0)):=(bU (fun z:Option Bool=>z.map (!·)) (eq_int (a:=g) (b:=0)))
theorem kQ{l:List Nat}{x:Nat}:aB l++[.int (x:Int)]=aB (l++[x]):=by unfold aB;rw[List.map_append];rfl
theorem aAo{ks:List (Int×Int)}{k x:D}:yH (.dt ks) k x=if tru x=true/\ks.length<=1000 then(Oc k).map fun t=>C.dt (sY t ks) else none:=rfl
theorem Uy{nt:List (Int×Int)}{x a:Nat}(h:nt.length<=1000):yH (.dt nt) (.tuple [.int (x:Int),.str sNe,.int (a:Int)]) (.bool true)=some (.dt (sY ((x:Int),(a:Int)) nt)):=
 aAo.trans ((aJ ⟨rfl,h⟩).trans rfl)
section
variable {r:Rg}{n:Nat}{A:Nat->Nat->Bool}{kD x3 x4:Option V}
def aB9:St:= .ite (.and [(.cmp .NotEq (.v 10) (.k (.int 0))),(.not (.val (.sub (.sub (.v 2) (.bin .add (.v 6) (.k (.int 1)))) (.v 10))))]) [.app (.v 7) (.v 10)] [.ite (.cmp .NotEq (.v 10) (.k (.int 0))) [.setP (.v 5) (.tup [(.sub (.at 0 9) (.v 6)),(.k (.str sNe)),(.v 9)]) (.k (.bool true))] []]
def vO:List St:=[.asg 10 (.sub (.sub (.at 0 13) (.bin .sub (.v 8) (.k (.int 1)))) (.bin .sub (.v 9) (.k (.int 1)))),aB9]
noncomputable def bK(r:Rg)(A:Nat->Nat->Bool)(k s a:Nat):Option Bool:=if r.M s a=0 then none else some (A (k+1) (r.M s a))
def vP(r:Rg)(n:Nat)(A:Nat->Nat->Bool)(kD x3 x4:Option V)(c:List Nat×List (Int×Int))(k:Nat)(s j9 j10:Option V):Sg:=
 [some r.v,kD,some (.d (bW n A)),x3,x4,some (.c (.dt c.2)),some (.d (.int (k:Int))),some (.c (.lst (aB c.1))),s,j9,j10]
theorem Mz{T:Tab}{c:List Nat×List (Int×Int)}{k s a:Nat}{j9 j10:Option V}(hr:r.Ok)(hs:1<=s/\s<=3)(ha:1<=a/\a<=3)(hk:k<n)(hn:n<=4)(hp:n=r.pl.length)(h1:c.1.length<=900)(h2:c.2.length<=900):
  ∃j9' j10',eG T 1000 (.n 9) vO (vP r n A kD x3 x4 c k (some (.d (.int (s:Int)))) j9 j10) (.int (a:Int))=some (.next,vP r n A kD x3 x4 (stp (r.pl.getD k 0) (bK r A k) r.M c (s,a)) k (some (.d (.int (s:Int)))) j9' j10'):=by
 refine(I2 (some (.d (.int (a:Int)))) (some (.d (.int (r.M s a:Int)))) (aA (bP (pM (fK rfl) rfl rfl hs ha)) ?_));have g4:=hr.m s a;have sc:=gL (l:=r.pl) (k:=k) (Nat.lt_of_lt_of_eq ‹_› ‹_›) (by lia);have st:stp (r.pl.getD k 0) (bK r A k) r.M c (s,a)=(match bK r A k s a with|none=>c|some true=>(c.1,sY (((r.pl.getD k 0:Nat):Int),(a:Int)) c.2)|some false=>(c.1++[r.M s a],c.2)):=rfl;by_cases h0:r.M s a=0
 ·have e:bK r A k s a=none:=by unfold bK;rw[aJ h0]
  rw[st,e];have z:eL .NotEq (.int (r.M s a:Int)) (.int 0)=some false:=tM.trans (by rw[h0];rfl);exact aA (bQ (q:=false) (fN (fW (aV (e_v rfl) rfl z))) (aA (bQ (q:=false) (aV (e_v rfl) rfl z) rfl) rfl)) rfl
 ·have e:bK r A k s a=some (A (k+1) (r.M s a)):=by unfold bK;rw[aR h0]
  have z:eL .NotEq (.int (r.M s a:Int)) (.int 0)=some true:=tM.trans (by rw[oY h0];rfl);have la:=oT (n:=n) (i:=k+1) (L:=A) (by assumption) (by lia);have lb:=oF (f:=A (k+1)) g4;rw[st,e]
  cases q:A (k+1) (r.M s a) with
  |false=>
   rw[q] at lb;refine aA (bQ (q:=true) (fN (eV (aV (e_v rfl) rfl z) (eV (iK (dY (bO (bO (e_v rfl) (cW (e_v rfl) rfl rfl) la) (e_v rfl) lb))) cG))) (aA (pL rfl (e_v rfl) rfl (by unfold aB;simp;lia) rfl) rfl)) ?_;rw[kQ];rfl
  |true=>
   rw[q] at lb;exact aA (bQ (q:=false) (fN (eV (aV (e_v rfl) rfl z) (fW (iK (dY (bO (bO (e_v rfl) (cW (e_v rfl) rfl rfl) la) (e_v rfl) lb)))))) (aA (bQ (q:=true) (aV (e_v rfl) rfl z) (aA (jF rfl rfl (gK (aT (bO (fK rfl) (e_v rfl) sc) (aT rfl (aT (e_v rfl) bH)))) rfl (Uy (by lia)) rfl) rfl)) rfl)) rfl
structure Run(r:Rg)(w q:Nat->Nat):Prop where
 q0:q 0=1
 lt:∀k,k<r.pl.length->1<=w k/\w k<=3
 next:∀k,k<r.pl.length->q (k+1)=r.M (q k) (w k)
 st:∀k,k<=r.pl.length->1<=q k/\q k<=3
 fin:q r.pl.length∈r.fin
structure Na(r:Rg)(ks:List (List Nat))(L:Nat->Nat->Bool)(nt0:List (Int×Int))(p:(Nat->Nat)->Prop)(k i:Nat)(sm:List Nat)(nt:List (Int×Int)):Prop where
 small:∀s∈sm,1<=s/\s<=3
 nal:∀s∈sm,L k s=false
 len:sm.length<=9
 old:∀key∈nt0,key∈nt
 new:∀key∈nt,key∈nt0\/∃j a,j<r.pl.length/\(1<=a/\a<=3)/\a∉ks.getD j []/\key=(((r.pl.getD j 0:Nat):Int),(a:Int))
 run:∀w q,Run r w q->p q->(∃j,j<r.pl.length/\(((r.pl.getD j 0:Nat):Int),(w j:Int))∈nt)\/q k∈sm
 cnt:nt.length<=nt0.length+12*i
def De:List St:=[.asg 7 (.lst []),.for_ (.n 8) (.seq (.v 4)) [.for_ (.n 9) (.r2 (.k (.int 1)) (.bin .add (.at 0 12) (.k (.int 1)))) vO],.asg 4 (.sortedSet (.sh 7))]
theorem mF{l:List Nat}:(eS l).length<=4:=gR _ _
theorem gP:∀l:List Nat,(l.flatMap eT).length=3*l.length
 |[]=>rfl
 |x::l=>by rw[List.flatMap_cons,dI,gP l];show 3+_=_;simp;exact Nat.add_comm _ _
theorem iO{l:List Nat}{p:Nat×Nat}:p∈l.flatMap eT↔p.1∈l/\1<=p.2/\p.2<=3:=by
 obtain⟨s,a⟩:=p;rw[List.mem_flatMap];constructor
 ·rintro ⟨t,h1,h2⟩
  have:=xN.mp h2;obtain⟨rfl,h3⟩:=this;exact⟨h1,h3⟩
 ·rintro ⟨h1,h2⟩
  exact(aH s h1 (xN.mpr ⟨rfl,h2⟩))
theorem Nb{T:Tab}{nt:List (Int×Int)}{sm:List Nat}{k:Nat}{j6 j7 j8 j9 j10:Option V}(hr:r.Ok)(hk:k<n)(hn:n<=4)(hp:n=r.pl.length)(h1:sm.length<=9)(hs:∀s∈sm,1<=s/\s<=3)(h2:nt.length<=800):
  ∃j7' j8' j9' j10',eG T 1000 (.n 6) De [some r.v,kD,some (.d (bW n A)),x3,some (.d (.list (aB sm))),some (.c (.dt nt)),j6,j7,j8,j9,j10] (.int (k:Int))=some (.next,[some r.v,kD,some (.d (bW n A)),x3,some (.d (.list (aB (eS ((sm.flatMap eT).foldl (stp (r.pl.getD k 0) (bK r A k) r.M) ([],nt)).1)))),some (.c (.dt ((sm.flatMap eT).foldl (stp (r.pl.getD k 0) (bK r A k) r.M) ([],nt)).2)),some (.d (.int (k:Int))),j7',j8',j9',j10']):=by
 apply bc;intro Z;refine aP (dA (f:=eG T 1000 (.n 8) [.for_ (.n 9) (.r2 (.k (.int 1)) (.bin .add (.at 0 12) (.k (.int 1)))) vO]) (m6:=fun(v:Nat)=>PyData.int (v:Int)) (all:=sm)
  (fun pre σ=>∃j8 j9 j10,σ=vP r n A kD x3 (some (.d (.list (aB sm)))) ((pre.flatMap eT).foldl (stp (r.pl.getD k 0) (bK r A k) r.M) ([],nt)) k j8 j9 j10)
  (fun pre s m0 σ e zz=>by
   refine X3 zz fun j8 j9 j10 Q3=>?_;clear zz;subst Q3;have hs':=hs s (gO e);have hl:pre.length<=sm.length:=by have:=bU List.length e;simp at this;lia
   refine pP (iN (x:=r.pl.getD k 0) (cond:=bK r A k) (out:=r.M) (pre.flatMap eT) ([],nt)) fun _ _ b1 b2=>?_;rw[gP] at b1 b2;simp only[List.length_nil] at b1 b2;rw[List.flatMap_append,List.foldl_append];generalize(pre.flatMap eT).foldl (stp (r.pl.getD k 0) (bK r A k) r.M) ([],nt)=c at b1 b2 ⊢;have st:=fun(a:Nat) (ha:1<=a/\a<=3) (c:List Nat×List (Int×Int)) (j9 j10:Option V) (h1:c.1.length<=900) (h2:c.2.length<=900)=>Mz (T:=T) (A:=A) (kD:=kD) (x3:=x3) (x4:=some (.d (.list (aB sm)))) (j9:=j9) (j10:=j10) hr hs' ha hk hn hp h1 h2;have ln:=fun(c:List Nat×List (Int×Int)) (a:Nat)=>iN (x:=r.pl.getD k 0) (cond:=bK r A k) (out:=r.M) [(s,a)] c;refine X2 (st 1 (by decide) c j9 j10 (by lia) (by lia)) fun u1 v1 s1=>?_;refine pP (ln c 1) fun _ _ l1 l1'=>?_;simp only[List.foldl_cons,List.foldl_nil,List.length_singleton] at l1 l1';refine X2 (st 2 (by decide) (stp (r.pl.getD k 0) (bK r A k) r.M c (s,1)) u1 v1 (by lia) (by lia)) fun u2 v2 s2=>?_;refine pP (ln (stp (r.pl.getD k 0) (bK r A k) r.M c (s,1)) 2) fun _ _ l2 l2'=>?_;simp only[List.foldl_cons,List.foldl_nil,List.length_singleton] at l2 l2';refine X2 (st 3 (by decide) (stp (r.pl.getD k 0) (bK r A k) r.M (stp (r.pl.getD k 0) (bK r A k) r.M c (s,1)) (s,2)) u2 v2 (by lia) (by lia)) fun u3 v3 s3=>?_;refine(aH _ (aA (eJ (zG rfl (cW (fK rfl) rfl rfl) (by decide)) ?_) rfl) (I3 (some (.d (.int (s:Int)))) u3 v3 rfl));show lB _ [PyData.int ((1:Nat):Int),PyData.int ((2:Nat):Int),PyData.int ((3:Nat):Int)] (vP r n A kD x3 (some (.d (.list (aB sm)))) c k (some (.d (.int (s:Int)))) j9 j10)=_;exact jZ s1 (jZ s2 (jZ s3 rfl))) sm [] (vP r n A kD x3 (some (.d (.list (aB sm)))) ([],nt) k j8 j9 j10) rfl (I3 _ _ _ rfl)) fun d7 h Q2=>?_;obtain⟨k8,k9,k10,rfl⟩:=Q2
 refine pP (iN (x:=r.pl.getD k 0) (cond:=bK r A k) (out:=r.M) (sm.flatMap eT) ([],nt)) fun g1 g2 b1 b2=>?_;rw[gP] at b1 b2;apply Z;clear Z;generalize hc:(sm.flatMap eT).foldl (stp (r.pl.getD k 0) (bK r A k) r.M) ([],nt)=c at*;simp only[List.length_nil] at b1;have small:∀v∈c.1,v<4:=fun v hv=>by
  rcases(g1 v).mp hv with h|⟨p,_,_,e⟩
  ·exact absurd h (by simp)
  ·rw[<-e];exact hr.m _ _
 exact(I4 _ k8 k9 k10 (aA (bP (iV bH)) (aA (eJ (dR (e_v rfl) rfl) h) (aA (bP (zM (wP rfl rfl) (by lia) small)) rfl))))
theorem Uz{ks:List (List Nat)}{nt0 nt:List (Int×Int)}{p:(Nat->Nat)->Prop}{k i:Nat}{sm:List Nat}(hr:r.Ok)(hk:k<r.pl.length)(hA:∀s a,1<=s->a∈ks.getD k []->A (k+1) (r.M s a)=true->A k s=true)(h:Na r ks A nt0 p k i sm nt)(h4:sm.length<=4):
  Na r ks A nt0 p (k+1) (i+1) (eS ((sm.flatMap eT).foldl (stp (r.pl.getD k 0) (bK r A k) r.M) ([],nt)).1) ((sm.flatMap eT).foldl (stp (r.pl.getD k 0) (bK r A k) r.M) ([],nt)).2:=by
 refine pP (iN (x:=r.pl.getD k 0) (cond:=bK r A k) (out:=r.M) (sm.flatMap eT) ([],nt)) fun g1 g2 b1 b2=>?_;rw[gP] at b1 b2;generalize hc:(sm.flatMap eT).foldl (stp (r.pl.getD k 0) (bK r A k) r.M) ([],nt)=c at*;have cf:∀{s a b},bK r A k s a=some b->r.M s a≠0/\A (k+1) (r.M s a)=b:=fun{s a b} e=>by
  unfold bK at e;by_cases q:r.M s a=0
  ·rw[aJ q] at e;cases e
  ·rw[aR q] at e;cases e;exact⟨q,rfl⟩
 have small:∀v∈c.1,v<4:=fun v hv=>by
  rcases(g1 v).mp hv with h|⟨p,_,_,e⟩
  ·exact absurd h (by simp)
  ·rw[<-e];exact hr.m _ _
 refine⟨fun s hs=>?_,fun s hs=>?_,iU mF (by decide),fun key q=>(g2 key).mpr (.inl (h.old key q)),fun key q=>?_,fun w q hw hp=>?_,?_⟩
 ·rw[fF small] at hs;rcases(g1 s).mp hs with q|⟨p,h1,h2,rfl⟩
  ·exact absurd q (by simp)
  ·have:=cf h2;have:=hr.m p.1 p.2;lia
 ·rw[fF small] at hs;rcases(g1 s).mp hs with q|⟨p,h1,h2,rfl⟩
  ·exact absurd q (by simp)
  ·exact(cf h2).2
 ·rcases(g2 key).mp q with q|⟨p,h1,h2,rfl⟩
  ·exact h.new key q
  ·refine .inr (fH k p.2 hk ((iO.mp h1).2) (fun hm=>?_) rfl);have hs:=(iO.mp h1).1;have:=hA p.1 p.2 (h.small _ hs).1 hm (cf h2).2;rw[h.nal _ hs] at this;cases this
 ·rcases h.run w q hw hp with⟨j,h1,h2⟩|h1
  ·exact .inl (aH j h1 ((g2 _).mpr (.inl h2)))
  ·have hmem:(q k,w k)∈sm.flatMap eT:=iO.mpr ⟨h1,hw.lt k hk⟩;have hne:r.M (q k) (w k)≠0:=by rw[<-hw.next k hk];have:=hw.st (k+1) hk;lia
   cases ha:A (k+1) (r.M (q k) (w k)) with
   |true=>exact .inl (aH k hk ((g2 _).mpr (.inr (cY _ hmem (by unfold bK;rw[aR hne,ha]) rfl))))
   |false=>
    right;rw[fF small,hw.next k hk];exact(g1 _).mpr (.inr (cY _ hmem (by unfold bK;rw[aR hne,ha]) rfl))
 ·have:=h.cnt;simp only at b2;lia
theorem Jm{ks:List (List Nat)}{nt0:List (Int×Int)}{d9:Nat}{sm0:List Nat}(hr:r.Ok)(hl:ks.length=r.pl.length)(hs:d9<=r.pl.length)(hA:∀k,k<r.pl.length->∀s a,1<=s->a∈ks.getD k []->A (k+1) (r.M s a)=true->A k s=true)(hE:∀s∈r.fin,A r.pl.length s=true)
  (h1:∀s∈sm0,1<=s/\s<=3) (h2:∀s∈sm0,A d9 s=false) (h3:sm0.length<=4) (h4:nt0.length<=100):
  ∃nt,G 24 [r.v,.d (dK ks),.d (bW r.pl.length A),.d (.int (d9:Int)),.d (.list (aB sm0)),.c (.dt nt0)]=some (.none,[r.v,.d (dK ks),.d (bW r.pl.length A),.d (.int (d9:Int)),.d (.list (aB sm0)),.c (.dt nt)])/\
   (∀key∈nt0,key∈nt)/\(∀key∈nt,key∈nt0\/∃j a,j<r.pl.length/\(1<=a/\a<=3)/\a∉ks.getD j []/\key=(((r.pl.getD j 0:Nat):Int),(a:Int)))/\(∀w q,Run r w q->q d9∈sm0->∃j,j<r.pl.length/\(((r.pl.getD j 0:Nat):Int),(w j:Int))∈nt)/\nt.length<=nt0.length+12*(r.pl.length-d9):=by
 apply bc;intro Z;have hn:=hr.len.2;refine aP (dA (f:=eG (aD 24) 1000 (.n 6) De) (m6:=fun(k:Nat)=>PyData.int ((d9+k:Nat):Int)) (all:=List.range (r.pl.length-d9))
  (fun pre σ=>∃sm nt j6 j7 j8 j9 j10,σ=[some r.v,some (.d (dK ks)),some (.d (bW r.pl.length A)),some (.d (.int (d9:Int))),some (.d (.list (aB sm))),some (.c (.dt nt)),j6,j7,j8,j9,j10]/\Na r ks A nt0 (fun q=>q d9∈sm0) (d9+pre.length) pre.length sm nt/\sm.length<=4)
  (fun pre k m0 σ e zz=>by
   obtain⟨sm,nt,j6,j7,j8,j9,j10,rfl,hi,hm⟩:=zz;refine fX e fun Q0 hk=>?_;clear e;subst Q0;have hk2:d9+pre.length<r.pl.length:=by omega
   refine X4 (Nb (T:=aD 24) (A:=A) (kD:=some (.d (dK ks))) (x3:=some (.d (.int (d9:Int)))) (nt:=nt) (sm:=sm) (k:=d9+pre.length) (j6:=j6) (j7:=j7) (j8:=j8) (j9:=j9) (j10:=j10) hr hk2 hn rfl hi.len hi.small (by have:=hi.cnt;omega)) fun a b c d q=>?_;have hi2:=Uz hr hk2 (hA _ hk2) hi hm;refine⟨_,q,_,_,_,_,_,_,_,rfl,?_,mF⟩;rw[dI,kY,<-Nat.add_assoc];exact hi2) (List.range (r.pl.length-d9)) [] [some r.v,some (.d (dK ks)),some (.d (bW r.pl.length A)),some (.d (.int (d9:Int))),some (.d (.list (aB sm0))),some (.c (.dt nt0)),none,none,none,none,none] rfl ⟨_,_,_,_,_,_,_,rfl,⟨h1,h2,by omega,fun _ h=>h,fun _ h=> .inl h,fun w q hw h=> .inr h,by simp⟩,h3⟩) fun d7 h Q2=>?_;obtain⟨sm,nt,j6,j7,j8,j9,j10,rfl,hi,_⟩:=Q2
 rw[gQ] at hi;have he:d9+(r.pl.length-d9)=r.pl.length:=by omega
 rw[he] at hi;apply Z;clear Z;refine(aBf nt ?_ hi.old hi.new (fun w q hw hq=>?_) hi.cnt)
 ·rw[<-fT] at h;refine(gn G24 rfl (aA (eJ (zG (k:=(d9:Int)) (l:=(r.pl.length:Int)) (e_v rfl) (qV (e_v rfl) ?_) (by omega)) h) rfl) rfl)
  ·show(if(ks.map fun l=>PyData.list (aB l)).length<=1000000 then some (PyData.int (ks.map fun l=>PyData.list (aB l)).length) else none)=_;rw[bT,hl,aJ (by omega)]
 ·rcases hi.run w q hw hq with h|h
  ·exact h
  ·have:=hi.nal _ h;rw[hE _ hw.fin] at this;cases this
end
theorem wQ{a:Nat}:gU ((a:Int)-1) (-1)=(List.range a).map fun(k:Nat)=>PyData.int ((a-1-k:Nat):Int):=by unfold gU;rw[Int.sub_neg,Int.sub_add_cancel,sE];refine List.map_congr_left fun k hk=>bU PyData.int ?_;rw[Nat.sub_sub,Int.ofNat_sub (Nat.add_comm 1 k▸dU.mp hk),Int.natCast_add,Int.sub_sub];rfl
section
variable {r:Rg}{n:Nat}{A:Nat->Nat->Bool}{x2:Option V}
def aFg:St:= .ite (.cmp .In (.sub (.sub (.at 0 13) (.bin .sub (.v 7) (.k (.int 1)))) (.bin .sub (.v 8) (.k (.int 1)))) (.v 3)) [.ite (.val (.sub (.sub (.v 1) (.v 5)) (.v 7))) [.setP (.v 4) (.tup [(.sub (.at 0 9) (.v 5)),(.k (.str sNe)),(.v 8)]) (.k (.bool true))] [.app (.v 6) (.v 7)]] []
def Gy:List St:=[aFg]
noncomputable def dD(r:Rg)(A:Nat->Nat->Bool)(sm:List Nat)(k s a:Nat):Option Bool:=if sm.contains (r.M s a)=true then some (A k s) else none
def Va(r:Rg)(n:Nat)(A:Nat->Nat->Bool)(x2:Option V)(sm:List Nat)(c:List Nat×List (Int×Int))(k:Nat)(s j8:Option V):Sg:=
 [some r.v,some (.d (bW n A)),x2,some (.d (.list (aB sm))),some (.c (.dt c.2)),some (.d (.int (k:Int))),some (.c (.lst (aB c.1))),s,j8]
theorem aAp{T:Tab}{sm:List Nat}{c:List Nat×List (Int×Int)}{k s a:Nat}{j8:Option V}(hr:r.Ok)(hs:1<=s/\s<=3)(ha:1<=a/\a<=3)(hk:k<n)(hn:n<=4)(hp:n=r.pl.length)(h1:c.1.length<=900)(h2:c.2.length<=900):
  eG T 1000 (.n 8) Gy (Va r n A x2 sm c k (some (.d (.int (s:Int)))) j8) (.int (a:Int))=some (.next,Va r n A x2 sm (stp (r.pl.getD k 0) (dD r A sm k) (fun s _=>s) c (s,a)) k (some (.d (.int (s:Int)))) (some (.d (.int (a:Int))))):=by
 have sc:=gL (l:=r.pl) (k:=k) (Nat.lt_of_lt_of_eq ‹_› ‹_›) (by lia);have st:stp (r.pl.getD k 0) (dD r A sm k) (fun s _=>s) c (s,a)=(match dD r A sm k s a with|none=>c|some true=>(c.1,sY (((r.pl.getD k 0:Nat):Int),(a:Int)) c.2)|some false=>(c.1++[s],c.2)):=rfl;have il:=qZ (l:=sm) (s:=r.M s a)
 cases h0:sm.contains (r.M s a) with
 |false=>
  have e:dD r A sm k s a=none:=by unfold dD;rw[aR (by rw[h0];decide)]
  rw[st,e];rw[h0] at il;exact aA (bQ (q:=false) (aV (pM (fK rfl) rfl rfl hs ha) (e_v rfl) il) rfl) rfl
 |true=>
  have e:dD r A sm k s a=some (A k s):=by unfold dD;rw[aJ h0]
  rw[st,e];rw[h0] at il;have la:=oT (n:=n) (i:=k) (L:=A) (jM ‹_›) (by lia);have lb:=oF (f:=A k) (i:=s) (by lia)
  cases q:A k s with
  |false=>
   rw[q] at lb;refine aA (bQ (q:=true) (aV (pM (fK rfl) rfl rfl hs ha) (e_v rfl) il) (aA (bQ (q:=false) (dY (bO (bO (e_v rfl) (e_v rfl) la) (e_v rfl) lb)) (aA (pL rfl (e_v rfl) rfl (by unfold aB;simp;lia) rfl) rfl)) rfl)) ?_;rw[kQ];rfl
  |true=>
   rw[q] at lb;exact aA (bQ (q:=true) (aV (pM (fK rfl) rfl rfl hs ha) (e_v rfl) il) (aA (bQ (q:=true) (dY (bO (bO (e_v rfl) (e_v rfl) la) (e_v rfl) lb)) (aA (jF rfl rfl (gK (aT (bO (fK rfl) (e_v rfl) sc) (aT rfl (aT (e_v rfl) bH)))) rfl (Uy (by lia)) rfl) rfl)) rfl)) rfl
def Vb:List St:=[.asg 6 (.lst []),.for_ (.n 7) (.r2 (.k (.int 1)) (.bin .add (.at 0 11) (.k (.int 1)))) [.for_ (.n 8) (.r2 (.k (.int 1)) (.bin .add (.at 0 12) (.k (.int 1)))) Gy],.asg 3 (.sortedSet (.sh 6))]
theorem aAq{T:Tab}{nt:List (Int×Int)}{sm:List Nat}{k:Nat}{j5 j6 j7 j8:Option V}(hr:r.Ok)(hk:k<n)(hn:n<=4)(hp:n=r.pl.length)(h2:nt.length<=800):
  ∃j6' j7' j8',eG T 1000 (.n 5) Vb [some r.v,some (.d (bW n A)),x2,some (.d (.list (aB sm))),some (.c (.dt nt)),j5,j6,j7,j8] (.int (k:Int))=some (.next,[some r.v,some (.d (bW n A)),x2,some (.d (.list (aB (eS (([1,2,3].flatMap eT).foldl (stp (r.pl.getD k 0) (dD r A sm k) (fun s _=>s)) ([],nt)).1)))),some (.c (.dt (([1,2,3].flatMap eT).foldl (stp (r.pl.getD k 0) (dD r A sm k) (fun s _=>s)) ([],nt)).2)),some (.d (.int (k:Int))),j6',j7',j8']):=by
 apply bc;intro Z;refine Dy (dA (f:=eG T 1000 (.n 7) [.for_ (.n 8) (.r2 (.k (.int 1)) (.bin .add (.at 0 12) (.k (.int 1)))) Gy]) (m6:=fun(v:Nat)=>PyData.int (v:Int)) (all:=[1,2,3])
  (fun pre σ=>∃j7 j8,σ=Va r n A x2 sm ((pre.flatMap eT).foldl (stp (r.pl.getD k 0) (dD r A sm k) (fun s _=>s)) ([],nt)) k j7 j8)
  (fun pre s m0 σ e zz=>by
   refine X2 zz fun j7 j8 Q2=>?_;clear zz;subst Q2;have hs':=lR.mp (gO e);have hl:pre.length<=3:=by have:=bU List.length e;simp at this;lia
   refine pP (iN (x:=r.pl.getD k 0) (cond:=dD r A sm k) (out:=fun s _=>s) (pre.flatMap eT) ([],nt)) fun _ _ b1 b2=>?_;rw[gP] at b1 b2;simp only[List.length_nil] at b1 b2;rw[List.flatMap_append,List.foldl_append];generalize(pre.flatMap eT).foldl (stp (r.pl.getD k 0) (dD r A sm k) (fun s _=>s)) ([],nt)=c at b1 b2 ⊢;have st:=fun(a:Nat) (ha:1<=a/\a<=3) (c:List Nat×List (Int×Int)) (j8:Option V) (h1:c.1.length<=900) (h2:c.2.length<=900)=>aAp (T:=T) (A:=A) (x2:=x2) (sm:=sm) (j8:=j8) hr hs' ha hk hn hp h1 h2;have ln:=fun(c:List Nat×List (Int×Int)) (a:Nat)=>iN (x:=r.pl.getD k 0) (cond:=dD r A sm k) (out:=fun s _=>s) [(s,a)] c;have s1:=st 1 (by decide) c j8 (by lia) (by lia);refine pP (ln c 1) fun _ _ l1 l1'=>?_;simp only[List.foldl_cons,List.foldl_nil,List.length_singleton] at l1 l1';have s2:=st 2 (by decide) (stp (r.pl.getD k 0) (dD r A sm k) (fun s _=>s) c (s,1)) (some (.d (.int ((1:Nat):Int)))) (by lia) (by lia);refine pP (ln (stp (r.pl.getD k 0) (dD r A sm k) (fun s _=>s) c (s,1)) 2) fun _ _ l2 l2'=>?_;simp only[List.foldl_cons,List.foldl_nil,List.length_singleton] at l2 l2';have s3:=st 3 (by decide) (stp (r.pl.getD k 0) (dD r A sm k) (fun s _=>s) (stp (r.pl.getD k 0) (dD r A sm k) (fun s _=>s) c (s,1)) (s,2)) (some (.d (.int ((2:Nat):Int)))) (by lia) (by lia);refine(aH _ (aA (eJ (zG rfl (cW (fK rfl) rfl rfl) (by decide)) ?_) rfl) (I2 (some (.d (.int (s:Int)))) (some (.d (.int ((3:Nat):Int)))) rfl));show lB _ [PyData.int ((1:Nat):Int),PyData.int ((2:Nat):Int),PyData.int ((3:Nat):Int)] (Va r n A x2 sm c k (some (.d (.int (s:Int)))) j8)=_;exact jZ s1 (jZ s2 (jZ s3 rfl))) [1,2,3] [] (Va r n A x2 sm ([],nt) k j7 j8) rfl (I2 _ _ rfl)) fun d7 h k7 k8 Q4=>?_;subst Q4
 refine pP (iN (x:=r.pl.getD k 0) (cond:=dD r A sm k) (out:=fun s _=>s) ([1,2,3].flatMap eT) ([],nt)) fun g1 g2 b1 b2=>?_;rw[gP] at b1 b2;apply Z;clear Z;generalize hc:([1,2,3].flatMap eT).foldl (stp (r.pl.getD k 0) (dD r A sm k) (fun s _=>s)) ([],nt)=c at*;simp only[List.length_nil,List.length_cons] at b1;have small:∀v∈c.1,v<4:=fun v hv=>by
  rcases(g1 v).mp hv with h|⟨p,h1,_,e⟩
  ·exact absurd h (by simp)
  ·rw[<-e];have:=lR.mp (iO.mp h1).1;lia
 exact(I3 _ k7 k8 (aA (bP (iV bH)) (aA (eJ (zG rfl (cW (fK rfl) rfl rfl) (by decide)) h) (aA (bP (zM (wP rfl rfl) (by lia) small)) rfl))))
theorem aCa{ks:List (List Nat)}{nt0 nt:List (Int×Int)}{p:(Nat->Nat)->Prop}{k i:Nat}{sm:List Nat}(hr:r.Ok)(hk:k<r.pl.length)(hR:∀s a,1<=s/\s<=3->a∈ks.getD k []->r.M s a≠0->A k s=true->A (k+1) (r.M s a)=true)(h:Na r ks A nt0 p (k+1) i sm nt):
  Na r ks A nt0 p k (i+1) (eS (([1,2,3].flatMap eT).foldl (stp (r.pl.getD k 0) (dD r A sm k) (fun s _=>s)) ([],nt)).1) (([1,2,3].flatMap eT).foldl (stp (r.pl.getD k 0) (dD r A sm k) (fun s _=>s)) ([],nt)).2:=by
 refine pP (iN (x:=r.pl.getD k 0) (cond:=dD r A sm k) (out:=fun s _=>s) ([1,2,3].flatMap eT) ([],nt)) fun g1 g2 b1 b2=>?_;rw[gP] at b1 b2;generalize hc:([1,2,3].flatMap eT).foldl (stp (r.pl.getD k 0) (dD r A sm k) (fun s _=>s)) ([],nt)=c at*;have cf:∀{s a b},dD r A sm k s a=some b->r.M s a∈sm/\A k s=b:=fun{s a b} e=>by
  unfold dD at e;by_cases q:sm.contains (r.M s a)=true
  ·rw[aJ q] at e;cases e;exact⟨by simpa using q,rfl⟩
  ·rw[aR q] at e;cases e
 have fc:∀{s a},r.M s a∈sm->dD r A sm k s a=some (A k s):=fun{s a} e=>by unfold dD;rw[aJ (by simpa using e)]
 have small:∀v∈c.1,v<4:=fun v hv=>by
  rcases(g1 v).mp hv with h|⟨p,h1,_,e⟩
  ·exact absurd h (by simp)
  ·rw[<-e];have:=lR.mp (iO.mp h1).1;lia
 refine⟨fun s hs=>?_,fun s hs=>?_,iU mF (by decide),fun key q=>(g2 key).mpr (.inl (h.old key q)),fun key q=>?_,fun w q hw hp=>?_,?_⟩
 ·rw[fF small] at hs;rcases(g1 s).mp hs with q|⟨p,h1,h2,rfl⟩
  ·exact absurd q (by simp)
  ·exact lR.mp (iO.mp h1).1
 ·rw[fF small] at hs;rcases(g1 s).mp hs with q|⟨p,h1,h2,rfl⟩
  ·exact absurd q (by simp)
  ·exact(cf h2).2
 ·rcases(g2 key).mp q with q|⟨p,h1,h2,rfl⟩
  ·exact h.new key q
  ·refine .inr (fH k p.2 hk ((iO.mp h1).2) (fun hm=>?_) rfl);refine cK (cf h2) fun c1 c2=>?_;have:=hR p.1 p.2 (lR.mp (iO.mp h1).1) hm (by have:=h.small _ c1;lia) c2;rw[h.nal _ c1] at this;cases this
 ·rcases h.run w q hw hp with⟨j,h1,h2⟩|h1
  ·exact .inl (aH j h1 ((g2 _).mpr (.inl h2)))
  ·have hmem:(q k,w k)∈[1,2,3].flatMap eT:=iO.mpr ⟨lR.mpr (hw.st k (jM ‹_›)),hw.lt k hk⟩;rw[hw.next k hk] at h1
   cases ha:A k (q k) with
   |true=>exact .inl (aH k hk ((g2 _).mpr (.inr (cY _ hmem (by rw[fc h1,ha]) rfl))))
   |false=>
    right;rw[fF small];exact(g1 _).mpr (.inr (cY _ hmem (by rw[fc h1,ha]) rfl))
 ·have:=h.cnt;simp only[List.length_cons,List.length_nil] at b2;lia
theorem aDJ{ks:List (List Nat)}{nt0:List (Int×Int)}{d9:Nat}{sm0:List Nat}(hr:r.Ok)(hl:ks.length=r.pl.length)(hs:d9<=r.pl.length)(hR:∀k,k<r.pl.length->∀s a,1<=s/\s<=3->a∈ks.getD k []->r.M s a≠0->A k s=true->A (k+1) (r.M s a)=true)(hE:A 0 1=true)
  (h1:∀s∈sm0,1<=s/\s<=3) (h2:∀s∈sm0,A d9 s=false) (h3:sm0.length<=4) (h4:nt0.length<=100):
  ∃nt,G 25 [r.v,.d (bW r.pl.length A),.d (.int (d9:Int)),.d (.list (aB sm0)),.c (.dt nt0)]=some (.none,[r.v,.d (bW r.pl.length A),.d (.int (d9:Int)),.d (.list (aB sm0)),.c (.dt nt)])/\
   (∀key∈nt0,key∈nt)/\(∀key∈nt,key∈nt0\/∃j a,j<r.pl.length/\(1<=a/\a<=3)/\a∉ks.getD j []/\key=(((r.pl.getD j 0:Nat):Int),(a:Int)))/\(∀w q,Run r w q->q d9∈sm0->∃j,j<r.pl.length/\(((r.pl.getD j 0:Nat):Int),(w j:Int))∈nt)/\nt.length<=nt0.length+12*d9:=by
 apply bc;intro Z;have hn:=hr.len.2;refine aP (dA (f:=eG (aD 25) 1000 (.n 5) Vb) (m6:=fun(k:Nat)=>PyData.int ((d9-1-k:Nat):Int)) (all:=List.range d9)
  (fun pre σ=>∃sm nt j5 j6 j7 j8,σ=[some r.v,some (.d (bW r.pl.length A)),some (.d (.int (d9:Int))),some (.d (.list (aB sm))),some (.c (.dt nt)),j5,j6,j7,j8]/\Na r ks A nt0 (fun q=>q d9∈sm0) (d9-pre.length) pre.length sm nt)
  (fun pre k m0 σ e zz=>by
   refine aDV zz fun sm nt j5 j6 j7 j8 Q6 hi=>?_;clear zz;subst Q6;refine fX e fun Q0 hk=>?_;clear e;subst Q0;have hk2:d9-1-pre.length<r.pl.length:=by omega
   have he:d9-pre.length=d9-1-pre.length+1:=(nS1 hk).trans (bU (· +1) (nS2 _ _).symm);rw[he] at hi;refine X3 (aAq (T:=aD 25) (A:=A) (x2:=some (.d (.int (d9:Int)))) (nt:=nt) (sm:=sm) (k:=d9-1-pre.length) (j5:=j5) (j6:=j6) (j7:=j7) (j8:=j8) hr hk2 hn rfl (by have:=hi.cnt;omega)) fun a b c q=>?_;have hi2:=aCa hr hk2 (hR _ hk2) hi;refine(aH _ q (aCv _ _ _ _ _ _ rfl ?_));rw[dI,kY,show d9-(pre.length+1)=d9-1-pre.length from(nS2 _ _).symm];exact hi2) (List.range d9) [] [some r.v,some (.d (bW r.pl.length A)),some (.d (.int (d9:Int))),some (.d (.list (aB sm0))),some (.c (.dt nt0)),none,none,none,none] rfl (aCv _ _ _ _ _ _ rfl ⟨h1,h2,by omega,fun _ h=>h,fun _ h=> .inl h,fun w q hw h=> .inr h,by simp⟩)) fun d7 h Q2=>?_;obtain⟨sm,nt,j5,j6,j7,j8,rfl,hi⟩:=Q2
 rw[gQ,Nat.sub_self] at hi;apply Z;clear Z;refine(aBf nt ?_ hi.old hi.new (fun w q hw hq=>?_) hi.cnt)
 ·rw[<-wQ] at h;exact gn G25 rfl (aA (eJ (aFd (k:=(d9:Int)-1) (l:= -1) (cW (e_v rfl) rfl rfl) rfl (by omega)) h) rfl) rfl
 ·rcases hi.run w q hw hq with h|h
  ·exact h
  ·have:=hi.nal _ h;rw[hw.q0,hE] at this;cases this
end
theorem G26:G 26=cU (aD 26) 1000 f26:=rfl
theorem G27:G 27=cU (aD 27) 1000 f27:=rfl
theorem aCb{m v:Nat}(h:m<32)(hv:v<5):G 1 [.d (dm m),.d (.int (v:Int))]=some (.bool (m.testBit v),[.d (dm m),.d (.int (v:Int))]):=at2 (β:=Nat) (at2 (β:=Nat) aAc h) hv
noncomputable def aA5(k:Int×Int):Lit:=⟨k.1.toNat,.ne,k.2⟩
def Rs(S:Sto)(nt:List (Int×Int)):List Lit:=((nJ nt).filter fun k=>(S.firsts.getD k.1.toNat 0).testBit k.2.toNat).map aA5
theorem Vc{S:Sto}{nt:List (Int×Int)}{l:Lit}:l∈Rs S nt↔∃k∈nt,(S.firsts.getD k.1.toNat 0).testBit k.2.toNat=true/\aA5 k=l:=by
 unfold Rs;rw[eO];constructor
 ·rintro ⟨k,h,e⟩
  have:=eP.mp h;exact(cY k ((jG nt).mem_iff.mp this.1) this.2 e)
 ·rintro ⟨k,h,h2,e⟩
  exact(aH k (eP.mpr ⟨(jG nt).mem_iff.mpr h,h2⟩) e)
theorem aCc{S:Sto}{nt:List (Int×Int)}:(Rs S nt).length<=nt.length:=by unfold Rs;rw[bT,<-(jG nt).length_eq];exact gR _ _
section
variable {r:Rg}{S:Sto}
theorem vQ{nt:List (Int×Int)}(hs:S.Small)(hk:∀k∈nt,∃x a:Nat,k=((x:Int),(a:Int))/\x<S.firsts.length/\a<5)(hl:nt.length<64):G 26 [r.v,S.v,.c (.dt nt)]=some (cE (Rs S nt),[r.v,S.v,.c (.dt nt)]):=by
 have hk':∀k∈nJ nt,∃x a:Nat,k=((x:Int),(a:Int))/\x<S.firsts.length/\a<5:=fun k h=>hk k ((jG nt).mem_iff.mp h);have e1:=bV (T:=aD 26) (m:=2) (l8:= .v 3) (tg:= .n 3) (it:= .seq (.sortedKeys 2)) (ifs:=[(.val (.call 1 [.e (.meth 4 1 [.e (.sub (.v 3) (.k (.int 0)))]),.e (.sub (.v 3) (.k (.int 2)))]))]) (m6:=lP) (xs:=nJ nt) (c:=fun k=>(S.firsts.getD k.1.toNat 0).testBit k.2.toNat) (g:=lP)
  (σ:=[some r.v,some S.v,some (.c (.dt nt))]) (b9:=[some r.v,some S.v,some (.c (.dt nt))]) (dR (aB4 rfl hl) rfl) (by rw[(jG nt).length_eq];lia)
  (fun k hk J hJ=>by
   apply bc;intro Z;refine eK hJ fun j1 j2 Q2=>?_;clear hJ;subst Q2;refine cJ (hk' k hk) fun x a Q2 hx ha=>?_;subst Q2;apply Z;clear Z;have e3:S.firsts[x]?=some (S.firsts.getD x 0):=by rw[dS,fL hx];rfl
   have hf:=hs.firsts;have t:evT (aD 26) (.val (.call 1 [.e (.meth 4 1 [.e (.sub (.v 3) (.k (.int 0)))]),.e (.sub (.v 3) (.k (.int 2)))])) [some r.v,some S.v,some (.c (.dt nt)),some (.d (lP ((x:Int),(a:Int)))),j2]=some ((S.firsts.getD x 0).testBit a,[some r.v,some S.v,some (.c (.dt nt)),some (.d (lP ((x:Int),(a:Int)))),j2]):=
    dY (bS (bA (cB rfl rfl (bA (bO (e_v rfl) rfl it0) aN) rfl (bZ (by decide) (Gu e3 (by lia))) rfl) (bA (bO (e_v rfl) rfl it2) aN)) (bZ (by decide) (aCb (hs.fm _ (dT e3)) ha)) rfl)
   cases q:(S.firsts.getD x 0).testBit a with
   |false=>
    rw[q] at t;exact(fH _ ([_,j2]) rfl ((fW t).trans (by show _=some ((S.firsts.getD x 0).testBit a,_);rw[q];rfl)) rfl (fun h=>by rw[show(S.firsts.getD x 0).testBit a=true from h] at q;cases q))
   |true=>
    rw[q] at t;exact(fH _ ([_,j2]) rfl ((eV t cG).trans (by show _=some ((S.firsts.getD x 0).testBit a,_);rw[q];rfl)) rfl (fun h=>(aH _ (e_v rfl) rfl))))
 have e2:PyData.tuple (((nJ nt).filter fun k=>(S.firsts.getD k.1.toNat 0).testBit k.2.toNat).map lP)=cE (Rs S nt):=by
  unfold cE Rs;rw[List.map_map]
  congr 1
  refine List.map_congr_left fun k hk=>?_;apply bc;intro Z;refine fG (hk' k (eP.mp hk).1) fun x a Q2 _=>?_;clear hk;subst Q2;apply Z;clear Z;rfl
 rw[<-e2];refine(gr G26 rfl (aW (cN (zF (cR e1 rfl) ?_))) rfl);rw[bT];have:=gR (fun k=>(S.firsts.getD k.1.toNat 0).testBit k.2.toNat) (nJ nt);rw[(jG nt).length_eq] at this;lia
structure Vd(r:Rg)(ks:List (List Nat))(R A:Nat->Nat->Bool):Prop where
 aStep:∀k,k<r.pl.length->∀s a,1<=s->a∈ks.getD k []->A (k+1) (r.M s a)=true->A k s=true
 aEnd:∀s∈r.fin,A r.pl.length s=true
 rStep:∀k,k<r.pl.length->∀s a,1<=s/\s<=3->a∈ks.getD k []->r.M s a≠0->R k s=true->R (k+1) (r.M s a)=true
 r0:R 0 1=true
noncomputable def aDK:St:= .ite (.and [(.cmp .NotEq (.v 11) (.k (.int 0))),(.not (.val (.sub (.sub (.v 4) (.bin .add (.v 5) (.k (.int 1)))) (.v 11))))]) [.app (.v 7) (.v 11)] [.ite (.cmp .NotEq (.v 11) (.k (.int 0))) [.app (.v 8) (.v 10)] []]
def Jn:List St:=[.asg 11 (.sub (.sub (.at 0 13) (.bin .sub (.v 10) (.k (.int 1)))) (.bin .sub (.v 6) (.k (.int 1)))),aDK]
noncomputable def fZ(r:Rg)(A:Nat->Nat->Bool)(d9 a:Nat)(l:List Nat):List Nat:=(l.filter fun s=> !Nat.beq (r.M s a) 0&& !A (d9+1) (r.M s a)).map fun s=>r.M s a
noncomputable def kR(r:Rg)(A:Nat->Nat->Bool)(d9 a:Nat)(l:List Nat):List Nat:=l.filter fun s=> !Nat.beq (r.M s a) 0&&A (d9+1) (r.M s a)
theorem Ve{T:Tab}{A:Nat->Nat->Bool}{d9 a s:Nat}{x1 x2 x3 x9 j10 j11:Option V}{dl ul:List Nat}(hr:r.Ok)(hs:1<=s/\s<=3)(ha:1<=a/\a<=3)(hk:d9<r.pl.length)(h1:dl.length<=900)(h2:ul.length<=900):
  ∃j11',eG T 1000 (.n 10) Jn [some r.v,x1,x2,x3,some (.d (bW r.pl.length A)),some (.d (.int (d9:Int))),some (.d (.int (a:Int))),some (.c (.lst (aB dl))),some (.c (.lst (aB ul))),x9,j10,j11] (.int (s:Int))=
   some (.next,[some r.v,x1,x2,x3,some (.d (bW r.pl.length A)),some (.d (.int (d9:Int))),some (.d (.int (a:Int))),some (.c (.lst (aB (dl++fZ r A d9 a [s])))),some (.c (.lst (aB (ul++kR r A d9 a [s])))),x9,some (.d (.int (s:Int))),j11']):=by
 refine⟨some (.d (.int (r.M s a:Int))),aA (bP (pM (fK rfl) rfl rfl hs ha)) ?_⟩;have hn:=hr.len.2;have g4:=hr.m s a;by_cases h0:r.M s a=0
 ·have z:eL .NotEq (.int (r.M s a:Int)) (.int 0)=some false:=tM.trans (by rw[h0];rfl);have e1:fZ r A d9 a [s]=[]:=by unfold fZ;simp[h0]
  have e2:kR r A d9 a [s]=[]:=by unfold kR;simp[h0]
  rw[e1,e2,List.append_nil,List.append_nil];exact aA (bQ (q:=false) (fN (fW (aV (e_v rfl) rfl z))) (aA (bQ (q:=false) (aV (e_v rfl) rfl z) rfl) rfl)) rfl
 ·have z:eL .NotEq (.int (r.M s a:Int)) (.int 0)=some true:=tM.trans (by rw[oY h0];rfl);have la:=oT (n:=r.pl.length) (i:=d9+1) (L:=A) (by assumption) (by lia);have lb:=oF (f:=A (d9+1)) g4;have nb:Nat.beq (r.M s a) 0=false:=by rw[<-fQ];intro z;exact h0 (fM z)
  cases q:A (d9+1) (r.M s a) with
  |false=>
   rw[q] at lb;have e1:fZ r A d9 a [s]=[r.M s a]:=by unfold fZ;simp[nb,q]
   have e2:kR r A d9 a [s]=[]:=by unfold kR;simp[q]
   rw[e1,e2,List.append_nil,<-kQ];exact aA (bQ (q:=true) (fN (eV (aV (e_v rfl) rfl z) (eV (iK (dY (bO (bO (e_v rfl) (cW (e_v rfl) rfl rfl) la) (e_v rfl) lb))) cG))) (aA (pL rfl (e_v rfl) rfl (by unfold aB;simp;lia) rfl) rfl)) rfl
  |true=>
   rw[q] at lb;have e1:fZ r A d9 a [s]=[]:=by unfold fZ;simp[q]
   have e2:kR r A d9 a [s]=[s]:=by unfold kR;simp[nb,q]
   rw[e1,e2,List.append_nil,<-kQ];exact aA (bQ (q:=false) (fN (eV (aV (e_v rfl) rfl z) (fW (iK (dY (bO (bO (e_v rfl) (cW (e_v rfl) rfl rfl) la) (e_v rfl) lb)))))) (aA (bQ (q:=true) (aV (e_v rfl) rfl z) (aA (pL rfl (e_v rfl) rfl (by unfold aB;simp;lia) rfl) rfl)) rfl)) rfl
structure Jo(r:Rg)(S:Sto)(ks:List (List Nat))(p:(Nat->Nat)->(Nat->Nat)->Prop)(ls:List Lit):Prop where
 len:ls.length<=48
 out:∀l∈ls,∃j b,j<r.pl.length/\(1<=b/\b<=3)/\b∉ks.getD j []/\l=⟨r.pl.getD j 0,.ne,(b:Int)⟩
 hit:∀w q,Run r w q->(∀j,j<r.pl.length->(S.firsts.getD (r.pl.getD j 0) 0).testBit (w j)=true)->p w q->∃j,j<r.pl.length/\(⟨r.pl.getD j 0,.ne,(w j:Int)⟩:Lit)∈ls
theorem aDL(hr:r.Ok){j:Nat}(h:j<r.pl.length):r.pl.getD j 0<3:=by rw[dS,fL h];exact hr.p _ (zW h)
theorem Df{ks:List (List Nat)}{nt:List (Int×Int)}{p:(Nat->Nat)->(Nat->Nat)->Prop}(h1:nt.length<=48)(h2:∀key∈nt,∃j a,j<r.pl.length/\(1<=a/\a<=3)/\a∉ks.getD j []/\key=(((r.pl.getD j 0:Nat):Int),(a:Int)))(h3:∀w q,Run r w q->p w q->∃j,j<r.pl.length/\(((r.pl.getD j 0:Nat):Int),(w j:Int))∈nt):Jo r S ks p (Rs S nt):=by
 refine⟨iU aCc h1,fun l hl=>?_,fun w q hw hf hp=>?_⟩
 ·apply bc;intro Z;refine eR (Vc.mp hl) fun k hk _ Q3=>?_;clear hl;subst Q3;refine oZ (h2 k hk) fun j a h h' h'' Q5=>?_;subst Q5;apply Z;clear Z;exact(fH j a h h' h'' rfl)
 ·apply bc;intro Z;refine aP (h3 w q hw hp) fun j hj hm=>?_;apply Z;clear Z;exact(aH j hj (Vc.mpr (cY _ hm (hf j hj) rfl)))
theorem aCd{ks:List (List Nat)}{R A:Nat->Nat->Bool}{d9 a:Nat}(hr:r.Ok)(hs:S.Small)(h3:3<=S.firsts.length\/∀x∈r.pl,x<S.firsts.length)(hl:ks.length=r.pl.length)(hk:d9<r.pl.length)(ha:1<=a/\a<=3)(hL:Vd r ks R A)(hno:∀s,1<=s/\s<=3->A (d9+1) (r.M s a)=true->R d9 s=false):
  ∃ls,G 27 [r.v,S.v,.d (dK ks),.d (bW r.pl.length R),.d (bW r.pl.length A),.d (.int (d9:Int)),.d (.int (a:Int))]=some (cE ls,[r.v,S.v,.d (dK ks),.d (bW r.pl.length R),.d (bW r.pl.length A),.d (.int (d9:Int)),.d (.int (a:Int))])/\Jo r S ks (fun w _=>w d9=a) ls:=by
 apply bc;intro Z;have hn:=hr.len.2;have hpx:∀j,j<r.pl.length->r.pl.getD j 0<S.firsts.length:=fun j hj=>by
  rcases h3 with h|h
  ·have:=aDL hr hj;exact nE ‹_› ‹_›
  ·rw[dS,fL hj];exact h _ (zW hj)
 refine Dy (dA (f:=eG (aD 27) 1000 (.n 10) Jn) (m6:=fun(v:Nat)=>PyData.int (v:Int)) (all:=[1,2,3])
  (fun pre σ=>∃j10 j11,σ=[some r.v,some S.v,some (.d (dK ks)),some (.d (bW r.pl.length R)),some (.d (bW r.pl.length A)),some (.d (.int (d9:Int))),some (.d (.int (a:Int))),some (.c (.lst (aB (fZ r A d9 a pre)))),some (.c (.lst (aB (kR r A d9 a pre)))),some (.c (.dt [])),j10,j11])
  (fun pre s m0 σ e zz=>by
   refine X2 zz fun j10 j11 Q2=>?_;clear zz;subst Q2;have hp:pre.length<=3:=by have:=bU List.length e;simp at this;lia
   have l1:(fZ r A d9 a pre).length<=900:=by unfold fZ;rw[bT];have:=gR (fun s=> !Nat.beq (r.M s a) 0&& !A (d9+1) (r.M s a)) pre;lia
   have l2:(kR r A d9 a pre).length<=900:=by unfold kR;have:=gR (fun s=> !Nat.beq (r.M s a) 0&&A (d9+1) (r.M s a)) pre;lia
   refine X1 (Ve (T:=aD 27) (A:=A) (x1:=some S.v) (x2:=some (.d (dK ks))) (x3:=some (.d (bW r.pl.length R))) (x9:=some (.c (.dt []))) (j10:=j10) (j11:=j11) hr (lR.mp (gO e)) ha hk l1 l2) fun j q=>?_;refine(xY _ q (some (.d (.int (s:Int)))) j ?_);unfold fZ kR;rw[List.filter_append,List.filter_append,List.map_append]) [1,2,3] [] [some r.v,some S.v,some (.d (dK ks)),some (.d (bW r.pl.length R)),some (.d (bW r.pl.length A)),some (.d (.int (d9:Int))),some (.d (.int (a:Int))),some (.c (.lst [])),some (.c (.lst [])),some (.c (.dt [])),none,none] rfl (I2 none none rfl)) fun d7 h k10 k11 Q4=>?_;subst Q4
 have md:∀g,g∈fZ r A d9 a [1,2,3]↔∃s,(1<=s/\s<=3)/\r.M s a≠0/\A (d9+1) (r.M s a)=false/\r.M s a=g:=fun g=>by
  unfold fZ;rw[eO];constructor
  ·rintro ⟨s,h,e⟩
   obtain⟨h1,h2⟩:=eP.mp h;rw[jV] at h2;exact(zZ s (lR.mp h1) (fun z=>by simp[z] at h2) (by simpa using h2.2) e)
  ·rintro ⟨s,h1,h2,h3,e⟩
   have nb:Nat.beq (r.M s a) 0=false:=by rw[<-fQ];intro z;exact h2 (fM z)
   exact(aH s (eP.mpr ⟨lR.mpr h1,by simp[nb,h3]⟩) e)
 have mu:∀s,s∈kR r A d9 a [1,2,3]↔(1<=s/\s<=3)/\r.M s a≠0/\A (d9+1) (r.M s a)=true:=fun s=>by
  unfold kR;rw[eP,lR];constructor
  ·rintro ⟨h1,h2⟩
   rw[jV] at h2;exact(cD h1 (fun z=>by simp[z] at h2) h2.2)
  ·rintro ⟨h1,h2,h3⟩
   have nb:Nat.beq (r.M s a) 0=false:=by rw[<-fQ];intro z;exact h2 (fM z)
   exact⟨h1,by simp[nb,h3]⟩
 have dl:(fZ r A d9 a [1,2,3]).length<=3:=by unfold fZ;rw[bT];exact gR _ _
 have ul:(kR r A d9 a [1,2,3]).length<=3:=gR _ _;apply Z;clear Z;generalize fZ r A d9 a [1,2,3]=ds at h md dl;generalize kR r A d9 a [1,2,3]=us at h mu ul;apply bc;intro Z;have small:∀v∈ds,v<4:=fun v hv=>by refine Ka ((md v).mp hv) fun s _ _ _ Q4=>?_;clear hv;subst Q4;exact hr.m _ _
 refine Nv (Jm (A:=A) (ks:=ks) (nt0:=[]) (d9:=d9+1) (sm0:=eS ds) hr hl (by assumption) hL.aStep hL.aEnd
  (fun s hs=>by rw[fF small] at hs;refine Ka ((md s).mp hs) fun t _ h2 _ Q4=>?_;subst Q4;have:=hr.m t a;lia)
  (fun s hs=>by rw[fF small] at hs;refine Ka ((md s).mp hs) fun t _ _ h2 Q4=>?_;subst Q4;exact h2) mF (by decide)) fun n1 q1 old1 new1 run1 cnt1=>?_
 simp only[List.length_nil] at cnt1;refine Nv (aDJ (A:=R) (ks:=ks) (nt0:=n1) (d9:=d9) (sm0:=us) hr hl (jM ‹_›) hL.rStep hL.r0
  (fun s hs=>((mu s).mp hs).1)
  (fun s hs=>hno s ((mu s).mp hs).1 ((mu s).mp hs).2.2) (Nat.le_succ_of_le ‹_›) (by lia)) fun n2 q2 old2 new2 run2 cnt2=>?_
 have new:∀key∈n2,∃j a,j<r.pl.length/\(1<=a/\a<=3)/\a∉ks.getD j []/\key=(((r.pl.getD j 0:Nat):Int),(a:Int)):=fun key hk=>by
  rcases new2 key hk with h|h
  ·rcases new1 key h with h|h
   ·exact absurd h (by simp)
   ·exact h
  ·exact h
 apply Z;clear Z;refine(aH (Rs S n2) ?_ (Df (by lia) new fun w q hw hwa=>?_))
 ·exact(gr G27 rfl (aA (iM (bY (iV bH) (bY (iV bH) (bY rfl iL))) rfl) (aA (eJ (zG rfl (cW (fK rfl) rfl rfl) (by decide)) h)
   (aA (oA (cB rfl rfl (bA (e_v rfl) (bA (e_v rfl) (bA (cW (e_v rfl) rfl rfl) (bA (zM (wP rfl rfl) (by lia) small) (eB rfl aN rfl))))) rfl (bZ (by decide) q1) rfl) rfl)
   (aA (oA (cB rfl rfl (bA (e_v rfl) (bA (e_v rfl) (bA (wP rfl rfl) (eB rfl aN rfl)))) rfl (bZ (by decide) q2) rfl) rfl)
   (aW (cN (cB rfl rfl (eB rfl (eB rfl aN rfl) rfl) rfl (bZ (by decide) (vQ hs (fun k hk=>by apply bc;intro Z;refine oZ (new k hk) fun j b h1 h2 _ Q5=>?_;subst Q5;apply Z;clear Z;exact(dW _ _ rfl (hpx j h1) (by lia))) (by lia))) rfl))))))) rfl)
 ·have hne:r.M (q d9) a≠0:=by rw[<-hwa,<-hw.next d9 hk];have:=hw.st (d9+1) hk;lia
  have hq:=hw.st d9 (jM ‹_›)
  cases hA:A (d9+1) (r.M (q d9) a) with
  |false=>
   apply bc;intro Z;refine aP (run1 w q hw (by rw[fF small,hw.next d9 hk,hwa];exact(md _).mpr (zZ (q d9) hq hne hA rfl))) fun j h1 h2=>?_;apply Z;clear Z;exact(aH j h1 (old2 _ h2))
  |true=>exact run2 w q hw ((mu _).mpr (cD hq hne hA))
end
theorem lJ:∀m,m<32->fY m.testBit=m:=by decide
theorem aDM:∀a b c d e:Bool,[0,1,2,3,4].map ((if a then 1 else 0)+(if b then 2 else 0)+(if c then 4 else 0)+(if d then 8 else 0)+(if e then 16 else 0)).testBit=[a,b,c,d,e]:=by decide
theorem kS{f:Nat->Bool}{v:Nat}(h:v<5):(fY f).testBit v=f v:=by have z:=aDM (f 0) (f 1) (f 2) (f 3) (f 4);have z:=List.map_inj_left.mp (show[0,1,2,3,4].map (fY f).testBit=[0,1,2,3,4].map f from z);exact z v ((by decide:∀v,v<5->v∈[0,1,2,3,4]) v h)
theorem aAr{m v:Nat}(h:m<32)(hv:5<=v):m.testBit v=false:=by apply Nat.testBit_lt_two_pow;exact nE h (Nat.pow_le_pow_right (n:=2) (by decide) hv)
theorem zN{f g:Nat->Bool}(h:∀v,v<5->f v=g v):fY f=fY g:=by unfold fY;rw[h 0 (by decide),h 1 (by decide),h 2 (by decide),h 3 (by decide),h 4 (by decide)]
theorem vR{m m':Nat}(h:m<32)(h':m'<32)(e:∀v,v<5->m.testBit v=m'.testBit v):m=m':=by rw[<-lJ m h,<-lJ m' h'];exact zN e
theorem Nc{f g:Nat->Bool}(h:∀v,v<5->f v=true->g v=true):fY f<=fY g:=by
 have q:∀v,v<5->∀n:Nat,(if f v then n else 0)<=(if g v then n else 0):=fun v hv n=>by
  cases e:f v with
  |false=>simp
  |true=>rw[h v hv e];exact eQ _
 exact Nat.add_le_add (Nat.add_le_add (Nat.add_le_add (Nat.add_le_add (q 0 (by decide) 1) (q 1 (by decide) 2)) (q 2 (by decide) 4)) (q 3 (by decide) 8)) (q 4 (by decide) 16)
theorem zO{m m':Nat}(h:m<32)(h':m'<32)(e:∀v,v<5->m.testBit v=true->m'.testBit v=true):m<=m':=by rw[<-lJ m h,<-lJ m' h'];exact Nc e
theorem eU{m:Nat}(h:m<32):m=0↔∀v,v<5->m.testBit v=false:=by
 constructor
 ·rintro rfl v _;simp
 ·intro q;exact vR h (by decide) fun v hv=>by rw[q v hv];simp
theorem iP{s:Sn}{k:Int}{m v:Nat}(h:v<5):(cut s k m).testBit v=(m.testBit v&&lets s k (v:Int)):=kS h
theorem Vf{s:Sn}{k:Int}{m:Nat}(h:m<32):cut s k m<=m:=zO mR h fun v hv e=>by rw[iP hv,jV] at e;exact e.1
theorem Nd{f:Nat->Bool}:vl (fY f)=[0,1,2,3,4].filter f:=by unfold vl;exact List.filter_congr fun v hv=>kS (by simp at hv;lia)
theorem rW{m:Nat}{c:Nat->Bool}:(vl m).filter c=vl (fY fun v=>m.testBit v&&c v):=by rw[Nd];unfold vl;rw[List.filter_filter];refine List.filter_congr fun v _=>?_;rw[Bool.and_comm]
theorem Jp:vl 0=[]:=rfl
theorem Gz{m m':Nat}(h:m<32)(h':m'<32)(e:vl m=vl m'):m=m':=vR h h' fun v hv=>by
 rw[Bool.eq_iff_iff];have a:=pY (m:=m) (v:=v);have b:=pY (m:=m') (v:=v);rw[e] at a;constructor
 ·intro q;exact(b.mp (a.mpr ⟨hv,q⟩)).2
 ·intro q;exact(a.mp (b.mpr ⟨hv,q⟩)).2
theorem rX{m:Nat}:(vl m).length<=5:=gR _ _
noncomputable def bit(D:List Nat)(x v:Nat):Bool:=(D.getD x 0).testBit v
def Ms(D:List Nat):Prop:=∀m∈D,m<32
theorem Ms.get{D:List Nat}(h:Ms D)(x:Nat):D.getD x 0<32:=by
 rw[dS]
 cases e:D[x]? with
 |none=>simp
 |some m=>exact h m (dT e)
theorem vS{D D':List Nat}(hl:D.length=D'.length)(h:∀x,x<D.length->D.getD x 0=D'.getD x 0):D=D':=
 List.ext_getElem hl fun i h1 h2=>by have:=h i h1;rw[dS,dS,fL h1,fL h2] at this;exact this
theorem zP{D D':List Nat}(hl:D.length=D'.length)(h1:Ms D)(h2:Ms D')(h:∀x v,x<D.length->v<5->bit D x v=bit D' x v):D=D':=
 vS hl fun x hx=>vR (h1.get x) (h2.get x) fun v hv=>h x v hx hv
theorem iQ{n x:Nat}{f:Nat->Nat}(h:x<n):((List.range n).map f).getD x 0=f x:=by rw[dS,eW,oS h];rfl
theorem Jq{n x v:Nat}{f:Nat->Nat->Bool}(h:x<n)(hv:v<5):bit ((List.range n).map fun x=>fY (f x)) x v=f x v:=by unfold bit;rw[iQ h];exact kS hv
theorem Vg{n:Nat}{f:Nat->Nat->Bool}:Ms ((List.range n).map fun x=>fY (f x)):=fun m hm=>by refine aP (eO.mp hm) fun x _ Q2=>?_;clear hm;subst Q2;exact xL _
theorem vT{D:List Nat}{x y m:Nat}(h:x<D.length):(D.set x m).getD y 0=if y=x then m else D.getD y 0:=by
 rw[dS,dS,List.getElem?_set];by_cases e:x=y
 ·subst e;rw[aJ rfl,aJ rfl,aJ h];rfl
 ·rw[aR e,aR fun q=>e q.symm]
theorem oU{D:List Nat}{x y m v:Nat}(h:x<D.length):bit (D.set x m) y v=if y=x then m.testBit v else bit D y v:=by
 unfold bit;rw[vT h]
 split<;>rfl
theorem Vh{D:List Nat}{x m:Nat}(h:Ms D)(hm:m<32):Ms (D.set x m):=fun q hq=>by
 rcases List.mem_or_eq_of_mem_set hq with h'|rfl
 ·exact h q h'
 ·exact hm
theorem sum_set:∀{D:List Nat} {x m:Nat},x<D.length->(D.set x m).sum+D.getD x 0=D.sum+m
 |d::D,0,m,h=>by simp;lia
 |d::D,x+1,m,h=>by have:=sum_set (D:=D) (x:=x) (m:=m) (by simpa using h);simp at this ⊢;lia
theorem Vi:∀{D D':List Nat},D.length=D'.length->(∀x,x<D.length->D.getD x 0<=D'.getD x 0)->D.sum<=D'.sum
 |[],[],_,_=>eQ _
 |a::D,b::D',hl,h=>by
  have h0:=h 0 (by simp);have:=Vi (D:=D) (D':=D') (by simpa using hl) fun x hx=>by have:=h (x+1) (by simp;omega);simpa using this
  simp at h0 ⊢;omega
theorem Ha:∀{D D':List Nat},D.length=D'.length->(∀x,x<D.length->D.getD x 0<=D'.getD x 0)->D≠D'->D.sum<D'.sum
 |[],[],_,_,n=>absurd rfl n
 |a::D,b::D',hl,h,n=>by
  have h0:=h 0 (by simp);have hr:∀x,x<D.length->D.getD x 0<=D'.getD x 0:=fun x hx=>by have:=h (x+1) (by simp;omega);simpa using this
  have hl':D.length=D'.length:=by simpa using hl
  by_cases e:a=b
  ·clear hl h;subst e;have:=Ha hl' hr (fun q=>n (by rw[q]));simp;omega
  ·have:=Vi hl' hr;simp at h0 ⊢;omega
theorem Dg{l:Lit}{v:Int}:lets (oC l).s (oC l).k v= !lets l.s l.k v:=by
 obtain⟨x,s,k⟩:=l
 cases s
 ·show(v==k)= !(v != k);simp[bne]
 ·rfl
 ·show decide (k+1<=v)= !decide (v<=k);by_cases h:v<=k
  ·rw[iX h,oY (by lia)];rfl
  ·rw[oY h,iX (by lia)];rfl
 ·show decide (v<=k-1)= !decide (k<=v);by_cases h:k<=v
  ·rw[iX h,oY (by lia)];rfl
  ·rw[oY h,iX (by lia)];rfl
def xO(pl:List Nat)(ls:List Lit)(w:List Nat):Prop:=∀l∈ls,∀p,p<pl.length->pl.getD p 0=l.x->lets l.s l.k ((w.getD p 0:Nat):Int)=true
def rA(D:List Nat)(ls:List Lit):Prop:=∀l∈ls,∀v,v<5->bit D l.x v=true->lets l.s l.k (v:Int)=true
structure Wds(r:Rg)(fs:List Nat)(W:List (List Nat)):Prop where
 len:W.length<=1000
 mem:∀w,w∈W↔w.length=r.pl.length/\(∃q,Run r (fun p=>w.getD p 0) q)/\∀p,p<r.pl.length->bit fs (r.pl.getD p 0) (w.getD p 0)=true
def eE(pl D w:List Nat):Bool:=(List.range pl.length).all fun p=>bit D (pl.getD p 0) (w.getD p 0)
def rB(pl:List Nat)(W:List (List Nat))(D:List Nat)(p v:Nat):Bool:=W.any fun w=>eE pl D w&&Nat.beq (w.getD p 0) v
def lK(pl:List Nat)(W:List (List Nat))(D:List Nat)(x v:Nat):Bool:=(List.range pl.length).all fun p=> !Nat.beq (pl.getD p 0) x||rB pl W D p v
def FM(pl:List Nat)(W:List (List Nat))(D:List Nat):List Nat:=(List.range D.length).map fun x=>fY fun v=>bit D x v&&lK pl W D x v
def KM(pl D:List Nat):List Nat:=(List.range D.length).map fun x=>fY fun v=>bit D x v&&(!pl.contains x||(decide (1<=v)&&decide (v<=3)))
section
variable {pl D:List Nat}{W:List (List Nat)}{x v:Nat}
theorem jT:(FM pl W D).length=D.length:=by unfold FM;simp
theorem lT:(KM pl D).length=D.length:=by unfold KM;simp
theorem pO:Ms (FM pl W D):=Vg
theorem rC:Ms (KM pl D):=Vg
theorem oG(h:x<D.length)(hv:v<5):bit (FM pl W D) x v=(bit D x v&&lK pl W D x v):=Jq h hv
theorem vU(h:x<D.length)(hv:v<5):bit (KM pl D) x v=(bit D x v&&(!pl.contains x||(decide (1<=v)&&decide (v<=3)))):=Jq h hv
theorem kB{w:List Nat}:eE pl D w=true↔∀p,p<pl.length->bit D (pl.getD p 0) (w.getD p 0)=true:=by unfold eE;rw[List.all_eq_true];exact⟨fun h p hp=>h p (dU.mpr hp),fun h p hp=>h p (dU.mp hp)⟩
theorem kE{p:Nat}:rB pl W D p v=true↔∃w∈W,eE pl D w=true/\w.getD p 0=v:=by
 unfold rB;rw[List.any_eq_true];constructor
 ·rintro ⟨w,h,e⟩
  rw[jV] at e;exact(cY w h e.1 (fM e.2))
 ·rintro ⟨w,h,e,rfl⟩
  exact(aH w h (by rw[e];simp))
theorem jH:lK pl W D x v=true↔∀p,p<pl.length->pl.getD p 0=x->rB pl W D p v=true:=by
 unfold lK;rw[List.all_eq_true];constructor
 ·intro h p hp e;have:=h p (dU.mpr hp);rw[e] at this;simpa using this
 ·intro h p hp;by_cases e:pl.getD p 0=x
  ·rw[h p (dU.mp hp) e];simp
  ·have:Nat.beq (pl.getD p 0) x=false:=by rw[<-fQ];intro z;exact e (fM z)
   rw[this];rfl
end
def itF(pl:List Nat)(W:List (List Nat)):Nat->List Nat->List Nat
 |0,D=>D
 |j+1,D=>FM pl W (itF pl W j D)
section
variable {pl D D':List Nat}{W:List (List Nat)}{x v i j:Nat}
def le(D D':List Nat):Prop:=∀x v,x<D.length->v<5->bit D x v=true->bit D' x v=true
theorem qB(h:bit D x v=true)(hm:Ms D):x<D.length/\v<5:=by
 constructor
 ·apply Decidable.byContradiction;intro q;unfold bit at h;rw[dS,List.getElem?_eq_none (Nat.le_of_not_lt ‹_›)] at h;simp at h
 ·apply Decidable.byContradiction;intro q;unfold bit at h;rw[aAr (hm.get x) (Nat.le_of_not_lt ‹_›)] at h;cases h
theorem Jr:le (FM pl W D) D:=fun x v hx hv e=>by rw[jT] at hx;rw[oG hx hv,jV] at e;exact e.1
theorem lL:(itF pl W j D).length=D.length:=by
 induction j with
 |zero=>rfl
 |succ j ih=>show(FM pl W _).length=_;rw[jT,ih]
theorem Hb(h:Ms D):Ms (itF pl W j D):=by
 cases j with
 |zero=>exact h
 |succ j=>exact pO
theorem aCe(k:Nat):le (itF pl W (i+k) D) (itF pl W i D):=by
 induction k with
 |zero=>exact fun _ _ _ _ h=>h
 |succ k ih=>
  intro x v hx hv e;rw[lL] at hx;have:=Jr (pl:=pl) (W:=W) (D:=itF pl W (i+k) D) x v (by rw[jT,lL];exact hx) hv e;exact ih x v (by rw[lL];exact hx) hv this
theorem tN(h:FM pl W (itF pl W i D)=itF pl W i D):∀k,itF pl W (i+k) D=itF pl W i D
 |0=>rfl
 |k+1=>by show FM pl W (itF pl W (i+k) D)=_;rw[tN h k,h]
theorem Vj(hi:FM pl W (itF pl W i D)=itF pl W i D)(hj:FM pl W (itF pl W j D)=itF pl W j D):itF pl W i D=itF pl W j D:=by
 rcases Nat.le_total i j with h|h
 ·have:=tN hi (j-i);rw[<-this];congr 1;lia
 ·have:=tN hj (i-j);rw[<-this];congr 1;lia
theorem Vk(hm:Ms D)(hx:x<D.length)(hi:FM pl W (itF pl W i D)=itF pl W i D)(h:(itF pl W j D).getD x 0=0):(itF pl W i D).getD x 0=0:=by
 rcases Nat.le_total i j with q|q
 ·have:=tN hi (j-i);rw[<-this,show i+(j-i)=j by lia];exact h
 ·rw[eU ((Hb hm).get x)];intro v hv;have:=aCe (pl:=pl) (W:=W) (D:=D) (i:=j) (i-j) x v (by rw[lL];exact hx) hv;rw[show j+(i-j)=i by lia] at this;rw[<-fQ];intro e;have:=this e;unfold bit at this;rw[h] at this;simp at this
theorem aAs(hn:∀p p',p<pl.length->p'<pl.length->pl.getD p 0=pl.getD p' 0->p=p')(hm:Ms D):FM pl W (FM pl W D)=FM pl W D:=by
 refine zP (by rw[jT]) pO pO fun x v hx hv=>?_;rw[jT,jT] at hx;rw[oG (by rw[jT];exact hx) hv,oG hx hv]
 cases hb:bit D x v with
 |false=>rfl
 |true=>
  cases hk:lK pl W D x v with
  |false=>rfl
  |true=>
   show lK pl W (FM pl W D) x v=true;rw[jH] at hk ⊢;intro p hp e;refine eR (kE.mp (hk p hp e)) fun w hw hd Q3=>?_;clear hv hb hk;subst Q3;refine kE.mpr (cY w hw ?_ rfl);refine kB.mpr fun p' hp'=>?_;have b:=kB.mp hd p' hp';have l:=qB b hm;rw[oG l.1 l.2,b];show lK pl W D (pl.getD p' 0) (w.getD p' 0)=true;refine jH.mpr fun p'' hp'' e'=>?_;clear b l;obtain rfl:=hn p'' p' hp'' hp' e';exact kE.mpr (cY w hw hd rfl)
theorem aAt(h:∀w∈W,eE pl D w=false){p:Nat}(hp:p<pl.length)(hx:pl.getD p 0<D.length):(FM pl W D).getD (pl.getD p 0) 0=0:=by
 rw[eU (pO.get _)];intro v hv;have:bit (FM pl W D) (pl.getD p 0) v=false:=by
  rw[oG hx hv]
  cases hk:lK pl W D (pl.getD p 0) v with
  |false=>simp
  |true=>
   refine eR (kE.mp (jH.mp hk p hp rfl)) fun w hw hd _=>?_;rw[h w hw] at hd;cases hd
 exact this
variable {r:Rg}{ks:List (List Nat)}
abbrev AA(r:Rg)(ks:List (List Nat)):Nat->Nat->Bool:=fun i=>Alv r.M r.fin ks (ks.length-i)
theorem aAu{k:Nat}(h:k<ks.length):AA r ks k=Dd r.M (AA r ks (k+1)) (ks.getD k []):=by show Alv r.M r.fin ks (ks.length-k)=_;rw[nS1 (by assumption:k<ks.length)];show Dd r.M (Alv r.M r.fin ks (ks.length-(k+1))) (ks.getD (ks.length-1-(ks.length-(k+1))) [])=_;rw[show ks.length-1-(ks.length-(k+1))=k from(bU (ks.length-1- ·) (nS2 _ _).symm).trans (Nat.sub_sub_self (Nat.le_sub_one_of_lt h))]
theorem lU{a b:Nat}(h:a≠b):Nat.beq a b=false:=by rw[<-fQ];intro z;exact h (fM z)
theorem vV(hl:ks.length=r.pl.length):Vd r ks (Rch r.M ks) (AA r ks):=by
 refine⟨fun k hk s a hs ha h=>?_,fun s hs=>?_,fun k hk s a hs ha h0 h=>?_,rfl⟩
 ·rw[aAu (by lia)];unfold Dd;rw[lU (by exact Nat.ne_of_gt ‹_› :s≠0)];exact List.any_eq_true.mpr (aH a ha h)
 ·show Alv r.M r.fin ks (ks.length-r.pl.length) s=true;rw[show ks.length-r.pl.length=0 by lia];show r.fin.contains s=true;simpa using hs
 ·show Dc r.M (Rch r.M ks k) (ks.getD k []) (r.M s a)=true;unfold Dc;rw[lU h0];refine List.any_eq_true.mpr (aH s (lR.mpr hs) ?_);rw[h];exact List.any_eq_true.mpr (aH a ha (by simp))
theorem Vl(hr:r.Ok):∀(k s:Nat),Rch r.M ks k s=true->∃w q:Nat->Nat,q 0=1/\q k=s/\(∀j,j<k->w j∈ks.getD j []/\q (j+1)=r.M (q j) (w j))/\∀j,j<=k->1<=q j/\q j<=3
 |0,s,h=>by
  have:s=1:=fM h;subst this;exact(fH (fun _=>0) (fun _=>1) rfl rfl (fun j hj=>absurd hj (Nat.not_lt_zero _)) (fun j _=>⟨by show 1<=1;decide,by show 1<=3;decide⟩))
 |k+1,s,h=>by
  apply bc;intro Z;have h':(!(Nat.beq s 0)&&[1,2,3].any fun t=>Rch r.M ks k t&&(ks.getD k []).any fun a=>Nat.beq (r.M t a) s)=true:=h;rw[jV,List.any_eq_true] at h';obtain⟨h0,t,ht,h2⟩:=h';rw[jV,List.any_eq_true] at h2;obtain⟨h1,a,ha,h3⟩:=h2;have h3:=fM h3;have hs0:s≠0:=fun q=>by rename_i y0;clear h y0;subst q;simp at h0
  apply Z;clear Z;have hs4:s<4:=by rw[<-h3];exact hr.m _ _
  apply bc;intro Z;obtain⟨w,q,q0,qk,st,bd⟩:=Vl hr k t h1;apply Z;clear Z;refine(fH (fun j=>if j=k then a else w j) (fun j=>if j=k+1 then s else q j) ?_ (aJ rfl) (fun j hj=>?_) (fun j hj=>?_))
  ·show(if 0=k+1 then s else q 0)=1;rw[aR ((Nat.succ_ne_zero _).symm),q0]
  ·show(if j=k then a else w j)∈_/\(if j+1=k+1 then s else q (j+1))=r.M (if j=k+1 then s else q j) (if j=k then a else w j);rw[aR (by exact Nat.ne_of_lt ‹_› : ¬j=k+1)];by_cases e:j=k
   ·clear h h1 hj;subst e;rw[aJ rfl,aJ rfl,qk,h3];exact⟨ha,rfl⟩
   ·rw[aR e,aR (by lia)];exact st j (by lia)
  ·show 1<=(if j=k+1 then s else q j)/\(if j=k+1 then s else q j)<=3;by_cases e:j=k+1
   ·rw[aJ e];lia
   ·rw[aR e];exact bd j (by lia)
theorem Vm(hr:r.Ok):∀i,Alv r.M r.fin ks i 0=false
 |0=>by
  show r.fin.contains 0=false;rw[<-fQ];intro h;have:=(hr.f 0 (by simpa using h)).1;lia
 |i+1=>rfl
theorem aA6(hr:r.Ok)(hl:ks.length=r.pl.length):∀(i s:Nat),i<=r.pl.length->1<=s/\s<=3->Alv r.M r.fin ks i s=true->∃w q:Nat->Nat,q (r.pl.length-i)=s/\(∀j,r.pl.length-i<=j->j<r.pl.length->w j∈ks.getD j []/\q (j+1)=r.M (q j) (w j))/\(∀j,r.pl.length-i<=j->j<=r.pl.length->1<=q j/\q j<=3)/\q r.pl.length∈r.fin
 |0,s,hi,hs,h=>by
  have h':r.fin.contains s=true:=h;exact(fH (fun _=>0) (fun _=>s) rfl (fun j h1 h2=>absurd h2 (Nat.not_lt.mpr ‹_›)) (fun j _ _=>hs) (by simpa using h'))
 |i+1,s,hi,hs,h=>by
  apply bc;intro Z;have h':(!(Nat.beq s 0)&&(ks.getD (ks.length-1-i) []).any fun a=>Alv r.M r.fin ks i (r.M s a))=true:=h;rw[jV,List.any_eq_true] at h';obtain⟨_,a,ha,h1⟩:=h';have hm:r.M s a≠0:=fun z=>by rw[z,Vm hr] at h1;cases h1
  have hm4:=hr.m s a;obtain⟨w,q,qk,st,bd,qf⟩:=aA6 hr hl i (r.M s a) (jM ‹_›) (by lia) h1;have e0:r.pl.length-(i+1)+1=r.pl.length-i:=(nS1 ‹_›).symm;have e1:ks.length-1-i=r.pl.length-(i+1):=by lia
  rw[e1] at ha;apply Z;clear Z;generalize hk:r.pl.length-(i+1)=k at*;rw[<-e0] at qk st bd;refine(fH (fun j=>if j=k then a else w j) (fun j=>if j=k then s else q j) (aJ rfl) (fun j h1 h2=>?_) (fun j h1 h2=>?_) ?_)
  ·show(if j=k then a else w j)∈_/\(if j+1=k then s else q (j+1))=r.M (if j=k then s else q j) (if j=k then a else w j);rw[aR (by lia: ¬j+1=k)];by_cases e:j=k
   ·clear hk e0 e1 h1;subst e;rw[aJ rfl,aJ rfl,qk];exact⟨ha,rfl⟩
   ·rw[aR e,aR e];exact st j (by lia) h2
  ·show 1<=(if j=k then s else q j)/\(if j=k then s else q j)<=3;by_cases e:j=k
   ·rw[aJ e];exact hs
   ·rw[aR e];exact bd j (by lia) h2
  ·show(if r.pl.length=k then s else q r.pl.length)∈r.fin;rw[aR (by lia)];exact qf
theorem Js(hL:Vd r ks (Rch r.M ks) (AA r ks)){w q:Nat->Nat}(h:Run r w q)(hw:∀j,j<r.pl.length->w j∈ks.getD j []):(∀k,k<=r.pl.length->Rch r.M ks k (q k)=true)/\∀i,i<=r.pl.length->AA r ks (r.pl.length-i) (q (r.pl.length-i))=true:=by
 refine⟨fun k=>?_,fun i=>?_⟩
 ·induction k with
  |zero=>intro _;rw[h.q0];exact hL.r0
  |succ k ih=>
   intro hk;rw[h.next k hk];refine hL.rStep k hk (q k) (w k) (h.st k (jM ‹_›)) (hw k hk) ?_ (ih (jM ‹_›));rw[<-h.next k hk];have:=h.st (k+1) hk;omega
 ·induction i with
  |zero=>intro _;exact hL.aEnd _ h.fin
  |succ i ih=>
   intro hi;have e0:r.pl.length-i=r.pl.length-(i+1)+1:=nS1 ‹_›;have:=ih (jM ‹_›);rw[e0] at this;generalize hk:r.pl.length-(i+1)=k at*;rw[h.next k (by omega)] at this;exact hL.aStep k (by omega) (q k) (w k) (h.st k (by omega)).1 (hw k (by omega)) this
theorem aAv(hr:r.Ok)(hl:ks.length=r.pl.length)(hlet:∀j,j<r.pl.length->∀a∈ks.getD j [],1<=a/\a<=3){d9 a:Nat}(hs:d9<r.pl.length)(ha:a∈ks.getD d9 []):
  (∃s,(1<=s/\s<=3)/\Rch r.M ks d9 s=true/\AA r ks (d9+1) (r.M s a)=true)↔∃w q,Run r w q/\(∀j,j<r.pl.length->w j∈ks.getD j [])/\w d9=a:=by
 constructor
 ·rintro ⟨s,h3,h1,h2⟩
  apply bc;intro Z;have hm:r.M s a≠0:=fun z=>by rw[z] at h2;rw[show AA r ks (d9+1) 0=false from Vm hr _] at h2;cases h2
  have hm4:=hr.m s a;refine oZ (Vl hr d9 s h1) fun w1 q1 a1 a2 a3 a4=>oZ (aA6 hr hl (ks.length-(d9+1)) (r.M s a) (hl▸Nat.sub_le _ _) (by lia) h2) fun w2 q2 b1 b2 b3 b4=>?_;rw[hl,Nat.sub_sub_self hs] at b1 b2 b3;apply Z;clear Z;refine(dW (fun j=>if j<d9 then w1 j else if j=d9 then a else w2 j) (fun j=>if j<=d9 then q1 j else q2 j) ⟨?_,fun k hk=>?_,fun k hk=>?_,fun k hk=>?_,?_⟩ (fun j hj=>?_) ?_)
  ·show(if 0<=d9 then q1 0 else q2 0)=1;rw[aJ (gS _),a1]
  ·show 1<=(if k<d9 then w1 k else if k=d9 then a else w2 k)/\(if k<d9 then w1 k else if k=d9 then a else w2 k)<=3;by_cases e:k<d9
   ·rw[aJ e];exact hlet k hk _ (a3 k e).1
   ·rw[aR e];by_cases e2:k=d9
    ·rw[aJ e2];exact hlet d9 hs a ha
    ·rw[aR e2];exact hlet k hk _ (b2 k (by lia) hk).1
  ·show(if k+1<=d9 then q1 (k+1) else q2 (k+1))=r.M (if k<=d9 then q1 k else q2 k) (if k<d9 then w1 k else if k=d9 then a else w2 k);by_cases e:k<d9
   ·rw[aJ (by assumption),aJ (jM ‹_›),aJ e];exact(a3 k e).2
   ·rw[aR (by assumption),aR e];by_cases e2:k=d9
    ·subst e2;rw[aJ (eQ _),aJ rfl,a2,b1]
    ·rw[aR (by lia),aR e2];exact(b2 k (by lia) hk).2
  ·show 1<=(if k<=d9 then q1 k else q2 k)/\(if k<=d9 then q1 k else q2 k)<=3;by_cases e:k<=d9
   ·rw[aJ e];exact a4 k e
   ·rw[aR e];exact b3 k (Nat.lt_of_not_le ‹_›) hk
  ·show(if r.pl.length<=d9 then q1 _ else q2 _)∈r.fin;rw[aR (Nat.not_le.mpr ‹_›)];exact b4
  ·show(if j<d9 then w1 j else if j=d9 then a else w2 j)∈_;by_cases e:j<d9
   ·rw[aJ e];exact(a3 j e).1
   ·rw[aR e];by_cases e2:j=d9
    ·rw[aJ e2,e2];exact ha
    ·rw[aR e2];exact(b2 j (by lia) hj).1
  ·show(if d9<d9 then w1 d9 else if d9=d9 then a else w2 d9)=a;rw[aR (jL _),aJ rfl]
 ·rintro ⟨w,q,h,hw,rfl⟩
  obtain⟨h1,h2⟩:=Js (vV hl) h hw;refine(cY (q d9) (h.st d9 (jM ‹_›)) (h1 d9 (jM ‹_›)) ?_);have:=h2 (r.pl.length-(d9+1)) (Nat.sub_le _ _);rw[Nat.sub_sub_self hs,h.next d9 hs] at this;exact this
end
def app(D:List Nat)(es:List Ent):List Nat:=es.foldl (fun d e=>d.set e.x (cut e.l.s e.l.k e.old)) D
theorem rD{D:List Nat}{es:List Ent}:(app D es).length=D.length:=by
 unfold app
 induction es generalizing D with
 |nil=>rfl
 |cons e es ih=>rw[List.foldl_cons,ih,List.length_set]
theorem vW{D:List Nat}{es:List Ent}{e:Ent}:app D (es++[e])=(app D es).set e.x (cut e.l.s e.l.k e.old):=by unfold app;rw[List.foldl_append];rfl
theorem qC{D:List Nat}{es es':List Ent}:app D (es++es')=app (app D es) es':=by unfold app;rw[List.foldl_append]
def lM(D:List Nat)(es:List Ent):Prop:=∀pre e m0,es=pre++e::m0->e.x<D.length/\e.old=(app D pre).getD e.x 0
theorem mT{D:List Nat}{es:List Ent}{e:Ent}:lM D (es++[e])↔lM D es/\e.x<D.length/\e.old=(app D es).getD e.x 0:=by
 constructor
 ·intro h;exact⟨fun pre e' m0 q=>h pre e' (m0++[e]) (by rw[q];simp),h es e [] rfl⟩
 ·rintro ⟨h,h2⟩ pre e' m0 q
  rcases List.eq_nil_or_concat m0 with rfl|⟨suf',z,rfl⟩
  ·have:=List.append_inj' q rfl;obtain⟨rfl,q2⟩:=this
   cases q2;exact h2
  ·rw[List.concat_eq_append,<-List.cons_append,<-List.append_assoc] at q;have:=List.append_inj' q rfl;exact h pre e' suf' this.1
theorem Dh{D:List Nat}{x:Nat}(h:x<D.length):D.set x (D.getD x 0)=D:=
 vS (by simp) fun y hy=>by
  rw[vT h]
  split
  ·rename_i e;rw[e]
  ·rfl
theorem Di{α:Type}{P:List α->Prop}(h0:P [])(h1:∀l x,P l->P (l++[x]))(l:List α):P l:=by
 have:∀n (l:List α),l.length=n->P l:=fun n=>by
  induction n with
  |zero=>intro l h;rw[List.length_eq_zero_iff.mp h];exact h0
  |succ n ih=>
   intro l h;rcases List.eq_nil_or_concat l with rfl|⟨l',x,rfl⟩
   ·simp at h
   ·rw[List.concat_eq_append] at h ⊢;exact h1 l' x (ih l' (by simpa using h))
 exact this _ l rfl
theorem Vn{D:List Nat}{es:List Ent}(h:lM D es):Cz es (app D es)=D:=by revert h;refine Di (P:=fun es=>lM D es->Cz es (app D es)=D) (fun _=>rfl) (fun es e ih h=>?_) es;refine cZ (mT.mp h) fun h1 h2 h3=>?_;rw[xM,vW,List.set_set,h3,Dh (by rw[rD];exact h2)];exact ih h1
structure vX(r:Rg)(W:List (List Nat))(D:List Nat)(e:Ent):Prop where
 x:e.x<D.length
 old:e.old=D.getD e.x 0
 lx:e.l.x=e.x
 lk:∃k:Nat,k<5/\e.l.k=(k:Int)
 why:∃ls,e.why=some ls/\ls.length<=48/\(∀l∈ls,l.x<D.length)/\rA D ls/\∃p,p<r.pl.length/\r.pl.getD p 0=e.x/\∀w∈W,xO r.pl ls w->lets e.l.s e.l.k ((w.getD p 0:Nat):Int)=true
structure Inv(fs:List Nat)(S:Sto):Prop where
 n:S.doms.length=fs.length
 firsts:S.firsts=fs
 n3:fs.length<=3
 mf:Ms fs
 md:Ms S.doms
 sub:le S.doms fs
 nz:∀x,x<fs.length->S.doms.getD x 0≠0
 cnt:S.trail.length+S.doms.sum<=100
 news:S.news.length<=S.trail.length
 marks:S.marks.length<=10
 clash:S.clash.length<=60
theorem Inv.small{fs:List Nat}{S:Sto}(h:Inv fs S):S.Small:=by have:=h.cnt;have:=h.news;have:=h.n3;have:=h.marks;have:=h.clash;have:=h.n;have:=h.firsts;exact⟨by lia,by rw[h.firsts];lia,by lia,by lia,by lia,by lia,h.md,by rw[h.firsts];exact h.mf⟩
structure rE(r:Rg)(W:List (List Nat))(S0 S:Sto)(es:List Ent):Prop where
 trail:S.trail=S0.trail++es
 marks:S.marks=S0.marks
 failed:S.failed=S0.failed
 doms:S.doms=app S0.doms es
 sum:es.length+S.doms.sum<=S0.doms.sum
 good:∀pre e m0,es=pre++e::m0->vX r W (app S0.doms pre) e
structure Dk(r:Rg)(W:List (List Nat))(D:List Nat)(cl:List Lit):Prop where
 len:cl.length<=49
 x:∀l∈cl,l.x<D.length
 holds:rA D cl
 no:∀w∈W,¬xO r.pl cl w
theorem Dl{k:Int}{x:D}:∀{l:List (Int×D)},(jO k x l).length<=l.length+1
 |[]=>eQ _
 |(j,d)::l=>by
  unfold jO;by_cases h:j=k
  ·rw[aJ h];simp
  ·rw[aR h];have:=Dl (k:=k) (x:=x) (l:=l);simp;omega
section
variable {r:Rg}{W:List (List Nat)}{fs:List Nat}{S0 S:Sto}{es:List Ent}{l:Lit}{ls:List Lit}{k:Nat}
theorem xP(hI:Inv fs S)(hx:l.x<fs.length){w:Option (List Lit)}(hc:cut l.s l.k (S.doms.getD l.x 0)≠0)(hc2:cut l.s l.k (S.doms.getD l.x 0)≠S.doms.getD l.x 0):Inv fs (S.cutTo l w (S.doms.getD l.x 0)):=by
 have hx':l.x<S.doms.length:=by rw[hI.n];exact hx
 have hle:=Vf (s:=l.s) (k:=l.k) (hI.md.get l.x);refine⟨?_,hI.firsts,hI.n3,hI.mf,Vh hI.md mR,fun x v h1 h2 e=>?_,fun x h1=>?_,?_,?_,hI.marks,hI.clash⟩
 ·show(S.doms.set l.x _).length=_;rw[List.length_set];exact hI.n
 ·have e':bit (S.doms.set l.x (cut l.s l.k (S.doms.getD l.x 0))) x v=true:=e;rw[oU hx'] at e';have h1':x<S.doms.length:=by
   have:x<(S.doms.set l.x (cut l.s l.k (S.doms.getD l.x 0))).length:=h1
   rwa [List.length_set] at this
  refine hI.sub x v h1' h2 ?_;by_cases q:x=l.x
  ·rw[aJ q,iP h2,jV] at e';rw[q];exact e'.1
  ·rw[aR q] at e';exact e'
 ·show(S.doms.set l.x _).getD x 0≠0;rw[vT hx']
  split
  ·exact hc
  ·exact hI.nz x h1
 ·show(S.trail++[_]).length+(S.doms.set l.x _).sum<=100;have:=hI.cnt;have:=sum_set (D:=S.doms) (x:=l.x) (m:=cut l.s l.k (S.doms.getD l.x 0)) hx';rw[dI,kY];lia
 ·show(jO _ _ S.news).length<=(S.trail++[_]).length;have:=Dl (k:=(l.x:Int)) (x:= .bool true) (l:=S.news);have:=hI.news;rw[dI,kY];lia
theorem xQ{w:Option (List Lit)}(hx:l.x<S.doms.length):dZ S l w=if cut l.s l.k (S.doms.getD l.x 0)=0 then(false,S.failBy (w.getD []++[oC l])) else if cut l.s l.k (S.doms.getD l.x 0)=S.doms.getD l.x 0 then(true,S) else(true,S.cutTo l w (S.doms.getD l.x 0)):=by
 unfold dZ;have:S.doms[l.x]?=some (S.doms.getD l.x 0):=by rw[dS,fL hx];rfl
 rw[this]
theorem Nf{D:List Nat}{e:Ent}(h:∀pre e m0,es=pre++e::m0->vX r W (app D pre) e)(h2:vX r W (app D es) e):∀pre e' m0,es++[e]=pre++e'::m0->vX r W (app D pre) e':=fun pre e' m0 q=>by
 rcases List.eq_nil_or_concat m0 with rfl|⟨suf',z,rfl⟩
 ·have:=List.append_inj' q rfl;obtain⟨rfl,q2⟩:=this
  cases q2;exact h2
 ·rw[List.concat_eq_append,<-List.cons_append,<-List.append_assoc] at q;have:=List.append_inj' q rfl;exact h pre e' suf' this.1
theorem oH(hI:Inv fs S)(hP:rE r W S0 S es)(hx:l.x<fs.length)(hk:l.k=(k:Int))(hk5:k<5)(h48:ls.length<=48)(hlx:∀l'∈ls,l'.x<fs.length)(hin:rA S.doms ls)
  {p:Nat} (hp:p<r.pl.length) (hpx:r.pl.getD p 0=l.x) (hw:∀w∈W,xO r.pl ls w->lets l.s l.k ((w.getD p 0:Nat):Int)=true):
  ((dZ S l (some ls)).1=true/\Inv fs (dZ S l (some ls)).2/\(∃es',rE r W S0 (dZ S l (some ls)).2 es')/\(dZ S l (some ls)).2.doms=S.doms.set l.x (cut l.s l.k (S.doms.getD l.x 0)))\/
  ((dZ S l (some ls)).1=false/\cut l.s l.k (S.doms.getD l.x 0)=0/\(dZ S l (some ls)).2=S.failBy (ls++[oC l])/\Dk r W S.doms (ls++[oC l])):=by
 have hx':l.x<S.doms.length:=by rw[hI.n];exact hx
 rw[xQ hx'];by_cases hc:cut l.s l.k (S.doms.getD l.x 0)=0
 ·rw[aJ hc];refine .inr (sW rfl hc rfl ⟨by simp;assumption,fun l' h=>?_,fun l' h v hv hb=>?_,fun w h1 h2=>?_⟩)
  ·rcases dF.mp h with h|h
   ·rw[hI.n];exact hlx l' h
   ·have:l'=oC l:=by simpa using h
    rw[this];have:(oC l).x=l.x:=by unfold oC;cases l.s<;>rfl
    rw[this];exact hx'
  ·rcases dF.mp h with h|h
   ·exact hin l' h v hv hb
   ·have:l'=oC l:=by simpa using h
    rename_i y0;clear h y0;subst this;have e:(oC l).x=l.x:=by unfold oC;cases l.s<;>rfl
    rw[e] at hb;rw[Dg];have:=(eU mR).mp hc v hv;rw[iP hv] at this;have hb':(S.doms.getD l.x 0).testBit v=true:=hb;rw[hb'] at this;rw[show lets l.s l.k (v:Int)=false from this];rfl
  ·have h3:=hw w h1 fun l' q=>h2 l' (dF.mpr (.inl q));have e:(oC l).x=l.x:=by unfold oC;cases l.s<;>rfl
   have h4:=h2 (oC l) (by simp) p hp (by rw[e];exact hpx);rw[Dg,h3] at h4;cases h4
 ·rw[aR hc];by_cases hc2:cut l.s l.k (S.doms.getD l.x 0)=S.doms.getD l.x 0
  ·rw[aJ hc2];exact .inl (sW rfl hI ⟨es,hP⟩ (by rw[hc2,Dh hx']))
  ·rw[aR hc2];refine .inl (sW rfl (xP hI hx hc hc2) ⟨es++[⟨l.x,S.doms.getD l.x 0,l,some ls⟩],⟨?_,hP.marks,hP.failed,?_,?_,Nf hP.good ?_⟩⟩ rfl)
   ·show S.trail++[_]=_;rw[hP.trail,List.append_assoc]
   ·show S.doms.set l.x _=_;rw[vW,<-hP.doms]
   ·show(es++[_]).length+(S.doms.set l.x _).sum<=_;have:=hP.sum;have:=sum_set (D:=S.doms) (x:=l.x) (m:=cut l.s l.k (S.doms.getD l.x 0)) hx';have:=Vf (s:=l.s) (k:=l.k) (hI.md.get l.x);rw[dI,kY];lia
   ·rw[<-hP.doms];exact⟨hx',rfl,rfl,(aH k hk5 hk),ls,rfl,h48,fun l' q=>by rw[hI.n];exact hlx l' q,hin,p,hp,hpx,hw⟩
end
structure Ctx(r:Rg)(fs:List Nat)(W:List (List Nat)):Prop where
 ok:r.Ok
 wds:Wds r fs W
 pl:∀x∈r.pl,x<fs.length
 tw:r.tw=false->∀p p',p<r.pl.length->p'<r.pl.length->r.pl.getD p 0=r.pl.getD p' 0->p=p'
theorem G29:G 29=cU (aD 29) 1000 f29:=rfl
theorem G30:G 30=cU (aD 30) 1000 f30:=rfl
theorem G31:G 31=cU (aD 31) 1000 f31:=rfl
section
variable {r:Rg}{W:List (List Nat)}{fs:List Nat}{S0 S:Sto}{es:List Ent}{l:Lit}{ls:List Lit}{k:Nat}
theorem Ctx.at(hC:Ctx r fs W){p:Nat}(h:p<r.pl.length):r.pl.getD p 0<fs.length:=by rw[dS,fL h];exact hC.pl _ (zW h)
theorem zQ{l:List Nat}{x:Nat}(h:x∈l):∃p,p<l.length/\l.getD p 0=x:=by refine X1 (List.getElem_of_mem h) fun p Q1=>?_;obtain⟨hp,e⟩:=Q1;exact(aH p hp (by rw[dS,fL hp,e];rfl))
theorem Vo{l:List Nat}{p:Nat}(h:p<l.length):l.getD p 0∈l:=by rw[dS,fL h];exact zW h
theorem rY{T:Tab}{σ:Sg}{e1 e2:Ex}(hT:T.fn 16=G 16)(hM:T.me 6 0=some 16)(hI:Inv fs S)(hs:σ.get 1=some S.v)(hp:∀v,(σ.put 1 v).get 1=some v)(hx:l.x<fs.length)(hk:l.k=(k:Int))(hk5:k<5)(h48:ls.length<=48)
  (h1:evE T e1 σ=some (.d l.d,σ)) (h2:evE T e2 σ=some (.d (cE ls),σ)):evT T (.not (.val (.meth 6 1 [.e e1,.e e2]))) σ=some (!(dZ S l (some ls)).1,σ.put 1 (dZ S l (some ls)).2.v):=by
 have hm:S.doms[l.x]?=some (S.doms.getD l.x 0):=by rw[dS,fL (by rw[hI.n];exact hx)];rfl
 exact iK (dY (cB hs hM (bA h1 (bA h2 aN)) hs ((mV hT _).trans (Mw hI.small hm hk hk5 (by omega) (by have:=hI.n3;omega))) rfl))
def Vp:List St:=[.ite (.or [(.not (.val (.meth 6 1 [.e (.tup [(.v 2),(.k (.str sGe)),(.k (.int 1))]),.e (.tup [])]))),(.not (.val (.meth 6 1 [.e (.tup [(.v 2),(.k (.str sLe)),(.at 0 12)]),.e (.tup [])])))]) [.ret (.k (.bool false))] []]
def Vq(r:Rg)(D:List Nat)(pre:List Nat)(D':List Nat):Prop:=∀y v,y<D.length->v<5->bit D' y v=(bit D y v&&(!pre.contains y||(decide (1<=v)&&decide (v<=3))))
theorem aAw(hC:Ctx r fs W)(hI:Inv fs S):(∃S' es,G 29 [r.v,S.v]=some (.bool true,[r.v,S'.v])/\Inv fs S'/\rE r W S S' es/\S'.doms=KM r.pl S.doms)\/
  (∃S' es cl,G 29 [r.v,S.v]=some (.bool false,[r.v,(S'.failBy cl).v])/\Inv fs S'/\rE r W S S' es/\Dk r W S'.doms cl/\∃x,x<fs.length/\(KM r.pl S.doms).getD x 0=0):=by
 have wl:∀w∈W,∀p,p<r.pl.length->1<=w.getD p 0/\w.getD p 0<=3:=fun w hw p hp=>by apply bc;intro Z;refine cZ ((hC.wds.mem w).mp hw) fun _ Q1 _=>?_;obtain⟨q,h⟩:=Q1;apply Z;clear Z;exact h.lt p hp
 rcases oE (f:=eG (aD 29) 1000 (.n 2) Vp) (m6:=fun(v:Nat)=>PyData.int (v:Int)) (all:=r.pl)
  (fun pre σ=>∃S' es j,σ=[some r.v,some S'.v,j]/\Inv fs S'/\rE r W S S' es/\Vq r S.doms pre S'.doms)
  (fun d σ=>∃S' es cl j,σ=[some r.v,some (S'.failBy cl).v,j]/\d= .bool false/\Inv fs S'/\rE r W S S' es/\Dk r W S'.doms cl/\∃x,x<fs.length/\(KM r.pl S.doms).getD x 0=0)
  (fun pre x m0 σ e zz=>by
   refine Ad zz fun S' es j Q3 hI' hP hk=>?_;clear zz;subst Q3;have hxm:x∈r.pl:=gO e;have hx:=hC.pl x hxm;have hx':x<S.doms.length:=by rw[hI.n];exact hx
   apply bc;intro Z;refine aP (zQ hxm) fun p hp hpx=>?_;have t1:=rY (T:=aD 29) (S:=S') (σ:=[some r.v,some S'.v,some (.d (.int (x:Int)))]) (l:=⟨x,.ge,1⟩) (ls:=[]) (k:=1) (fs:=fs) (e1:= .tup [(.v 2),(.k (.str sGe)),(.k (.int 1))]) (e2:= .tup []) (mQ (by decide)) rfl hI' rfl (fun v=>rfl) hx rfl (by decide) (by decide) (gK (aT (e_v rfl) (aT rfl (aT rfl bH)))) rfl;apply Z;clear Z;rcases oH (l:=⟨x,.ge,1⟩) (ls:=[]) (k:=1) hI' hP hx rfl (by decide) (by decide) (fun _ h=>absurd h (by simp)) (fun _ h=>absurd h (by simp)) hp hpx (fun w hw _=>iX (by have:=wl w hw p hp;show(1:Int)<=_;omega)) with⟨b1,i1,⟨es1,p1⟩,d1⟩|⟨b1,z1,f1,c1⟩
   ·rw[b1] at t1;generalize(dZ S' ⟨x,.ge,1⟩ (some [])).2=S1 at t1 i1 p1 d1;have t2:=rY (T:=aD 29) (S:=S1) (σ:=[some r.v,some S1.v,some (.d (.int (x:Int)))]) (l:=⟨x,.le,3⟩) (ls:=[]) (k:=3) (fs:=fs) (e1:= .tup [(.v 2),(.k (.str sLe)),(.at 0 12)]) (e2:= .tup []) (mQ (by decide)) rfl i1 rfl (fun v=>rfl) hx rfl (by decide) (by decide) (gK (aT (e_v rfl) (aT rfl (aT (fK rfl) bH)))) rfl;rcases oH (l:=⟨x,.le,3⟩) (ls:=[]) (k:=3) i1 p1 hx rfl (by decide) (by decide) (fun _ h=>absurd h (by simp)) (fun _ h=>absurd h (by simp)) hp hpx (fun w hw _=>iX (by have:=wl w hw p hp;show _<=(3:Int);omega)) with⟨b2,i2,⟨es2,p2⟩,d2⟩|⟨b2,z2,f2,c2⟩
    ·rw[b2] at t2;generalize(dZ S1 ⟨x,.le,3⟩ (some [])).2=S2 at t2 i2 p2 d2;refine .inl (aH _ (aA (bQ (q:=false) (qW (kX t1 (kX t2 nY))) rfl) rfl) (wF S2 es2 _ rfl i2 p2 (fun y v hy hv=>?_)));have hS':x<S'.doms.length:=by rw[hI'.n];exact hx
     have hS1:x<S1.doms.length:=by rw[i1.n];exact hx
     rw[d2,oU hS1,iP hv];show(if y=x then bit S1.doms x v&&_ else bit S1.doms y v)=_;rw[d1,oU hS',oU hS',aJ rfl,iP hv];show(if y=x then(bit S'.doms x v&&decide ((1:Int)<=(v:Int)))&&decide ((v:Int)<=(3:Int)) else if y=x then _ else bit S'.doms y v)=_;by_cases q:y=x
     ·clear hpx d2 hS1;subst q;rw[aJ rfl,hk _ _ hy hv];have e1:decide ((1:Int)<=(v:Int))=decide (1<=v):=by rw[pD];omega
      have e2:decide ((v:Int)<=3)=decide (v<=3):=by rw[pD];omega
      rw[e1,e2];have e3:(pre++[y]).contains y=true:=by simp
      rw[e3]
      cases bit S.doms y v<;>cases decide (1<=v)<;>cases decide (v<=3)<;>cases pre.contains y<;>rfl
     ·rw[aR q,aR q,hk _ _ hy hv];have e3:(pre++[x]).contains y=pre.contains y:=by
       rw[Bool.eq_iff_iff];simp[q]
      rw[e3]
    ·rw[b2] at t2;rw[f2] at t2;refine .inr ⟨_,_,aW (bQ (q:=true) (qW (kX t1 (Mu t2))) (aW (cN rfl))),S1,es1,_,_,rfl,rfl,i1,p1,c2,x,hx,?_⟩;rw[eU (rC.get _)];intro v hv;rw[<-fQ];intro hb;have hb':bit (KM r.pl S.doms) x v=true:=hb;rw[vU hx' hv] at hb';have z:=(eU mR).mp z2 v hv;rw[iP hv] at z;have hS':x<S'.doms.length:=by rw[hI'.n];exact hx
     have z':(bit S1.doms x v&&decide ((v:Int)<=3))=false:=z;rw[d1,oU hS',aJ rfl,iP hv] at z';have z':((bit S'.doms x v&&decide ((1:Int)<=(v:Int)))&&decide ((v:Int)<=3))=false:=z';rw[hk _ _ hx' hv] at z';have e1:decide ((1:Int)<=(v:Int))=decide (1<=v):=by rw[pD];omega
     have e2:decide ((v:Int)<=3)=decide (v<=3):=by rw[pD];omega
     rw[e1,e2] at z';have e3:r.pl.contains x=true:=by simpa using hxm
     rw[e3] at hb';revert hb' z'
     cases bit S.doms x v<;>cases decide (1<=v)<;>cases decide (v<=3)<;>cases pre.contains x<;>decide
   ·rw[b1] at t1;rw[f1] at t1;refine .inr ⟨_,_,aW (bQ (q:=true) (qW (Mu t1)) (aW (cN rfl))),S',es,_,_,rfl,rfl,hI',hP,c1,x,hx,?_⟩;rw[eU (rC.get _)];intro v hv;rw[<-fQ];intro hb;have hb':bit (KM r.pl S.doms) x v=true:=hb;rw[vU hx' hv] at hb';have z:=(eU mR).mp z1 v hv;rw[iP hv] at z;have z':(bit S'.doms x v&&decide ((1:Int)<=(v:Int)))=false:=z;rw[hk _ _ hx' hv] at z';have e1:decide ((1:Int)<=(v:Int))=decide (1<=v):=by rw[pD];omega
    rw[e1] at z';have e3:r.pl.contains x=true:=by simpa using hxm
    rw[e3] at hb';revert hb' z'
    cases bit S.doms x v<;>cases decide (1<=v)<;>cases decide (v<=3)<;>cases pre.contains x<;>decide) r.pl [] [some r.v,some S.v,none] rfl (wF S ([]) none rfl hI ⟨by simp,rfl,rfl,rfl,by simp,fun pre e m0 q=>by simp at q⟩ (fun y v hy hv=>by simp)) with⟨d7,h,S',es,j,rfl,i,p,k⟩|⟨d,d7,h,S',es,cl,j,rfl,rfl,i,p,c,x,hx,z⟩
 ·left;refine(fH S' es ((gr G29 rfl (aA (eJ (dR (fK rfl) rfl) h) (aW (cN rfl))) rfl)) i p ?_);refine zP (by rw[lT,i.n,hI.n]) i.md rC fun y v hy hv=>?_;have hy':y<S.doms.length:=by rw[hI.n,<-i.n];exact hy
  rw[vU hy' hv,k y v hy' hv]
 ·right;exact(Ea S' es cl (gr G29 rfl (aW (eJ (dR (fK rfl) rfl) h)) rfl) i p c (aH x hx z))
end
theorem rF{v a:Nat}:((v:Int) != (a:Int))=true↔v≠a:=by simp;omega
def eA(r:Rg)(D:List Nat):List (List Nat):=r.pl.map fun x=>vl (D.getD x 0)
def mG(r:Rg)(D:List Nat):Prop:=∀p,p<r.pl.length->∀v,bit D (r.pl.getD p 0) v=true->1<=v/\v<=3
section
variable {r:Rg}{W:List (List Nat)}{fs D:List Nat}{S0 S:Sto}{es:List Ent}{l:Lit}{ls:List Lit}{k:Nat}
theorem jU:(eA r D).length=r.pl.length:=by unfold eA;simp
theorem aCf{p:Nat}(h:p<r.pl.length):(eA r D).getD p []=vl (D.getD (r.pl.getD p 0) 0):=by unfold eA;rw[dS,eW,dS (l:=r.pl),fL h];rfl
theorem lV{p a:Nat}(h:p<r.pl.length)(hm:Ms D):a∈(eA r D).getD p []↔bit D (r.pl.getD p 0) a=true:=by rw[aCf h,pY];exact⟨fun q=>q.2,fun q=>⟨(qB q hm).2,q⟩⟩
theorem Ng{w w' q:Nat->Nat}(h:Run r w q)(e:∀k,k<r.pl.length->w k=w' k):Run r w' q:=
 ⟨h.q0,fun k hk=>by rw[<-e k hk];exact h.lt k hk,fun k hk=>by rw[<-e k hk];exact h.next k hk,h.st,h.fin⟩
theorem Dm(hC:Ctx r fs W)(hs:le D fs)(hm:Ms D)(hL:mG r D){d9 a:Nat}(hp:d9<r.pl.length)(ha:bit D (r.pl.getD d9 0) a=true):
  ([1,2,3].any fun s=>Rch r.M (eA r D) d9 s&&AA r (eA r D) (d9+1) (r.M s a))=rB r.pl W D d9 a:=by
 have key:=aAv (ks:=eA r D) hC.ok jU (fun j hj b hb=>hL j hj b ((lV hj hm).mp hb)) hp ((lV hp hm).mpr ha);rw[Bool.eq_iff_iff,kE,List.any_eq_true];constructor
 ·rintro ⟨s,h1,h2⟩
  apply bc;intro Z;rw[jV] at h2;refine cJ (key.mp (cY s (lR.mp h1) h2.1 h2.2)) fun w q hw hk Q4=>?_;clear ha;subst Q4;have g:∀p,p<r.pl.length->((List.range r.pl.length).map w).getD p 0=w p:=fun p hp=>iQ hp;apply Z;clear Z;refine(cY ((List.range r.pl.length).map w) ((hC.wds.mem _).mpr (cD (by simp) ⟨q,Ng hw fun k hk=>(g k hk).symm⟩ (fun p hp=>?_))) (kB.mpr fun p hp=>?_) (g _ hp))
  ·rw[g p hp];have b:=(lV hp hm).mp (hk p hp);have l:=qB b hm;exact hs _ _ l.1 l.2 b
  ·rw[g p hp];exact(lV hp hm).mp (hk p hp)
 ·rintro ⟨w,hw,hd,rfl⟩
  apply bc;intro Z;refine cZ ((hC.wds.mem w).mp hw) fun _ Q1 _=>?_;obtain⟨q,h⟩:=Q1;refine eR (key.mpr (dW _ q h (fun j hj=>(lV hj hm).mpr (kB.mp hd j hj)) rfl)) fun s h1 h2 h3=>?_;apply Z;clear Z;exact(aH s (lR.mpr h1) (by rw[h2,h3];rfl))
theorem Nh(hC:Ctx r fs W)(hm:Ms D)(h:AA r (eA r D) 0 1=false):∀w∈W,eE r.pl D w=false:=fun w hw=>by rw[<-fQ];intro hd;refine cZ ((hC.wds.mem w).mp hw) fun _ Q1 _=>?_;obtain⟨q,hr⟩:=Q1;obtain⟨_,h2⟩:=Js (vV (r:=r) (ks:=eA r D) jU) hr fun j hj=>(lV hj hm).mpr (kB.mp hd j hj);have:=h2 r.pl.length (eQ _);rw[Nat.sub_self,hr.q0,h] at this;cases this
def zR:List St:=[.ite (.not (.val (.meth 17 0 [.e (.v 3),.e (.v 4),.e (.v 7),.e (.v 8)]))) [.asg 9 (.meth 16 0 [.r 1,.e (.v 2),.e (.v 3),.e (.v 4),.e (.v 7),.e (.v 8)]),.ite (.not (.val (.meth 6 1 [.e (.tup [(.sub (.at 0 9) (.v 7)),(.k (.str sNe)),(.v 8)]),.e (.v 9)]))) [.ret (.neg 1)] [],.asg 6 (.k (.int 1))] []]
def rSt(r:Rg)(D:List Nat)(S:Sto)(f:Int)(j7 j8 j9:Option V):Sg:=[some r.v,some S.v,some (.d (dK (eA r D))),some (.d (bW r.pl.length (Rch r.M (eA r D)))),some (.d (bW r.pl.length (AA r (eA r D)))),none,some (.d (.int f)),j7,j8,j9]
structure vY(r:Rg)(W:List (List Nat))(fs:List Nat)(S0:Sto)(D:List Nat)(i:Nat)(pre:List Nat)(S:Sto)(f:Int):Prop where
 inv:Inv fs S
 prog:∃es,rE r W S0 S es
 bits:∀y v,y<D.length->v<5->(bit S.doms y v=true↔bit D y v=true/\∀p,p<r.pl.length->r.pl.getD p 0=y->(p<i\/(p=i/\v∈pre))->rB r.pl W D p v=true)
 f01:(f=0/\S.doms=D)\/(f=1/\∃p v,p<r.pl.length/\bit D (r.pl.getD p 0) v=true/\rB r.pl W D p v=false)
def Bad(r:Rg)(W:List (List Nat))(fs:List Nat)(S0:Sto)(Z:List Nat)(S:Sto)(cl:List Lit):Prop:=Inv fs S/\(∃es,rE r W S0 S es)/\Dk r W S.doms cl/\∃x,x<fs.length/\Z.getD x 0=0
theorem Vr{a:Nat}:Nat.beq a a=true:=Nat.beq_refl a
theorem aAx(hC:Ctx r fs W)(hs:le D fs)(hm:Ms D)(hL:mG r D)(hDn:D.length=fs.length){d9 a:Nat}(hp:d9<r.pl.length)(ha:bit D (r.pl.getD d9 0) a=true){pre:List Nat}{f:Int}{j8 j9:Option V}(h:vY r W fs S0 D d9 pre S f):
  (∃S' f' j8' j9',eG (aD 30) 1000 (.n 8) zR (rSt r D S f (some (.d (.int (d9:Int)))) j8 j9) (.int (a:Int))=some (.next,rSt r D S' f' (some (.d (.int (d9:Int)))) j8' j9')/\vY r W fs S0 D d9 (pre++[a]) S' f')\/
  (∃S' cl j8' j9',eG (aD 30) 1000 (.n 8) zR (rSt r D S f (some (.d (.int (d9:Int)))) j8 j9) (.int (a:Int))=some (.ret (.int (-1)),rSt r D (S'.failBy cl) f (some (.d (.int (d9:Int)))) j8' j9')/\Bad r W fs S0 (FM r.pl W D) S' cl):=by
 have h3:=hL d9 hp a ha;have hn:=hC.ok.len.2;have sp:=Gx (r:=r) (n:=r.pl.length) (i:=d9) (a:=a) (R:=Rch r.M (eA r D)) (A:=AA r (eA r D)) hC.ok hp hn h3;rw[Dm hC hs hm hL hp ha] at sp;have hx:=hC.at hp;have hxD:r.pl.getD d9 0<D.length:=by rw[hDn];exact hx
 have hxS:r.pl.getD d9 0<S.doms.length:=by rw[h.inv.n];exact hx
 have ha5:a<5:=by omega
 cases q:rB r.pl W D d9 a with
 |true=>
  rw[q] at sp;refine .inl (xZ S f (some (.d (.int (a:Int)))) j9 (aA (bQ (q:=false) (iK (dY (cB rfl rfl (bA (e_v rfl) (bA (e_v rfl) (bA (e_v rfl) (bA (e_v rfl) aN)))) rfl (bZ (by decide) sp) rfl))) rfl) rfl) ⟨h.inv,h.prog,fun y v hy hv=>?_,h.f01⟩);rw[h.bits y v hy hv];refine and_congr_right fun hb=>⟨fun g p hp' e o=>?_,fun g p hp' e o=>g p hp' e ?_⟩
  ·rcases o with o|⟨rfl,o⟩
   ·exact g p hp' e (.inl o)
   ·rcases dF.mp o with o|o
    ·exact g p hp' e (.inr ⟨rfl,o⟩)
    ·have:v=a:=by simpa using o
     rw[this];exact q
  ·rcases o with o|⟨rfl,o⟩
   ·exact .inl o
   ·exact .inr ⟨rfl,dF.mpr (.inl o)⟩
 |false=>
  apply bc;intro Z;rw[q] at sp;have hno:∀s,1<=s/\s<=3->AA r (eA r D) (d9+1) (r.M s a)=true->Rch r.M (eA r D) d9 s=false:=fun s hs3 hA=>by rw[<-fQ];intro hR;have:=Dm (W:=W) hC hs hm hL hp ha;rw[q,List.any_eq_false] at this;exact this s (lR.mpr hs3) (by rw[hA,hR];rfl)
  have hf:=h.inv.firsts;refine aP (aCd (S:=S) (ks:=eA r D) hC.ok h.inv.small (.inr fun x hx=>by rw[hf];exact hC.pl x hx) jU hp h3 (vV jU) hno) fun ls e1 w1=>?_;have ss:∀y v,bit S.doms y v=true->bit D y v=true:=fun y v hb=>by have l:=qB hb h.inv.md;exact((h.bits y v (by rw[hDn,<-h.inv.n];exact l.1) l.2).mp hb).1
  have hin:rA S.doms ls:=fun l hl v hv hb=>by refine oZ (w1.out l hl) fun j b hj hb3 hnb Q5=>?_;subst Q5;show((v:Int) != (b:Int))=true;exact rF.mpr fun e=>hnb (by clear hb3 hnb;subst e;exact(lV hj hm).mpr (ss _ _ hb))
  have hlx:∀l'∈ls,l'.x<fs.length:=fun l hl=>by refine oZ (w1.out l hl) fun j b hj _ _ Q5=>?_;clear hl;subst Q5;exact hC.at hj
  have hww:∀w∈W,xO r.pl ls w->lets .ne (a:Int) ((w.getD d9 0:Nat):Int)=true:=fun w hw ho=>by
   show(((w.getD d9 0:Nat):Int) != (a:Int))=true;have:w.getD d9 0≠a:=fun e=>by refine cZ ((hC.wds.mem w).mp hw) fun _ Q1 hb=>?_;obtain⟨qq,hq⟩:=Q1;refine aP (w1.hit _ qq hq (fun j hj=>by rw[hf];exact hb j hj) e) fun j hj hm'=>?_;have:=ho _ hm' j hj rfl;exact rF.mp (this:(((w.getD j 0:Nat):Int) != ((w.getD j 0:Nat):Int))=true) rfl
   exact rF.mpr this
  have sc:=gL (l:=r.pl) (k:=d9) hp (by omega);have t1:=rY (T:=aD 30) (S:=S) (σ:=rSt r D S f (some (.d (.int (d9:Int)))) (some (.d (.int (a:Int)))) (some (.d (cE ls)))) (l:=⟨r.pl.getD d9 0,.ne,(a:Int)⟩) (ls:=ls) (k:=a) (fs:=fs) (e1:= .tup [(.sub (.at 0 9) (.v 7)),(.k (.str sNe)),(.v 8)]) (e2:= .v 9) (mQ (by decide)) rfl h.inv rfl (fun v=>rfl) hx rfl ha5 w1.len (gK (aT (bO (fK rfl) (e_v rfl) sc) (aT rfl (aT (e_v rfl) bH)))) (e_v rfl);refine X1 h.prog fun es hP=>?_;have pre1:∀{R:Option (Flow×Sg)},dC (aD 30) 1000 [.ite (.not (.val (.meth 6 1 [.e (.tup [(.sub (.at 0 9) (.v 7)),(.k (.str sNe)),(.v 8)]),.e (.v 9)]))) [.ret (.neg 1)] [],.asg 6 (.k (.int 1))] (rSt r D S f (some (.d (.int (d9:Int)))) (some (.d (.int (a:Int)))) (some (.d (cE ls))))=R->
    evS (aD 30) 1000 (.ite (.not (.val (.meth 17 0 [.e (.v 3),.e (.v 4),.e (.v 7),.e (.v 8)]))) [.asg 9 (.meth 16 0 [.r 1,.e (.v 2),.e (.v 3),.e (.v 4),.e (.v 7),.e (.v 8)]),.ite (.not (.val (.meth 6 1 [.e (.tup [(.sub (.at 0 9) (.v 7)),(.k (.str sNe)),(.v 8)]),.e (.v 9)]))) [.ret (.neg 1)] [],.asg 6 (.k (.int 1))] []) (rSt r D S f (some (.d (.int (d9:Int)))) (some (.d (.int (a:Int)))) j9)=R:=fun{R} hR=>
   bQ (q:=true) (iK (dY (cB rfl rfl (bA (e_v rfl) (bA (e_v rfl) (bA (e_v rfl) (bA (e_v rfl) aN)))) rfl (bZ (by decide) sp) rfl))) (aA (bP (cB rfl rfl (eB rfl (bA (e_v rfl) (bA (e_v rfl) (bA (e_v rfl) (bA (e_v rfl) (bA (e_v rfl) aN))))) rfl) rfl (bZ (by decide) e1) rfl)) hR)
  apply Z;clear Z;rcases oH (l:=⟨r.pl.getD d9 0,.ne,(a:Int)⟩) (ls:=ls) (k:=a) h.inv hP hx rfl ha5 w1.len hlx hin hp rfl hww with⟨b1,i1,p1,d1⟩|⟨b1,z1,f1,c1⟩
  ·rw[b1] at t1;generalize(dZ S ⟨r.pl.getD d9 0,.ne,(a:Int)⟩ (some ls)).2=S1 at t1 i1 p1 d1;refine .inl (xZ S1 1 (some (.d (.int (a:Int)))) (some (.d (cE ls))) (aA (pre1 (aA (bQ (q:=false) t1 rfl) (aA (bP rfl) rfl))) rfl) ⟨i1,p1,fun y v hy hv=>?_,.inr (Nu rfl d9 a hp ha q)⟩);rw[d1,oU hxS];by_cases e:y=r.pl.getD d9 0
   ·rw[aJ e,iP hv,jV];have hb:=h.bits y v hy hv;rw[e] at hb;rw[show(S.doms.getD (r.pl.getD d9 0) 0).testBit v=bit S.doms (r.pl.getD d9 0) v from rfl,hb];have hne:lets .ne (a:Int) (v:Int)=true↔v≠a:=by
     show((v:Int) != (a:Int))=true↔_;simp;omega
    show _/\lets .ne (a:Int) (v:Int)=true↔_;rw[hne,e];constructor
    ·rintro ⟨⟨g1,g2⟩,g3⟩
     refine⟨g1,fun p hp' ep o=>g2 p hp' ep ?_⟩;rcases o with o|⟨o1,o2⟩
     ·exact .inl o
     ·rcases dF.mp o2 with o2|o2
      ·exact .inr ⟨o1,o2⟩
      ·exact absurd (by simpa using o2) g3
    ·rintro ⟨g1,g2⟩
     refine⟨⟨g1,fun p hp' ep o=>g2 p hp' ep ?_⟩,fun g3=>?_⟩
     ·rcases o with o|⟨o1,o2⟩
      ·exact .inl o
      ·exact .inr ⟨o1,dF.mpr (.inl o2)⟩
     ·have:=g2 d9 hp rfl (.inr ⟨rfl,dF.mpr (.inr (by simp[g3]))⟩);rw[g3,q] at this;cases this
   ·rw[aR e,h.bits y v hy hv];refine and_congr_right fun hb=>⟨fun g p hp' ep o=>g p hp' ep ?_,fun g p hp' ep o=>g p hp' ep ?_⟩
    ·rcases o with o|⟨o1,o2⟩
     ·exact .inl o
     ·exact absurd (by rw[<-ep,o1]) e
    ·rcases o with o|⟨o1,o2⟩
     ·exact .inl o
     ·exact absurd (by rw[<-ep,o1]) e
  ·rw[b1] at t1;rw[f1] at t1;refine .inr ⟨S,_,some (.d (.int (a:Int))),some (.d (cE ls)),aW (pre1 (aW (bQ (q:=true) t1 (aW (cN rfl))))),h.inv,⟨es,hP⟩,c1,_,hx,?_⟩;rw[eU (pO.get _)];intro v hv;rw[<-fQ];intro hb;have hb':bit (FM r.pl W D) (r.pl.getD d9 0) v=true:=hb;rw[oG hxD hv,jV,jH] at hb';have z:=(eU mR).mp z1 v hv;rw[iP hv] at z;have b:=(h.bits _ v hxD hv).mpr ⟨hb'.1,fun p hp' ep _=>hb'.2 p hp' ep⟩;rw[show(S.doms.getD (r.pl.getD d9 0) 0).testBit v=bit S.doms (r.pl.getD d9 0) v from rfl,b] at z;have z':((v:Int) != (a:Int))=false:=z;have:v=a:=by
    have:(v:Int)=(a:Int):=by simpa using z'
    omega
   have s:=hb'.2 d9 hp rfl;rw[this,q] at s;cases s
def tO:List St:=[.for_ (.n 8) (.seq (.sub (.v 2) (.v 7))) zR]
theorem Vs(hC:Ctx r fs W)(hs:le D fs)(hm:Ms D)(hL:mG r D)(hDn:D.length=fs.length){d9:Nat}(hp:d9<r.pl.length){f:Int}{j7 j8 j9:Option V}(h:vY r W fs S0 D d9 [] S f):
  (∃S' f' j8' j9',eG (aD 30) 1000 (.n 7) tO (rSt r D S f j7 j8 j9) (.int (d9:Int))=some (.next,rSt r D S' f' (some (.d (.int (d9:Int)))) j8' j9')/\vY r W fs S0 D (d9+1) [] S' f')\/
  (∃S' cl f' j8' j9',eG (aD 30) 1000 (.n 7) tO (rSt r D S f j7 j8 j9) (.int (d9:Int))=some (.ret (.int (-1)),rSt r D (S'.failBy cl) f' (some (.d (.int (d9:Int)))) j8' j9')/\Bad r W fs S0 (FM r.pl W D) S' cl):=by
 have hn:=hC.ok.len.2;have hk:(eA r D)[d9]?=some ((eA r D).getD d9 []):=by rw[dS,fL (by rw[jU];exact hp)];rfl
 have it:=mE.trans (oB (f:=fun l=>PyData.list (aB l)) hk (by lia:d9<1000));rcases oE (f:=eG (aD 30) 1000 (.n 8) zR) (m6:=fun(v:Nat)=>PyData.int (v:Int)) (all:=(eA r D).getD d9 [])
  (fun pre σ=>∃S' f' j8 j9,σ=rSt r D S' f' (some (.d (.int (d9:Int)))) j8 j9/\vY r W fs S0 D d9 pre S' f')
  (fun d σ=>∃S' cl f' j8 j9,σ=rSt r D (S'.failBy cl) f' (some (.d (.int (d9:Int)))) j8 j9/\d= .int (-1)/\Bad r W fs S0 (FM r.pl W D) S' cl)
  (fun pre a m0 σ e zz=>by
   refine Nw zz fun S' f' j8 j9 Q4 hR=>?_;clear zz;subst Q4;rcases aAx (j8:=j8) (j9:=j9) hC hs hm hL hDn hp ((lV hp hm).mp (gO e)) hR with⟨S2,f2,a8,a9,h1,h2⟩|⟨S2,cl,a8,a9,h1,h2⟩
   ·exact .inl (aH _ h1 (xZ _ _ _ _ rfl h2))
   ·exact .inr ⟨_,_,h1,_,_,_,_,_,rfl,rfl,h2⟩) ((eA r D).getD d9 []) [] (rSt r D S f (some (.d (.int (d9:Int)))) j8 j9) rfl ⟨_,_,_,_,rfl,h⟩ with⟨d7,q,S',f',a8,a9,rfl,hR⟩|⟨d,d7,q,S',cl,f',a8,a9,rfl,rfl,hB⟩
 ·refine .inl (xZ S' f' a8 a9 (aA (eJ (dR (bO (e_v rfl) (e_v rfl) it) rfl) q) rfl) ⟨hR.inv,hR.prog,fun y v hy hv=>?_,hR.f01⟩);rw[hR.bits y v hy hv];refine and_congr_right fun hb=>⟨fun g p hp' e o=>g p hp' e ?_,fun g p hp' e o=>g p hp' e ?_⟩
  ·rcases o with o|⟨_,o⟩
   ·rcases Nat.lt_or_ge p d9 with q|q
    ·exact .inl q
    ·have:p=d9:=by lia
     rename_i y0;clear h hk hR g y0;subst this;exact .inr ⟨rfl,(lV hp hm).mpr (by rw[e];exact hb)⟩
   ·exact absurd o (by simp)
  ·rcases o with o|⟨o,_⟩
   ·exact .inl (by lia)
   ·exact .inl (by lia)
 ·exact .inr (Nx S' cl f' a8 a9 (aW (eJ (dR (bO (e_v rfl) (e_v rfl) it) rfl) q)) hB)
theorem Ni(hC:Ctx r fs W)(hm:Ms D)(hS:S.firsts=fs)(hDS:S.doms=D)(hDn:D.length=fs.length)(h:Jo r S (eA r D) (fun _ _=>True) ls):Dk r W S.doms ls:=by
 refine⟨by have:=h.len;exact Nat.le_succ_of_le ‹_›,fun l hl=>?_,fun l hl v hv hb=>?_,fun w hw ho=>?_⟩
 ·refine oZ (h.out l hl) fun j b hj _ _ Q5=>?_;subst Q5;rw[hDS,hDn];exact hC.at hj
 ·refine oZ (h.out l hl) fun j b hj hb3 hnb Q5=>?_;clear hl;subst Q5;exact rF.mpr fun e=>hnb (by subst e;exact(lV hj hm).mpr (by rw[<-hDS];exact hb))
 ·refine cZ ((hC.wds.mem w).mp hw) fun _ Q1 hb=>?_;obtain⟨qq,hq⟩:=Q1;refine aP (h.hit _ qq hq (fun j hj=>by rw[hS];exact hb j hj) trivial) fun j hj hm'=>?_;exact rF.mp (ho _ hm' j hj rfl:(((w.getD j 0:Nat):Int) != ((w.getD j 0:Nat):Int))=true) rfl
theorem Dn(hC:Ctx r fs W)(hI:Inv fs S)(hP:rE r W S0 S es)(hL:mG r S.doms):
  (∃S' f,G 30 [r.v,S.v]=some (.int f,[r.v,S'.v])/\Inv fs S'/\(∃es',rE r W S0 S' es')/\S'.doms=FM r.pl W S.doms/\((f=0/\FM r.pl W S.doms=S.doms)\/(f=1/\FM r.pl W S.doms≠S.doms)))\/
  (∃S' cl,G 30 [r.v,S.v]=some (.int (-1),[r.v,(S'.failBy cl).v])/\Bad r W fs S0 (FM r.pl W S.doms) S' cl):=by
 generalize hD:S.doms=D at hL;have hs:le D fs:=by rw[<-hD];exact hI.sub
 have hm:Ms D:=by rw[<-hD];exact hI.md
 have hDn:D.length=fs.length:=by rw[<-hD];exact hI.n
 have hn:=hC.ok.len.2;have hn1:=hC.ok.len.1;have e1:=bV (T:=aD 30) (m:=2) (l8:= .call 2 [.e (.meth 3 1 [.e (.v 10)])]) (tg:= .n 10) (it:= .seq (.at 0 9)) (ifs:=[]) (m6:=fun(v:Nat)=>PyData.int (v:Int)) (xs:=r.pl) (c:=fun _=>true) (g:=fun x=> .list (aB (vl (D.getD x 0))))
  (σ:=[some r.v,some S.v,none,none,none,none,none,none,none,none]) (b9:=[some r.v,some S.v,none,none,none,none,none,none,none,none]) (dR (fK rfl) rfl) (by lia)
  (fun x hx J hJ=>by
   refine eK hJ fun a b Q2=>?_;clear hJ;subst Q2;have hx':=hC.pl x hx;have:=hI.n3;have hd:S.doms[x]?=some (D.getD x 0):=by rw[hD,dS,fL (by rw[hDn];exact hx')];rfl
   exact(fH _ ([some (.d (.int (x:Int))),b]) rfl cG rfl (fun _=>(aH _ (bS (bA (cB rfl rfl (bA (e_v rfl) aN) rfl (bZ (by decide) (Gs hd (by lia))) rfl) aN) (bZ (by decide) (oR (hm.get x))) rfl) rfl))))
 rw[kP] at e1;have e2:mI (.lst (r.pl.map fun x=>PyData.list (aB (vl (D.getD x 0)))))=some (dK (eA r D)):=by show some (PyData.list _)=some (PyData.list _);unfold eA;rw[List.map_map];rfl
 have hl3:∀l∈eA r D,l.length<=5/\∀a∈l,1<=a/\a<=3:=fun l hl=>by unfold eA at hl;refine aP (eO.mp hl) fun x hx Q2=>?_;subst Q2;refine aP (zQ hx) fun p hp Q2=>?_;clear hx;subst Q2;exact⟨rX,fun a ha=>hL p hp a (pY.mp ha).2⟩
 have re:=Gw (r:=r) (ks:=eA r D) hC.ok.m (fun l hl=>(hl3 l hl).2) (by rw[jU];exact hn);have al:=Uv (r:=r) (ks:=eA r D) hC.ok hl3 (by rw[jU];exact hn);have al:G 23 [r.v,.d (dK (eA r D))]=some (bW (eA r D).length (AA r (eA r D)),[r.v,.d (dK (eA r D))]):=al;rw[jU] at re al;have t0:∀b,AA r (eA r D) 0 1=b->evT (aD 30) (.not (.val (.sub (.sub (.v 4) (.k (.int 0))) (.at 0 14)))) [some r.v,some S.v,some (.d (dK (eA r D))),some (.d (bW r.pl.length (Rch r.M (eA r D)))),some (.d (bW r.pl.length (AA r (eA r D)))),none,none,none,none,none]=some (!b,[some r.v,some S.v,some (.d (dK (eA r D))),some (.d (bW r.pl.length (Rch r.M (eA r D)))),some (.d (bW r.pl.length (AA r (eA r D)))),none,none,none,none,none]):=fun b hb=>by rw[<-hb];exact iK (dY (bO (bO (e_v rfl) rfl (oT (i:=0) (gS _) (Nat.succ_pos _))) (fK rfl) (oF (i:=1) (by decide))))
 cases ha:AA r (eA r D) 0 1 with
 |false=>
  refine Nv (Jm (A:=AA r (eA r D)) (ks:=eA r D) (nt0:=[]) (d9:=0) (sm0:=[1]) hC.ok jU (gS _) (vV jU).aStep (vV jU).aEnd (fun s hs=>by rw[dJ.mp hs];decide) (fun s hs=>by rw[dJ.mp hs];exact ha) (by decide) (by decide)) fun nt q1 _ new1 run1 cnt1=>?_;simp only[List.length_nil] at cnt1;have new:∀key∈nt,∃j a,j<r.pl.length/\(1<=a/\a<=3)/\a∉(eA r D).getD j []/\key=(((r.pl.getD j 0:Nat):Int),(a:Int)):=fun key hk=>by
   rcases new1 key hk with h|h
   ·exact absurd h (by simp)
   ·exact h
  have wo:Jo r S (eA r D) (fun _ _=>True) (Rs S nt):=Df (by lia) new fun w q hw _=>run1 w q hw (by rw[hw.q0];simp);have cl:=Ni hC hm hI.firsts hD hDn wo;have rs:=vQ (r:=r) (S:=S) (nt:=nt) hI.small (fun k hk=>by refine oZ (new k hk) fun j b h1 h2 _ Q5=>?_;subst Q5;exact(dW _ _ rfl (by rw[hI.firsts];exact hC.at h1) (by lia))) (by lia)
  refine .inr (Dz S (Rs S nt) ?_ hI ⟨es,hP⟩ cl (aH _ (hC.at hn1) (aAt (Nh hC hm ha) hn1 (by rw[hDn];exact hC.at hn1))));exact(gr G30 rfl (aA (bP (cR e1 e2)) (aA (iM (bY (cB rfl rfl (bA (e_v rfl) aN) rfl (bZ (by decide) re) rfl) (bY (cB rfl rfl (bA (e_v rfl) aN) rfl (bZ (by decide) al) rfl) iL)) rfl)
   (aW (bQ (q:=true) (t0 _ ha) (aA (bP rfl) (aA (oA (cB rfl rfl (bA (e_v rfl) (bA (e_v rfl) (bA rfl (bA (cR (iV (aT (fK rfl) bH)) rfl) (eB rfl aN rfl))))) rfl (bZ (by decide) q1) rfl) rfl)
    (aA (oA (cB rfl rfl (bA (cB rfl rfl (eB rfl (eB rfl aN rfl) rfl) rfl (bZ (by decide) rs) rfl) aN) rfl (bZ (by decide) Jg) rfl) rfl) (aW (cN rfl))))))))) rfl)
 |true=>
  have start:vY r W fs S0 D 0 [] S 0:=⟨hI,⟨es,hP⟩,fun y v hy hv=>by
   rw[hD];exact⟨fun h=>⟨h,fun p _ _ o=>by
    rcases o with o|⟨_,o⟩
    ·lia
    ·exact absurd o (by simp)⟩,fun h=>h.1⟩,.inl ⟨rfl,hD⟩⟩
  have body:∀{R:Option (Flow×Sg)},dC (aD 30) 1000 [.for_ (.n 7) (.r1 (.len (.v 2))) tO,.ret (.v 6)] (rSt r D S 0 none none none)=R->dC (aD 30) 1000 f30.body [some r.v,some S.v,none,none,none,none,none,none,none,none]=R:=fun{R} h=>
   aA (bP (cR e1 e2)) (aA (iM (bY (cB rfl rfl (bA (e_v rfl) aN) rfl (bZ (by decide) re) rfl) (bY (cB rfl rfl (bA (e_v rfl) aN) rfl (bZ (by decide) al) rfl) iL)) rfl)
    (aA (bQ (q:=false) (t0 _ ha) rfl) (aA (bP rfl) h)))
  have hlen:evE (aD 30) (.len (.v 2)) (rSt r D S 0 none none none)=some (.d (.int (r.pl.length:Int)),rSt r D S 0 none none none):=qV (e_v rfl) (by show(if((eA r D).map fun l=>PyData.list (aB l)).length<=1000000 then some (PyData.int ((eA r D).map fun l=>PyData.list (aB l)).length) else none)=_;rw[bT,jU,aJ (by lia)])
  rcases oE (f:=eG (aD 30) 1000 (.n 7) tO) (m6:=fun(v:Nat)=>PyData.int ((0+v:Nat):Int)) (all:=List.range (r.pl.length-0))
   (fun pre σ=>∃S' f' j7 j8 j9,σ=rSt r D S' f' j7 j8 j9/\vY r W fs S0 D pre.length [] S' f')
   (fun d σ=>∃S' cl f' j7 j8 j9,σ=rSt r D (S'.failBy cl) f' j7 j8 j9/\d= .int (-1)/\Bad r W fs S0 (FM r.pl W D) S' cl)
   (fun pre a m0 σ e zz=>by
    refine Wu zz fun S' f' j7 j8 j9 Q5 hR=>?_;clear zz;subst Q5;refine fX e fun Q0 hk=>?_;subst Q0;rw[Nat.zero_add];rcases Vs (j7:=j7) (j8:=j8) (j9:=j9) hC hs hm hL hDn (by lia:pre.length<r.pl.length) hR with⟨S2,f2,a8,a9,h1,h2⟩|⟨S2,cl,f2,a8,a9,h1,h2⟩
    ·exact .inl (aH _ h1 (Nx _ _ _ _ _ rfl (by rw[dI];exact h2)))
    ·exact .inr ⟨_,_,h1,_,_,_,_,_,_,rfl,rfl,h2⟩) (List.range (r.pl.length-0)) [] (rSt r D S 0 none none none) rfl ⟨_,_,_,_,_,rfl,start⟩ with⟨d7,q,S',f',a7,a8,a9,rfl,hR⟩|⟨d,d7,q,S',cl,f',a7,a8,a9,rfl,rfl,hB⟩
  ·rw[<-fT] at q;rw[gQ] at hR;have fin:S'.doms=FM r.pl W D:=by
    refine zP (by rw[jT,hR.inv.n,hDn]) hR.inv.md pO fun y v hy hv=>?_;have hy':y<D.length:=by rw[hDn,<-hR.inv.n];exact hy
    rw[Bool.eq_iff_iff,hR.bits y v hy' hv,oG hy' hv,jV,jH];exact⟨fun⟨g1,g2⟩=>⟨g1,fun p hp e=>g2 p hp e (.inl (by lia))⟩,fun⟨g1,g2⟩=>⟨g1,fun p hp e _=>g2 p hp e⟩⟩
   refine .inl (Dz S' f' ((gr G30 rfl (body (aA (eJ (vE (k:=(r.pl.length:Int)) hlen (by lia)) q) (aW (cN (e_v rfl))))) rfl)) hR.inv hR.prog fin ?_);rcases hR.f01 with⟨h1,h2⟩|⟨h1,p,v,hp,h2,h3⟩
   ·exact .inl ⟨h1,by rw[<-fin];exact h2⟩
   ·refine .inr ⟨h1,fun e=>?_⟩;have l:=qB h2 hm;have b:=oG (pl:=r.pl) (W:=W) l.1 l.2;rw[e,h2] at b;have:=jH.mp (by simpa using b.symm:lK r.pl W D (r.pl.getD p 0) v=true) p hp rfl;rw[h3] at this;cases this
  ·rw[<-fT] at q;exact .inr (hN S' cl ((gr G30 rfl (body (aW (eJ (vE (k:=(r.pl.length:Int)) hlen (by lia)) q))) rfl)) hB)
variable {K:List Nat}
theorem aCg(hm:Ms D)(h:FM r.pl W D≠D):(FM r.pl W D).sum<D.sum:=by refine Ha jT (fun x hx=>?_) h;exact zO (pO.get x) (hm.get x) fun v hv e=>Jr x v hx hv e
theorem Hc(h:mG r D):mG r (FM r.pl W D):=fun p hp v hb=>by have l:=qB hb pO;exact h p hp v (Jr _ _ l.1 l.2 hb)
theorem Vt:mG r (KM r.pl D):=fun p hp v hb=>by
 have l:=qB hb rC;rw[lT] at l;rw[vU l.1 l.2,jV] at hb;have e:r.pl.contains (r.pl.getD p 0)=true:=by simpa using Vo hp
 rw[e] at hb;simpa using hb.2
noncomputable def Jt:Tx:= .and [(.cmp .Eq (.v 2) (.k (.int 1))),(.val (.at 0 16))]
noncomputable def Do:List St:=[.asg 2 (.meth 19 0 [.r 1])]
def pSt(r:Rg)(S:Sto)(t:Int):Sg:=[some r.v,some S.v,some (.d (.int t))]
theorem aA7{b:Bool}(h:r.tw=b):(Pl.a 0 16).get [some r.v,x1,x2]=some (.d (.bool b)):=by rw[<-h];rfl
theorem xR(hC:Ctx r fs W)(ht:r.tw=true):∀(m k:Nat) (S:Sto) (es:List Ent) (t:Int) (j:Nat),S.doms.sum<m->m+1<=k->Inv fs S->rE r W S0 S es->mG r S.doms->S.doms=itF r.pl W j K->(t=0/\FM r.pl W S.doms=S.doms)\/t=1->
  (∃S' es' j',iZ k (evT (aD 31) Jt) (dC (aD 31) 1000 Do) (pSt r S t)=some (.next,pSt r S' 0)/\Inv fs S'/\rE r W S0 S' es'/\S'.doms=itF r.pl W j' K/\FM r.pl W S'.doms=S'.doms)\/
  (∃S' cl j',iZ k (evT (aD 31) Jt) (dC (aD 31) 1000 Do) (pSt r S t)=some (.next,pSt r (S'.failBy cl) (-1))/\Bad r W fs S0 (itF r.pl W j' K) S' cl)
 |0,_,_,_,_,_,h,_,_,_,_,_,_=>absurd h (Nat.not_lt_zero _)
 |m+1,k,S,es,t,j,hm,hk,hI,hP,hL,hj,hor=>by
  obtain⟨k,rfl⟩:∃i,k=i+2:=⟨k-2,by lia⟩;rcases hor with⟨rfl,hfix⟩|rfl
  ·exact .inl (Ea S es j (sR (fN (fW (aV (e_v rfl) rfl rfl)))) hI hP hj hfix)
  ·have t1:∀S:Sto,evT (aD 31) Jt (pSt r S 1)=some (true,pSt r S 1):=fun S=>fN (eV (aV (e_v rfl) rfl rfl) (eV (dY (fK (aA7 ht))) cG));rcases Dn hC hI hP hL with⟨S',f,q,hI',⟨es',hP'⟩,hd,hf⟩|⟨S',cl,q,hB⟩
   ·have st:dC (aD 31) 1000 Do (pSt r S 1)=some (.next,pSt r S' f):=aA (bP (cB rfl rfl (eB rfl aN rfl) rfl (bZ (by decide) q) rfl)) rfl;have hL':mG r S'.doms:=by rw[hd];exact Hc hL
    have hj':S'.doms=itF r.pl W (j+1) K:=by rw[hd,hj];rfl
    rcases hf with⟨rfl,e⟩|⟨rfl,e⟩
    ·exact .inl (Ea S' es' (j+1) (pZ (t1 S) st (sR (fN (fW (aV (e_v rfl) rfl rfl))))) hI' hP' hj' (by rw[hd,e,e]))
    ·have:=aCg hI.md e;rcases xR hC ht m (k+1) S' es' 1 (j+1) (by rw[hd];lia) (tR ‹_›) hI' hP' hL' hj' (.inr rfl) with⟨S2,es2,j2,h1,h2⟩|⟨S2,cl,j2,h1,h2⟩
     ·exact .inl (nA S2 es2 j2 (pZ (t1 S) st h1) h2)
     ·exact .inr (nA S2 cl j2 (pZ (t1 S) st h1) h2)
   ·have st:dC (aD 31) 1000 Do (pSt r S 1)=some (.next,pSt r (S'.failBy cl) (-1)):=aA (bP (cB rfl rfl (eB rfl aN rfl) rfl (bZ (by decide) q) rfl)) rfl;refine .inr (nA S' cl (j+1) (pZ (t1 S) st (sR (fN (fW (aV (e_v rfl) rfl rfl))))) ?_);rw[hj] at hB;exact hB
theorem rG(hC:Ctx r fs W)(hI:Inv fs S):
  (∃S' es j,G 31 [r.v,S.v]=some (.bool true,[r.v,S'.v])/\Inv fs S'/\rE r W S S' es/\S'.doms=itF r.pl W j (KM r.pl S.doms)/\FM r.pl W S'.doms=S'.doms)\/
  (∃S' cl j,G 31 [r.v,S.v]=some (.bool false,[r.v,(S'.failBy cl).v])/\Bad r W fs S (itF r.pl W j (KM r.pl S.doms)) S' cl):=by
 rcases aAw hC hI with⟨S1,es1,q1,hI1,hP1,hd1⟩|⟨S1,es1,cl,q1,hI1,hP1,hCl,x,hx,hz⟩
 ·have hL1:mG r S1.doms:=by rw[hd1];exact Vt
  have a1:∀{R:Option (Flow×Sg)},dC (aD 31) 1000 [.asg 2 (.meth 19 0 [.r 1]),.while_ Jt Do,.ret (.cmp .GtE (.v 2) (.k (.int 0)))] [some r.v,some S1.v,none]=R->dC (aD 31) 1000 f31.body [some r.v,some S.v,none]=R:=fun{R} h=>
   aA (bQ (q:=false) (iK (dY (cB rfl rfl (eB rfl aN rfl) rfl (bZ (by decide) q1) rfl))) rfl) h
  rcases Dn hC hI1 hP1 hL1 with⟨S',f,q,hI',⟨es',hP'⟩,hd,hf⟩|⟨S',cl,q,hB⟩
  ·have st:evS (aD 31) 1000 (.asg 2 (.meth 19 0 [.r 1])) [some r.v,some S1.v,none]=some (.next,pSt r S' f):=bP (cB rfl rfl (eB rfl aN rfl) rfl (bZ (by decide) q) rfl);have hL':mG r S'.doms:=by rw[hd];exact Hc hL1
   have hj':S'.doms=itF r.pl W 1 (KM r.pl S.doms):=by rw[hd,hd1];rfl
   cases ht:r.tw with
   |true=>
    have hsum:S'.doms.sum<101:=by have:=hI'.cnt;lia
    rcases xR hC ht 101 1000 S' es' f 1 hsum (by decide) hI' hP' hL' hj' (by
     rcases hf with⟨h1,h2⟩|⟨h1,h2⟩
     ·exact .inl ⟨h1,by rw[hd,h2,h2]⟩
     ·exact .inr h1) with⟨S2,es2,j2,h1,i2,p2,d2,x2⟩|⟨S2,cl,j2,h1,hB⟩
    ·exact .inl (Ea S2 es2 j2 ((gr G31 rfl (a1 (aA st (aA (mS h1) (aW (cN (gZ (e_v rfl) rfl rfl)))))) rfl)) i2 p2 d2 x2)
    ·exact .inr (nA S2 cl j2 ((gr G31 rfl (a1 (aA st (aA (mS h1) (aW (cN (gZ (e_v rfl) rfl rfl)))))) rfl)) hB)
   |false=>
    have fx:FM r.pl W S'.doms=S'.doms:=by rw[hd];exact aAs (hC.tw ht) hI1.md
    refine .inl (Ea S' es' 1 ?_ hI' hP' hj' fx);rcases hf with⟨rfl,_⟩|⟨rfl,_⟩
    ·exact gr G31 rfl (a1 (aA st (aA (mS (sR (fN (fW (aV (e_v rfl) rfl rfl))))) (aW (cN (gZ (e_v rfl) rfl rfl)))))) rfl
    ·exact gr G31 rfl (a1 (aA st (aA (mS (sR (fN (eV (aV (e_v rfl) rfl rfl) (fW (dY (fK (aA7 ht)))))))) (aW (cN (gZ (e_v rfl) rfl rfl)))))) rfl
  ·have st:evS (aD 31) 1000 (.asg 2 (.meth 19 0 [.r 1])) [some r.v,some S1.v,none]=some (.next,pSt r (S'.failBy cl) (-1)):=bP (cB rfl rfl (eB rfl aN rfl) rfl (bZ (by decide) q) rfl);refine .inr (nA S' cl 1 ((gr G31 rfl (a1 (aA st (aA (mS (sR (fN (fW (aV (e_v rfl) rfl rfl))))) (aW (cN (gZ (e_v rfl) rfl rfl)))))) rfl)) ?_);rw[hd1] at hB;exact hB
 ·exact .inr (Ea S1 cl 0 (gr G31 rfl (aW (bQ (q:=true) (iK (dY (cB rfl rfl (eB rfl aN rfl) rfl (bZ (by decide) q1) rfl))) (aW (cN rfl)))) rfl) hI1 ⟨es1,hP1⟩ hCl (aH x hx hz))
end
section
variable {T:Tab}{σ b9:Sg}
theorem vZ{β:Type}{l8:Ex}{tg:Tgt}{ifs:List Tx}{m6:β->D}{c:β->Bool}{g:β->D}(Q:List (Option V)->Prop):∀(xs:List β) (acc:List D) (J:List (Option V)),acc.length+xs.length<=1000000->Q J->
  (∀x∈xs,∀J,Q J->∃c5 J',iS (b9++J) tg (m6 x)=some c5/\gB T ifs c5=some (c x,b9++J')/\Q J'/\(c x=true->∃J'',evE T l8 (b9++J')=some (.d (g x),b9++J'')/\Q J''))->
  ∃J',lY (vF T l8 tg ifs) (xs.map m6) acc (b9++J)=some (acc++(xs.filter c).map g,b9++J')/\Q J'
 |[],acc,J,_,hJ,_=>(aH J (by simp[lY]) hJ)
 |x::xs,acc,J,hl,hJ,step=>by
  apply bc;intro Z;refine oZ (step x (by simp) J hJ) fun c5 J' q1 q2 q3 q4=>?_;simp only[List.length_cons] at hl;apply Z;clear Z
  cases hc:c x with
  |false=>
   apply bc;intro Z;rw[hc] at q2;refine aP (vZ Q xs acc J' (jM ‹_›) q3 fun y hy=>step y (by simp[hy])) fun J2 h1 h2=>?_;apply Z;clear Z;refine(aH J2 ((cH (Jh q1 q2) rfl).trans ?_) h2);simp only[List.filter_cons,hc];exact h1
  |true=>
   apply bc;intro Z;rw[hc] at q2;refine aP (q4 hc) fun J'' q5 q6=>aP (vZ Q xs (acc++[g x]) J'' (by simp;lia) q6 fun y hy=>step y (by simp[hy])) fun J2 h1 h2=>?_;apply Z;clear Z;refine(aH J2 ((cH (zH q1 q2 q5 (by lia)) rfl).trans ?_) h2);simp only[List.filter_cons,hc];rw[List.append_assoc] at h1;exact h1
abbrev Vu(T:Tab)(l8:Ex)(tg:Tgt)(ifs:List Tx)(t2:Tgt)(it2:It)(m8:List Tx):Sg->D->List D->Option (List D×Sg):=fun s x acc=>(iS s tg x).bind fun c5=>b2 (gB T ifs c5) fun q c9=>bif q then
   b2 (evI T it2 c9) fun ys g8=>lY (vF T l8 t2 m8) ys acc g8
   else some (acc,c9)
theorem aAy{m:Nat}{l8:Ex}{tg t2:Tgt}{it it2:It}{ifs m8:List Tx}{ds acc:List D}{c8 g6:Sg}(h:evI T it σ=some (ds,b9))(h2:lY (Vu T l8 tg ifs t2 it2 m8) ds [] (b9++List.replicate m none)=some (acc,c8))(h3:c8.take b9.length=g6):evE T (.comp2 m l8 tg it ifs t2 it2 m8) σ=some (.c (.lst acc),g6):=
 cH h (cH h2 (by subst h3;rfl))
theorem wA{β γ:Type}{m:Nat}{l8:Ex}{tg t2:Tgt}{it it2:It}{m8:List Tx}{m6:β->D}{enc2:γ->D}{xs:List β}{ys:β->List γ}{c:β->γ->Bool}{g:β->γ->D}(Q:β->List (Option V)->Prop)(hQ:∀x J,Q x J->J.length=m)
  (h:evI T it σ=some (xs.map m6,b9)) (hl:(xs.flatMap ys).length<=1000000)
  (out:∀x∈xs,∀J:List (Option V),J.length=m->∃c5 J',iS (b9++J) tg (m6 x)=some c5/\evI T it2 c5=some ((ys x).map enc2,b9++J')/\Q x J')
  (inn:∀x∈xs,∀y∈ys x,∀J,Q x J->∃c5 J',iS (b9++J) t2 (enc2 y)=some c5/\gB T m8 c5=some (c x y,b9++J')/\Q x J'/\(c x y=true->∃J'',evE T l8 (b9++J')=some (.d (g x y),b9++J'')/\Q x J'')):
  evE T (.comp2 m l8 tg it [] t2 it2 m8) σ=some (.c (.lst (xs.flatMap fun x=>((ys x).filter (c x)).map (g x))),b9):=by
 apply bc;intro Z;refine fG (tJ (f:=Vu T l8 tg [] t2 it2 m8) (m6:=m6) (all:=xs) (fun pre acc s=>∃J:List (Option V),s=b9++J/\J.length=m/\acc=pre.flatMap fun x=>((ys x).filter (c x)).map (g x)) (fun pre x m0 acc s e hp=>by
  refine eR hp fun J Q1 hJ Q3=>?_;clear hp;subst Q1;subst Q3;have hx:=gO e;refine cJ (out x hx J hJ) fun c5 J' q1 q2 q3=>?_;have le:∀l:List β,(l.flatMap fun x=>((ys x).filter (c x)).map (g x)).length<=(l.flatMap ys).length:=fun l=>by
   induction l with
   |nil=>exact eQ _
   |cons a l ih=>
    rw[List.flatMap_cons,List.flatMap_cons,dI,dI,bT];have:=gR (c a) (ys a);lia
  have hb:(pre.flatMap fun x=>((ys x).filter (c x)).map (g x)).length+(ys x).length<=1000000:=by have:=le pre;rw[<-e,List.flatMap_append,List.flatMap_cons,dI,dI] at hl;lia
  refine aP (vZ (T:=T) (b9:=b9) (l8:=l8) (tg:=t2) (ifs:=m8) (m6:=enc2) (c:=c x) (g:=g x) (Q x) (ys x) (pre.flatMap fun x=>((ys x).filter (c x)).map (g x)) J' hb q3 (inn x hx)) fun J2 q4 q5=>?_;refine(hN ((pre.flatMap fun x=>((ys x).filter (c x)).map (g x))++((ys x).filter (c x)).map (g x)) (b9++J2) ?_ (cY J2 rfl (hQ x J2 q5) (by rw[List.flatMap_append];simp only[List.flatMap_cons,List.flatMap_nil,List.append_nil])));exact iJ q1 (cH cG ((cond_true _ _).trans (cH q2 q4)))) xs [] [] (b9++List.replicate m none) rfl (cY _ rfl (by simp) rfl)) fun acc s h1 Q3=>?_;obtain⟨J,h2,h3,h4⟩:=Q3
 apply Z;clear Z;refine aAy (c8:=s) h ?_ ?_
 ·rw[h1,h4]
 ·rw[h2];simp
theorem aAz{a b c:Ex}{o o':CmpOp}{x y z:D}{q q':Bool}{c8:Sg}(h1:evE T a σ=some (.d x,b9))(h2:evE T b b9=some (.d y,c8))(h3:eL o x y=some q)(h4:evE T c c8=some (.d z,c8))(h5:eL o' y z=some q'):evT T (.chain a o b o' c) σ=some (q&&q',c8):=by
 refine dX h1 (dX h2 (iJ h3 ?_))
 cases q
 ·rfl
 ·exact(cond_true _ _).trans (dX h4 (dG h5))
end
theorem G34:G 34=cU (aD 34) 1000 f34:=rfl
theorem G35:G 35=cU (aD 35) 1000 f35:=rfl
theorem G36:G 36=cU (aD 36) 1000 f36:=rfl
theorem aFh{l:Lit}:nB l.d (.int 1)=some (.str l.s.str):=by kernel_rfl
theorem aFi{l:Lit}:nB l.d (.int 2)=some (.int l.k):=by kernel_rfl
theorem eq_bool{a b:Bool}:eL .Eq (.bool a) (.bool b)=some (a==b):=by cases a<;>cases b<;>rfl
theorem tP{l:Lit}{v:Int}:G 34 [.d l.d,.d (.int v)]=some (.bool (lets l.s l.k v),[.d l.d,.d (.int v)]):=by
 have a1:∀{R:Option (Flow×Sg)},dC (aD 34) 1000 [.ite (.or [(.cmp .Eq (.v 2) (.k (.str sLe))),(.cmp .Eq (.v 2) (.k (.str sGe)))]) [.ret (.ite (.cmp .Eq (.v 2) (.k (.str sLe))) (.cmp .LtE (.v 1) (.v 3)) (.cmp .GtE (.v 1) (.v 3)))] [],.ret (.cmp .Eq (.cmp .Eq (.v 1) (.v 3)) (.cmp .Eq (.v 2) (.k (.str sEq))))] [some (.d l.d),some (.d (.int v)),some (.d (.str l.s.str)),some (.d (.int l.k))]=R->dC (aD 34) 1000 f34.body [some (.d l.d),some (.d (.int v)),none,none]=R:=fun{R} h=>
  aA (iM (bY (bO (e_v rfl) rfl aFh) (bY (bO (e_v rfl) rfl aFi) iL)) rfl) h
 have e1:eL .Eq (.int v) (.int l.k)=some (v==l.k):=rfl;refine(gr G34 rfl (a1 (?_:_=some (Flow.ret (PyData.bool (lets l.s l.k v)),[some (V.d l.d),some (.d (.int v)),some (.d (.str l.s.str)),some (.d (.int l.k))]))) rfl);generalize hs:l.s=s
 cases s with
 |le=>exact aW (bQ (q:=true) (qW (Mu (aV (e_v rfl) rfl (by kernel_rfl)))) (aW (cN (lH (c:=true) (aV (e_v rfl) rfl (by kernel_rfl)) (gZ (e_v rfl) (e_v rfl) rfl)))))
 |ge=>exact aW (bQ (q:=true) (qW (kX (aV (e_v rfl) rfl (by kernel_rfl)) (Mu (aV (e_v rfl) rfl (by kernel_rfl))))) (aW (cN (lH (c:=false) (aV (e_v rfl) rfl (by kernel_rfl)) (gZ (e_v rfl) (e_v rfl) rfl)))))
 |eq=>exact aA (bQ (q:=false) (qW (kX (aV (e_v rfl) rfl (by kernel_rfl)) (kX (aV (e_v rfl) rfl (by kernel_rfl)) nY))) rfl) (aW (cN (gZ (gZ (e_v rfl) (e_v rfl) e1) (gZ (q:=true) (e_v rfl) rfl (by kernel_rfl)) (eq_bool.trans (by show some ((v==l.k)==true)=some (v==l.k);cases (v==l.k)<;>rfl)))))
 |ne=>exact aA (bQ (q:=false) (qW (kX (aV (e_v rfl) rfl (by kernel_rfl)) (kX (aV (e_v rfl) rfl (by kernel_rfl)) nY))) rfl) (aW (cN (gZ (gZ (e_v rfl) (e_v rfl) e1) (gZ (q:=false) (e_v rfl) rfl (by kernel_rfl)) (eq_bool.trans (by show some ((v==l.k)==false)=some (!(v==l.k));cases (v==l.k)<;>rfl)))))
def diD(D:List Nat):List (Int×PyData):=(List.range D.length).map fun(x:Nat)=>((x:Int),PyData.list (aB (vl (D.getD x 0))))
def Two(D:List Nat):Prop:=D.length=2\/D.length=3
theorem lN{D:List Nat}(h:Two D){x:Nat}(hx:x<D.length):jW (x:Int) (diD D)=some (.list (aB (vl (D.getD x 0)))):=by
 rcases h with h|h
 ·refine eK h fun a b Q2=>?_;subst Q2;exact lS hx (fun h=>lS h l0 rfl) rfl
 ·refine pN h fun a b c Q3=>?_;clear h;subst Q3;exact lS hx (fun h=>lS h (fun h=>lS h l0 rfl) rfl) rfl
theorem aCh{D:List Nat}(h:Two D){x m:Nat}(hx:x<D.length):jO (x:Int) (.list (aB (vl m))) (diD D)=diD (D.set x m):=by
 rcases h with h|h
 ·refine eK h fun a b Q2=>?_;subst Q2;exact lS hx (fun h=>lS h l0 rfl) rfl
 ·refine pN h fun a b c Q3=>?_;clear h;subst Q3;exact lS hx (fun h=>lS h (fun h=>lS h l0 rfl) rfl) rfl
theorem jI:∀l:List (Int×PyData),eD (l.map fun p=>(PyData.int p.1,p.2))=some l
 |[]=>rfl
 |p::l=>by show(eD (l.map fun p=>(PyData.int p.1,p.2))).map _=_;rw[jI l];rfl
theorem kT{l:List (Int×PyData)}{x:Int}:nB (aI l) (.int x)=jW x l:=by show(eD (l.map fun p=>(PyData.int p.1,p.2))).bind _=_;rw[jI];rfl
theorem Hd{l:List (Int×PyData)}:mJ (aI l)=some (l.map fun p=> .int p.1):=by show(eD (l.map fun p=>(PyData.int p.1,p.2))).map _=_;rw[jI];rfl
def cC(w:List Nat):D:= .tuple (aB w)
def aE(W:List (List Nat)):D:= .list (W.map cC)
section
variable {T:Tab}{σ:Sg}{i:Nat}{l pl D:List Nat}{W:List (List Nat)}{ls:List Lit}
theorem Ju(h:σ.get i=some (.d (.tuple (aB l))))(hl:l.length<=1000):evI T (.r1 (.len (.v i))) σ=some ((List.range l.length).map fun(v:Nat)=>PyData.int (v:Int),σ):=by
 have e:evE T (.len (.v i)) σ=some (.d (.int (l.length:Int)),σ):=qV (e_v h) (by show(if(aB l).length<=1000000 then some (PyData.int (aB l).length) else none)=_;unfold aB;rw[bT,aJ (by lia)])
 refine(vE e (by lia)).trans ?_;have:=fT (a:=0) (b:=l.length);simp only[Nat.zero_add,Nat.sub_zero] at this;rw[<-this];rfl
theorem sT(hD:Two D){st:V}(hst:st= .d (aI (diD D))\/st= .c (.di (diD D)))(hl:ls.length<=100)(hx:∀l∈ls,l.x<D.length)(h:rA D ls):G 35 [.d (cE ls),st]=some (.bool true,[.d (cE ls),st]):=by
 have hs:∀x,x<D.length->Kd st (.int (x:Int))=some (.list (aB (vl (D.getD x 0)))):=fun x hx=>by
  rcases hst with rfl|rfl
  ·exact kT.trans (lN hD hx)
  ·exact lN hD hx
 have e1:=wA (T:=aD 35) (m:=3) (l8:= .k (.int 1)) (tg:= .n 2) (t2:= .n 3) (it:= .seq (.v 0)) (it2:= .seq (.subP (.v 1) (.sub (.v 2) (.k (.int 0))))) (m8:=[(.not (.val (.call 34 [.e (.v 2),.e (.v 3)])))]) (m6:=Lit.d) (enc2:=fun(v:Nat)=>PyData.int (v:Int)) (xs:=ls) (ys:=fun l=>vl (D.getD l.x 0)) (c:=fun l v=> !lets l.s l.k (v:Int)) (g:=fun _ _=> .int 1)
  (σ:=[some (.d (cE ls)),some st]) (b9:=[some (.d (cE ls)),some st]) (fun l J=>∃a b,J=[some (.d l.d),a,b]) (fun l J ⟨a,b,e⟩=>by rw[e];rfl) (dR (e_v rfl) rfl) (by
   have:∀ls:List Lit,(ls.flatMap fun l=>vl (D.getD l.x 0)).length<=5*ls.length:=fun ls=>by
    induction ls with
    |nil=>exact eQ _
    |cons a l ih=>
     rw[List.flatMap_cons,dI,List.length_cons];have:=rX (m:=D.getD a.x 0);lia
   have:=this ls;lia)
  (fun l hl J hJ=>by apply bc;intro Z;refine pN hJ fun a b c Q3=>?_;clear hJ;subst Q3;apply Z;clear Z;exact(dW _ ([some (.d l.d),b,c]) rfl (dR (nW (p:= .v 1) rfl (bO (e_v rfl) rfl aAg) rfl (hs _ (hx l hl))) rfl) (I2 _ _ rfl)))
  (fun l hl v hv J zz=>by
   refine X2 zz fun a b Q2=>?_;clear zz;subst Q2;exact(fH _ ([some (.d l.d),some (.d (.int (v:Int))),b]) rfl (by
    have t:evT (aD 35) (.not (.val (.call 34 [.e (.v 2),.e (.v 3)]))) [some (.d (cE ls)),some st,some (.d l.d),some (.d (.int (v:Int))),b]=some (!lets l.s l.k (v:Int),[some (.d (cE ls)),some st,some (.d l.d),some (.d (.int (v:Int))),b]):=iK (dY (bS (bA (e_v rfl) (bA (e_v rfl) aN)) (bZ (by decide) tP) rfl))
    cases q:lets l.s l.k (v:Int) with
    |true=>rw[q] at t;exact fW t
    |false=>rw[q] at t;exact eV t cG) (I2 _ _ rfl) (fun _=>(xY _ rfl _ _ rfl))))
 have e2:(ls.flatMap fun l=>((vl (D.getD l.x 0)).filter fun(v:Nat)=> !lets l.s l.k (v:Int)).map fun _=>PyData.int 1)=[]:=by rw[List.flatMap_eq_nil_iff];intro l hl;rw[List.map_eq_nil_iff,List.filter_eq_nil_iff];intro v hv;have:=pY.mp hv;rw[h l hl v this.1 this.2];decide
 rw[e2] at e1;rcases hst with rfl|rfl<;>exact gr G35 rfl (aW (cN (gZ (cR e1 rfl) (cR (iV bH) rfl) rfl))) rfl
def obB(pl:List Nat)(l:Lit)(w:List Nat):Bool:=(List.range pl.length).all fun p=> !Nat.beq (pl.getD p 0) l.x||lets l.s l.k ((w.getD p 0:Nat):Int)
def iT(pl:List Nat)(ls:List Lit)(w:List Nat):Bool:=ls.all fun l=>obB pl l w
theorem Dp{w:List Nat}:iT pl ls w=true↔xO pl ls w:=by
 unfold iT obB xO;rw[List.all_eq_true];refine forall_congr' fun l=>forall_congr' fun hl=>?_;rw[List.all_eq_true];constructor
 ·intro h p hp e;have:=h p (dU.mpr hp);rw[e] at this;simpa using this
 ·intro h p hp;by_cases e:pl.getD p 0=l.x
  ·rw[h p (dU.mp hp) e];simp
  ·rw[lU e];rfl
noncomputable def bR(pl:List Nat)(x:Nat):List Nat:=(List.range pl.length).filter fun p=>Nat.beq (pl.getD p 0) x
theorem aCi{l:Lit}{w:List Nat}:decide ((bR pl l.x).filter (fun p=> !lets l.s l.k ((w.getD p 0:Nat):Int))=[])=obB pl l w:=by
 rw[Bool.eq_iff_iff,decide_eq_true_eq,List.filter_eq_nil_iff];unfold bR obB;rw[List.all_eq_true];constructor
 ·intro h p hp;by_cases e:pl.getD p 0=l.x
  ·have:=h p (eP.mpr ⟨hp,by rw[e];simp⟩);rw[fQ,Bool.not_eq_false'] at this;rw[this];simp
  ·rw[lU e];rfl
 ·intro h p hp;obtain⟨h1,h2⟩:=eP.mp hp;have:=h p h1;rw[h2] at this;rw[show lets l.s l.k ((w.getD p 0:Nat):Int)=true by simpa using this];decide
theorem Dq{x j:Nat}{a:Ex}{m:Nat}(hi:σ.get i=some (.d (.tuple (aB pl))))(hl:pl.length<=1000)
  (h1:∀p J,J.length=2->iS (σ++J) (.n j) (.int (p:Int))=some (σ++[some (.d (.int (p:Int))),J.getD 1 none]))
  (h2:∀(p:Nat) J,(σ++[some (.d (.int (p:Int))),J]).get i=some (.d (.tuple (aB pl)))/\(σ++[some (.d (.int (p:Int))),J]).get j=some (.d (.int (p:Int)))/\evE T a (σ++[some (.d (.int (p:Int))),J])=some (.d (.int (x:Int)),σ++[some (.d (.int (p:Int))),J])):
  evE T (.frz (.comp 2 (.v j) (.n j) (.r1 (.len (.v i))) [(.cmp .Eq (.sub (.v i) (.v j)) a)])) σ=some (.d (.list (aB (bR pl x))),σ):=by
 have e1:=bV (T:=T) (m:=2) (l8:= .v j) (tg:= .n j) (it:= .r1 (.len (.v i))) (ifs:=[(.cmp .Eq (.sub (.v i) (.v j)) a)]) (m6:=fun(v:Nat)=>PyData.int (v:Int)) (xs:=List.range pl.length) (c:=fun p=>Nat.beq (pl.getD p 0) x) (g:=fun(v:Nat)=>PyData.int (v:Int)) (σ:=σ) (b9:=σ) (Ju hi hl) (by simp;lia)
  (fun p hp J hJ=>by
   have hp:=dU.mp hp;refine cZ (h2 p (J.getD 1 none)) fun g1 g2 g3=>?_;have q:evT T (.cmp .Eq (.sub (.v i) (.v j)) a) (σ++[some (.d (.int (p:Int))),J.getD 1 none])=some (Nat.beq (pl.getD p 0) x,σ++[some (.d (.int (p:Int))),J.getD 1 none]):=aV (bO (e_v g1) (e_v g2) (gL hp (nE ‹_› ‹_›))) g3 (eq_int.trans (by
    by_cases e:pl.getD p 0=x
    ·rw[iX e,e];simp
    ·rw[oY e,lU e]))
   refine(fH _ _ (h1 p J hJ) ?_ rfl (fun _=>(aH _ (e_v g2) rfl)))
   cases e:Nat.beq (pl.getD p 0) x with
   |true=>rw[e] at q;exact eV q cG
   |false=>rw[e] at q;exact fW q)
 exact cR e1 rfl
theorem Dr(hW:W.length<=1000)(hw:∀w∈W,w.length=pl.length)(hp:pl.length<=4):G 36 [.d (aE W),.d (cE ls),.d (.tuple (aB pl))]=some (aE (W.filter (iT pl ls)),[.d (aE W),.d (cE ls),.d (.tuple (aB pl))]):=by
 apply bc;intro Z;refine Dy (dA (f:=eG (aD 36) 1000 (.n 4) [.asg 5 (.frz (.comp 2 (.v 6) (.n 6) (.r1 (.len (.v 2))) [(.cmp .Eq (.sub (.v 2) (.v 6)) (.sub (.v 4) (.k (.int 0))))])),.asg 3 (.frz (.comp 2 (.v 6) (.n 6) (.seq (.v 3)) [(.cmp .Eq (.frz (.comp 2 (.v 8) (.n 8) (.seq (.v 5)) [(.not (.val (.call 34 [.e (.v 4),.e (.sub (.v 6) (.v 8))])))])) (.frz (.lst [])))]))]) (m6:=Lit.d) (all:=ls)
  (fun pre σ=>∃j4 j5,σ=[some (.d (aE W)),some (.d (cE ls)),some (.d (.tuple (aB pl))),some (.d (aE (W.filter (iT pl pre)))),j4,j5])
  (fun pre l m0 σ e zz=>by
   refine X2 zz fun j4 j5 Q2=>?_;clear zz;subst Q2;have sp:=Dq (T:=aD 36) (i:=2) (j:=6) (x:=l.x) (a:= .sub (.v 4) (.k (.int 0))) (m:=0) (pl:=pl) (σ:=[some (.d (aE W)),some (.d (cE ls)),some (.d (.tuple (aB pl))),some (.d (aE (W.filter (iT pl pre)))),some (.d l.d),j5]) rfl (by lia) (fun p J hJ=>by refine eK hJ fun a b Q2=>?_;subst Q2;rfl) (fun p J=>(cD rfl rfl (bO (e_v rfl) rfl aAg)))
   have fl:(W.filter (iT pl pre)).filter (obB pl l)=W.filter (iT pl (pre++[l])):=by rw[List.filter_filter];refine List.filter_congr fun w _=>?_;unfold iT;rw[List.all_append];simp[Bool.and_comm]
   have e1:=bV (T:=aD 36) (m:=2) (l8:= .v 6) (tg:= .n 6) (it:= .seq (.v 3)) (ifs:=[(.cmp .Eq (.frz (.comp 2 (.v 8) (.n 8) (.seq (.v 5)) [(.not (.val (.call 34 [.e (.v 4),.e (.sub (.v 6) (.v 8))])))])) (.frz (.lst [])))]) (m6:=cC) (xs:=W.filter (iT pl pre)) (c:=obB pl l) (g:=cC)
    (σ:=[some (.d (aE W)),some (.d (cE ls)),some (.d (.tuple (aB pl))),some (.d (aE (W.filter (iT pl pre)))),some (.d l.d),some (.d (.list (aB (bR pl l.x))))]) (b9:=[some (.d (aE W)),some (.d (cE ls)),some (.d (.tuple (aB pl))),some (.d (aE (W.filter (iT pl pre)))),some (.d l.d),some (.d (.list (aB (bR pl l.x))))]) (dR (e_v rfl) rfl) (by have:=gR (iT pl pre) W;lia)
    (fun w hwm J hJ=>by
     refine eK hJ fun a b Q2=>?_;subst Q2;have hwl:=hw w (eP.mp hwm).1;have e2:=bV (T:=aD 36) (m:=2) (l8:= .v 8) (tg:= .n 8) (it:= .seq (.v 5)) (ifs:=[(.not (.val (.call 34 [.e (.v 4),.e (.sub (.v 6) (.v 8))])))]) (m6:=fun(v:Nat)=>PyData.int (v:Int)) (xs:=bR pl l.x) (c:=fun p=> !lets l.s l.k ((w.getD p 0:Nat):Int)) (g:=fun(v:Nat)=>PyData.int (v:Int))
      (σ:=[some (.d (aE W)),some (.d (cE ls)),some (.d (.tuple (aB pl))),some (.d (aE (W.filter (iT pl pre)))),some (.d l.d),some (.d (.list (aB (bR pl l.x)))),some (.d (cC w)),b]) (b9:=[some (.d (aE W)),some (.d (cE ls)),some (.d (.tuple (aB pl))),some (.d (aE (W.filter (iT pl pre)))),some (.d l.d),some (.d (.list (aB (bR pl l.x)))),some (.d (cC w)),b]) (dR (e_v rfl) rfl) (by have:=gR (fun p=>Nat.beq (pl.getD p 0) l.x) (List.range pl.length);unfold bR;rw[gQ] at this;lia)
      (fun p hp' J hJ=>by
       refine eK hJ fun a c Q2=>?_;clear hJ;subst Q2;have hpp:p<pl.length:=dU.mp (eP.mp hp').1;have t:evT (aD 36) (.not (.val (.call 34 [.e (.v 4),.e (.sub (.v 6) (.v 8))]))) [some (.d (aE W)),some (.d (cE ls)),some (.d (.tuple (aB pl))),some (.d (aE (W.filter (iT pl pre)))),some (.d l.d),some (.d (.list (aB (bR pl l.x)))),some (.d (cC w)),b,some (.d (.int (p:Int))),c]=some (!lets l.s l.k ((w.getD p 0:Nat):Int),[some (.d (aE W)),some (.d (cE ls)),some (.d (.tuple (aB pl))),some (.d (aE (W.filter (iT pl pre)))),some (.d l.d),some (.d (.list (aB (bR pl l.x)))),some (.d (cC w)),b,some (.d (.int (p:Int))),c]):=
        iK (dY (bS (bA (e_v rfl) (bA (bO (e_v rfl) (e_v rfl) (gL (l:=w) (k:=p) (by lia) (by lia))) aN)) (bZ (by decide) tP) rfl))
       refine(fH _ ([some (.d (.int (p:Int))),c]) rfl ?_ rfl (fun _=>(aH _ (e_v rfl) rfl)))
       cases q:lets l.s l.k ((w.getD p 0:Nat):Int) with
       |true=>rw[q] at t;exact fW t
       |false=>rw[q] at t;exact eV t cG)
     have t2:evT (aD 36) (.cmp .Eq (.frz (.comp 2 (.v 8) (.n 8) (.seq (.v 5)) [(.not (.val (.call 34 [.e (.v 4),.e (.sub (.v 6) (.v 8))])))])) (.frz (.lst []))) [some (.d (aE W)),some (.d (cE ls)),some (.d (.tuple (aB pl))),some (.d (aE (W.filter (iT pl pre)))),some (.d l.d),some (.d (.list (aB (bR pl l.x)))),some (.d (cC w)),b]=some (obB pl l w,[some (.d (aE W)),some (.d (cE ls)),some (.d (.tuple (aB pl))),some (.d (aE (W.filter (iT pl pre)))),some (.d l.d),some (.d (.list (aB (bR pl l.x)))),some (.d (cC w)),b]):=by rw[<-aCi];exact aV (cR e2 rfl) (cR (iV bH) rfl) rV
     refine(fH _ ([some (.d (cC w)),b]) rfl ?_ rfl (fun _=>(aH _ (e_v rfl) rfl)))
     cases q:obB pl l w with
     |true=>rw[q] at t2;exact eV t2 cG
     |false=>rw[q] at t2;exact fW t2)
   rw[fl] at e1;exact(xY _ (aA (bP sp) (aA (bP (cR e1 rfl)) rfl)) _ _ rfl)) ls [] [some (.d (aE W)),some (.d (cE ls)),some (.d (.tuple (aB pl))),some (.d (aE W)),none,none] rfl (I2 none none (by rw[show W.filter (iT pl [])=W from kP]))) fun d7 h j4 j5 Q4=>?_;subst Q4
 apply Z;clear Z;exact gr G36 rfl (aA (bP (e_v rfl)) (aA (eJ (dR (e_v rfl) rfl) h) (aW (cN (e_v rfl))))) rfl
end
theorem G37:G 37=cU (aD 37) 1000 f37:=rfl
theorem G38:G 38=cU (aD 38) 1000 f38:=rfl
def fDm(E:List Nat)(x:Nat):Int×PyData:=((x:Int),.list (aB (vl (E.getD x 0))))
section
variable {T:Tab}{σ:Sg}{i:Nat}{l pl D E E':List Nat}{W:List (List Nat)}{S:Sto}
theorem qD:diD D=(List.range D.length).map (fDm D):=rfl
theorem Jv{x:Nat}{f:Nat->Int×PyData}(hx:x<=2)(hf:∀y,(f y).1=(y:Int)):jO (x:Int) (f x).2 ((List.range x).map f)=(List.range (x+1)).map f:=by
 have e:∀y,f y=((y:Int),(f y).2):=fun y=>by rw[<-hf y]
 refine lS (Nat.lt_succ_of_le hx) (fun h=>lS h (fun h=>lS h l0 ?_) ?_) ?_
 ·show jO ((2:Nat):Int) (f 2).2 [f 0,f 1]=[f 0,f 1,f 2];rw[e 0,e 1,e 2];rfl
 ·show jO ((1:Nat):Int) (f 1).2 [f 0]=[f 0,f 1];rw[e 0,e 1];rfl
 ·show[(((0:Nat):Int),(f 0).2)]=[f 0];rw[<-e 0]
theorem qE(h:Two D):D.length<=3:=by rcases h with h|h<;>lia
theorem zS:mJ (aI (diD D))=some ((List.range D.length).map fun(v:Nat)=>PyData.int (v:Int)):=by rw[Hd,qD,List.map_map];rfl
theorem oV(hs:S.Small)(hD:Two S.doms):G 38 [S.v]=some (aI (diD S.doms),[S.v]):=by
 have h3:=qE hD;have e1:=bV (T:=aD 38) (m:=2) (l8:= .tup [(.v 1),(.call 2 [.e (.meth 3 0 [.e (.v 1)])])]) (tg:= .n 1) (it:= .r1 (.meth 2 0 [])) (ifs:=[]) (m6:=fun(v:Nat)=>PyData.int ((0+v:Nat):Int)) (xs:=List.range (S.doms.length-0)) (c:=fun _=>true) (g:=fun x=> .tuple [.int (x:Int),.list (aB (vl (S.doms.getD x 0)))])
  (σ:=[some S.v]) (b9:=[some S.v]) (by rw[<-fT];exact vE (k:=(S.doms.length:Int)) (cB rfl rfl aN rfl (bZ (by decide) (Jj (by lia))) rfl) (by lia)) (by simp;lia)
  (fun x hx J hJ=>by
   refine eK hJ fun a b Q2=>?_;clear hJ;subst Q2;have hx:=dU.mp hx;have hd:S.doms[x]?=some (S.doms.getD x 0):=by rw[dS,fL (by assumption)];rfl
   have hm:S.doms.getD x 0<32:=hs.dm _ (dT hd);rw[Nat.zero_add];exact(fH _ ([some (.d (.int (x:Int))),b]) rfl cG rfl (fun _=>(aH _ (gK (aT (e_v rfl) (aT (bS (bA (cB rfl rfl (bA (e_v rfl) aN) rfl (bZ (by decide) (Gs hd (by lia))) rfl) aN) (bZ (by decide) (oR hm)) rfl) bH))) rfl))))
 rw[kP,Nat.sub_zero] at e1;have e2:lA ((List.range S.doms.length).map fun(x:Nat)=>PyData.tuple [.int (x:Int),.list (aB (vl (S.doms.getD x 0)))])=some (diD S.doms):=by rcases hD with h|h<;>rw[qD,h]<;>rfl
 have e3:(diD S.doms).foldl (fun d p=>jO p.1 p.2 d) []=diD S.doms:=by rcases hD with h|h<;>rw[qD,h]<;>rfl
 have e4:=Cu e1 (by simp;lia) e2;rw[e3] at e4;exact gr G38 rfl (aW (cN (cR e4 rfl))) rfl
theorem aA8:iB (diD D)=true:=by unfold iB;rw[List.all_eq_true];intro p hp;refine aP (eO.mp hp) fun x _ Q2=>?_;clear hp;subst Q2;exact zL
theorem Vv(hE:Two E')(hl:E.length=E'.length)(h1:Ms E)(h2:Ms E'){x:Nat}(hx:x<E.length):Kc (diD E') (fDm E x)=decide (E.getD x 0=E'.getD x 0):=by unfold Kc fDm;dsimp only;rw[lN hE (Nat.lt_of_lt_of_eq ‹_› ‹_›)];dsimp only;show PyData.eqvAll _ _=_;rw[vJ,pD];exact⟨fun h=>Gz (h1.get x) (h2.get x) h,fun h=>by rw[h]⟩
theorem Jw(hE:Two E')(hl:E.length=E'.length)(h1:Ms E)(h2:Ms E'):eqD (aI (diD E)) (aI (diD E'))=some (decide (E=E')):=by
 unfold eqD;rw[show dictKeys (aI (diD E))=some (diD E) from jI _,show dictKeys (aI (diD E'))=some (diD E') from jI _];dsimp only;rw[Option.bind_some,aA8,aA8];show some (kZ (diD E) (diD E'))=_
 congr 1
 unfold kZ;rw[Bool.eq_iff_iff,jV,decide_eq_true_eq,List.all_eq_true];constructor
 ·rintro ⟨_,h⟩
  refine vS hl fun x hx=>?_;have:=h (fDm E x) (eO.mpr (aH x (dU.mpr hx) rfl));rw[Vv hE hl h1 h2 hx] at this;simpa using this
 ·rintro rfl
  refine⟨by simp,fun p hp=>?_⟩;refine aP (eO.mp hp) fun x hx Q2=>?_;clear hp;subst Q2;have:=Vv hE hl h1 h2 (dU.mp hx);rw[iX rfl] at this;exact this
theorem oJ{m v:Nat}(h:v<5):(vl m).contains v=m.testBit v:=by
 rw[Bool.eq_iff_iff];have:=pY (m:=m) (v:=v);constructor
 ·intro q;exact(this.mp (by simpa using q)).2
 ·intro q;simpa using this.mpr ⟨h,q⟩
noncomputable def cKM(pl:List Nat)(x v:Nat):Bool:= !pl.contains x||(decide (1<=v)&&decide (v<=3))
theorem aDN{x:Nat}(hx:x<D.length):(vl (D.getD x 0)).filter (cKM pl x)=vl ((KM pl D).getD x 0):=by unfold KM;rw[iQ hx,rW];rfl
theorem aDO{x:Nat}(hx:x<D.length):(vl (D.getD x 0)).filter (lK pl W D x)=vl ((FM pl W D).getD x 0):=by unfold FM;rw[iQ hx,rW];rfl
def lSt(W:List (List Nat))(pl D:List Nat)(left:C)(j4 j5 j6 j7:Option V):Sg:=[some (.d (aE W)),some (.d (.tuple (aB pl))),some (.d (aI (diD D))),some (.c left),j4,j5,j6,j7]
theorem Nj{T:Tab}(hD:Two D)(hp:pl.length<=4):∃j4,evS T 1000 (.for_ (.n 4) (.seq (.v 2)) [.setP (.v 3) (.v 4) (.frz (.comp 2 (.v 8) (.n 8) (.seq (.sub (.v 2) (.v 4))) [(.or [(.cmp .NotIn (.v 4) (.v 1)),(.chain (.k (.int 1)) .LtE (.v 8) .LtE (.k (.int 3)))])]))]) (lSt W pl D (.di []) none none none none)=some (.next,lSt W pl D (.di (diD (KM pl D))) j4 none none none):=by
 apply bc;intro Z;have h3:=qE hD;obtain⟨d7,h,j4,rfl⟩:=dA (f:=eG T 1000 (.n 4) [.setP (.v 3) (.v 4) (.frz (.comp 2 (.v 8) (.n 8) (.seq (.sub (.v 2) (.v 4))) [(.or [(.cmp .NotIn (.v 4) (.v 1)),(.chain (.k (.int 1)) .LtE (.v 8) .LtE (.k (.int 3)))])]))]) (m6:=fun(v:Nat)=>PyData.int (v:Int)) (all:=List.range D.length)
  (fun pre σ=>∃j4,σ=lSt W pl D (.di ((List.range pre.length).map (fDm (KM pl D)))) j4 none none none)
  (fun pre x m0 σ e zz=>by
   obtain⟨j4,rfl⟩:=zz;obtain⟨rfl,hx⟩:=sS e;have e1:=bV (T:=T) (m:=2) (l8:= .v 8) (tg:= .n 8) (it:= .seq (.sub (.v 2) (.v 4))) (ifs:=[(.or [(.cmp .NotIn (.v 4) (.v 1)),(.chain (.k (.int 1)) .LtE (.v 8) .LtE (.k (.int 3)))])]) (m6:=fun(v:Nat)=>PyData.int (v:Int)) (xs:=vl (D.getD pre.length 0)) (c:=cKM pl pre.length) (g:=fun(v:Nat)=>PyData.int (v:Int))
    (σ:=lSt W pl D (.di ((List.range pre.length).map (fDm (KM pl D)))) (some (.d (.int (pre.length:Int)))) none none none) (b9:=lSt W pl D (.di ((List.range pre.length).map (fDm (KM pl D)))) (some (.d (.int (pre.length:Int)))) none none none) (dR (bO (e_v rfl) (e_v rfl) (kT.trans (lN hD hx))) rfl) (by have:=rX (m:=D.getD pre.length 0);lia)
    (fun v hv J hJ=>by
     refine eK hJ fun a b Q2=>?_;subst Q2;have t:evT T (.or [(.cmp .NotIn (.v 4) (.v 1)),(.chain (.k (.int 1)) .LtE (.v 8) .LtE (.k (.int 3)))]) (lSt W pl D (.di ((List.range pre.length).map (fDm (KM pl D)))) (some (.d (.int (pre.length:Int)))) none none none++[some (.d (.int (v:Int))),b])=some (cKM pl pre.length v,lSt W pl D (.di ((List.range pre.length).map (fDm (KM pl D)))) (some (.d (.int (pre.length:Int)))) none none none++[some (.d (.int (v:Int))),b]):=by
      have i1:eL .NotIn (.int (pre.length:Int)) (.tuple (aB pl))=some (!pl.contains pre.length):=bU (fun z:Option Bool=>z.map (!·)) vL;unfold cKM
      cases q:pl.contains pre.length with
      |false=>
       rw[q] at i1;exact qW (Mu (aV (e_v rfl) (e_v rfl) i1))
      |true=>
       rw[q] at i1;have c1:eL .LtE (.int 1) (.int (v:Int))=some (decide (1<=v)):=by
        show some (decide ((1:Int)<=(v:Int)))=_
        congr 1;rw[pD];lia
       have c2:eL .LtE (.int (v:Int)) (.int 3)=some (decide (v<=3)):=by
        show some (decide ((v:Int)<=(3:Int)))=_
        congr 1;rw[pD];lia
       have t2:=aAz (T:=T) (σ:=lSt W pl D (.di ((List.range pre.length).map (fDm (KM pl D)))) (some (.d (.int (pre.length:Int)))) none none none++[some (.d (.int (v:Int))),b]) (a:= .k (.int 1)) (b:= .v 8) (c:= .k (.int 3)) rfl (e_v rfl) c1 rfl c2
       cases z:(decide (1<=v)&&decide (v<=3)) with
       |true=>rw[z] at t2;exact qW (kX (aV (e_v rfl) (e_v rfl) i1) (Mu t2))
       |false=>rw[z] at t2;exact qW (kX (aV (e_v rfl) (e_v rfl) i1) (kX t2 nY))
     refine(fH _ ([some (.d (.int (v:Int))),b]) rfl ?_ rfl (fun _=>(aH _ (e_v rfl) rfl)))
     cases z:cKM pl pre.length v with
     |true=>rw[z] at t;exact eV t cG
     |false=>rw[z] at t;exact fW t)
   rw[aDN hx] at e1;have pn:=Jv (x:=pre.length) (f:=fDm (KM pl D)) (by lia) (fun y=>rfl);refine(xX _ (aA (jF (c':= .di ((List.range (pre.length+1)).map (fDm (KM pl D)))) (cR e1 rfl) rfl (e_v rfl) rfl ?_ rfl) rfl) _ (by rw[dI,kY];rfl));show(if((List.range pre.length).map (fDm (KM pl D))).length<=1000 then some (C.di (jO (pre.length:Int) (fDm (KM pl D) pre.length).2 ((List.range pre.length).map (fDm (KM pl D))))) else none)=_;rw[aJ (by simp;lia),pn]) (List.range D.length) [] (lSt W pl D (.di []) none none none none) rfl ⟨_,rfl⟩
 apply Z;clear Z;refine⟨j4,eJ (dR (e_v rfl) zS) ?_⟩;rw[gQ] at h;rw[h,qD,lT]
def WOk(pl:List Nat)(W:List (List Nat)):Prop:=W.length<=1000/\∀w∈W,w.length=pl.length/\∀p,p<pl.length->w.getD p 0<4
noncomputable def aA9:Ex:= .frz (.comp 2 (.v 8) (.n 8) (.seq (.v 0)) [(.cmp .Eq (.frz (.comp 2 (.v 10) (.n 10) (.r1 (.len (.v 1))) [(.cmp .NotIn (.sub (.v 8) (.v 10)) (.sub (.v 3) (.sub (.v 1) (.v 10))))])) (.frz (.lst [])))])
def lS3(W:List (List Nat))(pl D E:List Nat)(j4 j5 j6 j7:Option V):Sg:=[some (.d (aE W)),some (.d (.tuple (aB pl))),some (.d (aI (diD D))),some (.d (aI (diD E))),j4,j5,j6,j7]
theorem Nk{w:List Nat}(hw:∀p,p<pl.length->w.getD p 0<4):decide (((List.range pl.length).filter fun p=> !(vl (E.getD (pl.getD p 0) 0)).contains (w.getD p 0))=[])=eE pl E w:=by
 rw[Bool.eq_iff_iff,decide_eq_true_eq,List.filter_eq_nil_iff,kB];constructor
 ·intro h p hp;have:=h p (dU.mpr hp);rw[oJ (by have:=hw p hp;exact Nat.lt_succ_of_lt ‹_›),fQ,Bool.not_eq_false'] at this;exact this
 ·intro h p hp;have hp:=dU.mp hp;rw[oJ (by have:=hw p hp;exact Nat.lt_succ_of_lt ‹_›)];have:=h p hp;unfold bit at this;rw[this];decide
theorem aAA(hE:Two E)(hp:pl.length<=4)(hx:∀p,p<pl.length->pl.getD p 0<E.length)(hW:WOk pl W){j4 j5 j6 j7:Option V}:evE T aA9 (lS3 W pl D E j4 j5 j6 j7)=some (.d (aE (W.filter (eE pl E))),lS3 W pl D E j4 j5 j6 j7):=by
 have e1:=bV (T:=T) (m:=2) (l8:= .v 8) (tg:= .n 8) (it:= .seq (.v 0)) (ifs:=[(.cmp .Eq (.frz (.comp 2 (.v 10) (.n 10) (.r1 (.len (.v 1))) [(.cmp .NotIn (.sub (.v 8) (.v 10)) (.sub (.v 3) (.sub (.v 1) (.v 10))))])) (.frz (.lst [])))]) (m6:=cC) (xs:=W) (c:=eE pl E) (g:=cC)
  (σ:=lS3 W pl D E j4 j5 j6 j7) (b9:=lS3 W pl D E j4 j5 j6 j7) (dR (e_v rfl) rfl) (by have:=hW.1;lia)
  (fun w hw J hJ=>by
   refine eK hJ fun a b Q2=>?_;subst Q2;obtain⟨hwl,hw4⟩:=hW.2 w hw;have e2:=bV (T:=T) (m:=2) (l8:= .v 10) (tg:= .n 10) (it:= .r1 (.len (.v 1))) (ifs:=[(.cmp .NotIn (.sub (.v 8) (.v 10)) (.sub (.v 3) (.sub (.v 1) (.v 10))))]) (m6:=fun(v:Nat)=>PyData.int (v:Int)) (xs:=List.range pl.length) (c:=fun p=> !(vl (E.getD (pl.getD p 0) 0)).contains (w.getD p 0)) (g:=fun(v:Nat)=>PyData.int (v:Int))
    (σ:=lS3 W pl D E j4 j5 j6 j7++[some (.d (cC w)),b]) (b9:=lS3 W pl D E j4 j5 j6 j7++[some (.d (cC w)),b]) (Ju (l:=pl) rfl (by lia)) (by simp;lia)
    (fun p hp' J hJ=>by
     refine eK hJ fun a c Q2=>?_;clear hJ;subst Q2;have hpp:=dU.mp hp';have t:evT T (.cmp .NotIn (.sub (.v 8) (.v 10)) (.sub (.v 3) (.sub (.v 1) (.v 10)))) (lS3 W pl D E j4 j5 j6 j7++[some (.d (cC w)),b]++[some (.d (.int (p:Int))),c])=some (!(vl (E.getD (pl.getD p 0) 0)).contains (w.getD p 0),lS3 W pl D E j4 j5 j6 j7++[some (.d (cC w)),b]++[some (.d (.int (p:Int))),c]):=
      aV (bO (e_v rfl) (e_v rfl) (gL (l:=w) (by lia) (by lia))) (bO (e_v rfl) (bO (e_v rfl) (e_v rfl) (gL (l:=pl) hpp (by lia))) (kT.trans (lN hE (hx p hpp)))) (bU (fun z:Option Bool=>z.map (!·)) qZ)
     refine(fH _ ([some (.d (.int (p:Int))),c]) rfl ?_ rfl (fun _=>(aH _ (e_v rfl) rfl)))
     cases q:(vl (E.getD (pl.getD p 0) 0)).contains (w.getD p 0) with
     |true=>rw[q] at t;exact fW t
     |false=>rw[q] at t;exact eV t cG)
   have t2:evT T (.cmp .Eq (.frz (.comp 2 (.v 10) (.n 10) (.r1 (.len (.v 1))) [(.cmp .NotIn (.sub (.v 8) (.v 10)) (.sub (.v 3) (.sub (.v 1) (.v 10))))])) (.frz (.lst []))) (lS3 W pl D E j4 j5 j6 j7++[some (.d (cC w)),b])=some (eE pl E w,lS3 W pl D E j4 j5 j6 j7++[some (.d (cC w)),b]):=by rw[<-Nk hw4];exact aV (cR e2 rfl) (cR (iV bH) rfl) rV
   refine(fH _ ([some (.d (cC w)),b]) rfl ?_ rfl (fun _=>(aH _ (e_v rfl) rfl)))
   cases q:eE pl E w with
   |true=>rw[q] at t2;exact eV t2 cG
   |false=>rw[q] at t2;exact fW t2)
 exact cR e1 rfl
noncomputable def aBa:Ex:= .frz (.comp 2 (.sortedSet (.frz (.comp 2 (.sub (.v 10) (.v 8)) (.n 10) (.seq (.v 6)) []))) (.n 8) (.r1 (.len (.v 1))) [])
def wR(pl:List Nat)(W:List (List Nat))(E:List Nat)(p:Nat):List Nat:=eS ((W.filter (eE pl E)).map fun w=>w.getD p 0)
def mH(pl:List Nat)(W:List (List Nat))(E:List Nat):PyData:= .list ((List.range pl.length).map fun p=> .list (aB (wR pl W E p)))
theorem sU(hW:WOk pl W){p v:Nat}(hp:p<pl.length):(wR pl W E p).contains v=rB pl W E p v:=by
 have h4:∀u∈(W.filter (eE pl E)).map fun w=>w.getD p 0,u<4:=fun u hu=>by apply bc;intro Z;refine aP (eO.mp hu) fun w hw Q2=>?_;clear hu;subst Q2;apply Z;clear Z;exact(hW.2 w (eP.mp hw).1).2 p hp
 rw[Bool.eq_iff_iff,kE];have:=fF h4 (v:=v);constructor
 ·intro q;apply bc;intro Z;refine aP (eO.mp (this.mp (by simpa [wR] using q))) fun w hw e=>?_;obtain⟨h1,h2⟩:=eP.mp hw;apply Z;clear Z;exact(cY w h1 h2 e)
 ·rintro ⟨w,h1,h2,e⟩
  have:=this.mpr (eO.mpr (aH w (eP.mpr ⟨h1,h2⟩) e));simpa [wR] using this
theorem Vw(hp:pl.length<=4)(hW:WOk pl W){j3 j4 j5 j7:Option V}:evE T aBa [some (.d (aE W)),some (.d (.tuple (aB pl))),some (.d (aI (diD D))),j3,j4,j5,some (.d (aE (W.filter (eE pl E)))),j7]=some (.d (mH pl W E),[some (.d (aE W)),some (.d (.tuple (aB pl))),some (.d (aI (diD D))),j3,j4,j5,some (.d (aE (W.filter (eE pl E)))),j7]):=by
 have hl:=gR (eE pl E) W;have e1:=bV (T:=T) (m:=2) (l8:= .sortedSet (.frz (.comp 2 (.sub (.v 10) (.v 8)) (.n 10) (.seq (.v 6)) []))) (tg:= .n 8) (it:= .r1 (.len (.v 1))) (ifs:=[]) (m6:=fun(v:Nat)=>PyData.int (v:Int)) (xs:=List.range pl.length) (c:=fun _=>true) (g:=fun p=> .list (aB (wR pl W E p)))
  (σ:=[some (.d (aE W)),some (.d (.tuple (aB pl))),some (.d (aI (diD D))),j3,j4,j5,some (.d (aE (W.filter (eE pl E)))),j7]) (b9:=[some (.d (aE W)),some (.d (.tuple (aB pl))),some (.d (aI (diD D))),j3,j4,j5,some (.d (aE (W.filter (eE pl E)))),j7]) (Ju (l:=pl) rfl (by lia)) (by simp;lia)
  (fun p hp' J hJ=>by
   refine eK hJ fun a b Q2=>?_;subst Q2;have hpp:=dU.mp hp';have e2:=bV (T:=T) (m:=2) (l8:= .sub (.v 10) (.v 8)) (tg:= .n 10) (it:= .seq (.v 6)) (ifs:=[]) (m6:=cC) (xs:=W.filter (eE pl E)) (c:=fun _=>true) (g:=fun w=> .int ((w.getD p 0:Nat):Int))
    (σ:=[some (.d (aE W)),some (.d (.tuple (aB pl))),some (.d (aI (diD D))),j3,j4,j5,some (.d (aE (W.filter (eE pl E)))),j7,some (.d (.int (p:Int))),b]) (b9:=[some (.d (aE W)),some (.d (.tuple (aB pl))),some (.d (aI (diD D))),j3,j4,j5,some (.d (aE (W.filter (eE pl E)))),j7,some (.d (.int (p:Int))),b]) (dR (e_v rfl) rfl) (by have:=hW.1;lia)
    (fun w hw J hJ=>by refine eK hJ fun a c Q2=>?_;clear hJ;subst Q2;obtain⟨hwl,hw4⟩:=hW.2 w (eP.mp hw).1;exact(fH _ ([some (.d (cC w)),c]) rfl cG rfl (fun _=>(aH _ (bO (e_v rfl) (e_v rfl) (gL (l:=w) (by lia) (by lia))) rfl))))
   rw[kP] at e2;have e3:evE T (.frz (.comp 2 (.sub (.v 10) (.v 8)) (.n 10) (.seq (.v 6)) [])) [some (.d (aE W)),some (.d (.tuple (aB pl))),some (.d (aI (diD D))),j3,j4,j5,some (.d (aE (W.filter (eE pl E)))),j7,some (.d (.int (p:Int))),b]=some (.d (.list (aB ((W.filter (eE pl E)).map fun w=>w.getD p 0))),[some (.d (aE W)),some (.d (.tuple (aB pl))),some (.d (aI (diD D))),j3,j4,j5,some (.d (aE (W.filter (eE pl E)))),j7,some (.d (.int (p:Int))),b]):=by refine cR e2 ?_;unfold aB;rw[List.map_map];rfl
   have e4:=zM e3 (by rw[bT];have:=hW.1;exact iU ‹_› ‹_›) (fun u hu=>by refine aP (eO.mp hu) fun w hw Q2=>?_;clear hu;subst Q2;exact(hW.2 w (eP.mp hw).1).2 p hpp)
   exact(fH _ ([some (.d (.int (p:Int))),b]) rfl cG rfl (fun _=>(aH _ e4 rfl))))
 rw[kP] at e1;exact cR e1 rfl
noncomputable def zT:Tx:= .cmp .Eq (.frz (.comp 2 (.v 10) (.n 10) (.r1 (.len (.v 1))) [(.and [(.cmp .Eq (.sub (.v 1) (.v 10)) (.v 4)),(.cmp .NotIn (.v 8) (.sub (.v 7) (.v 10)))])])) (.frz (.lst []))
theorem Vy(hW:WOk pl W){x v:Nat}:decide (((List.range pl.length).filter fun p=>Nat.beq (pl.getD p 0) x&& !(wR pl W E p).contains v)=[])=lK pl W E x v:=by
 rw[Bool.eq_iff_iff,decide_eq_true_eq,List.filter_eq_nil_iff,jH];constructor
 ·intro h p hp e;have:=h p (dU.mpr hp);rw[sU hW hp,e] at this;simpa using this
 ·intro h p hp;have hp:=dU.mp hp;rw[sU hW hp];by_cases e:pl.getD p 0=x
  ·rw[h p hp e];simp
  ·rw[lU e];simp
theorem Nl(hp:pl.length<=4)(hW:WOk pl W){x v:Nat}{j0 j2 j3 j5 j6 b:Option V}:evT T zT [j0,some (.d (.tuple (aB pl))),j2,j3,some (.d (.int (x:Int))),j5,j6,some (.d (mH pl W E)),some (.d (.int (v:Int))),b]=some (lK pl W E x v,[j0,some (.d (.tuple (aB pl))),j2,j3,some (.d (.int (x:Int))),j5,j6,some (.d (mH pl W E)),some (.d (.int (v:Int))),b]):=by
 have e2:=bV (T:=T) (m:=2) (l8:= .v 10) (tg:= .n 10) (it:= .r1 (.len (.v 1))) (ifs:=[(.and [(.cmp .Eq (.sub (.v 1) (.v 10)) (.v 4)),(.cmp .NotIn (.v 8) (.sub (.v 7) (.v 10)))])]) (m6:=fun(v:Nat)=>PyData.int (v:Int)) (xs:=List.range pl.length) (c:=fun p=>Nat.beq (pl.getD p 0) x&& !(wR pl W E p).contains v) (g:=fun(v:Nat)=>PyData.int (v:Int))
  (σ:=[j0,some (.d (.tuple (aB pl))),j2,j3,some (.d (.int (x:Int))),j5,j6,some (.d (mH pl W E)),some (.d (.int (v:Int))),b]) (b9:=[j0,some (.d (.tuple (aB pl))),j2,j3,some (.d (.int (x:Int))),j5,j6,some (.d (mH pl W E)),some (.d (.int (v:Int))),b]) (Ju (l:=pl) rfl (by lia)) (by simp;lia)
  (fun p hp' J hJ=>by
   refine eK hJ fun a c Q2=>?_;clear hJ;subst Q2;have hpp:=dU.mp hp';have t1:evT T (.cmp .Eq (.sub (.v 1) (.v 10)) (.v 4)) [j0,some (.d (.tuple (aB pl))),j2,j3,some (.d (.int (x:Int))),j5,j6,some (.d (mH pl W E)),some (.d (.int (v:Int))),b,some (.d (.int (p:Int))),c]=some (Nat.beq (pl.getD p 0) x,[j0,some (.d (.tuple (aB pl))),j2,j3,some (.d (.int (x:Int))),j5,j6,some (.d (mH pl W E)),some (.d (.int (v:Int))),b,some (.d (.int (p:Int))),c]):=
    aV (bO (e_v rfl) (e_v rfl) (gL (l:=pl) hpp (by lia))) (e_v rfl) (eq_int.trans (by
     by_cases e:pl.getD p 0=x
     ·rw[iX e,e];simp
     ·rw[oY e,lU e]))
   have t2:evT T (.cmp .NotIn (.v 8) (.sub (.v 7) (.v 10))) [j0,some (.d (.tuple (aB pl))),j2,j3,some (.d (.int (x:Int))),j5,j6,some (.d (mH pl W E)),some (.d (.int (v:Int))),b,some (.d (.int (p:Int))),c]=some (!(wR pl W E p).contains v,[j0,some (.d (.tuple (aB pl))),j2,j3,some (.d (.int (x:Int))),j5,j6,some (.d (mH pl W E)),some (.d (.int (v:Int))),b,some (.d (.int (p:Int))),c]):=
    aV (e_v rfl) (bO (e_v rfl) (e_v rfl) (mE.trans (oB (f:=fun p=>PyData.list (aB (wR pl W E p))) (oS hpp) (by lia)))) (bU (fun z:Option Bool=>z.map (!·)) qZ)
   refine(fH _ ([some (.d (.int (p:Int))),c]) rfl ?_ rfl (fun _=>(aH _ (e_v rfl) rfl)))
   cases q1:Nat.beq (pl.getD p 0) x with
   |false=>rw[q1] at t1;exact fW (fN (fW t1))
   |true=>
    rw[q1] at t1
    cases q2:(wR pl W E p).contains v with
    |true=>rw[q2] at t2;exact fW (fN (eV t1 (fW t2)))
    |false=>rw[q2] at t2;exact eV (fN (eV t1 (eV t2 cG))) cG)
 rw[<-Vy hW];exact aV (cR e2 rfl) (cR (iV bH) rfl) rV
def aBb:List St:=[.sh 3,.masg [5,6] [(.v 3),aA9],.masg [7,3] [aBa,(.emp 0)],.for_ (.n 4) (.seq (.v 5)) [.setP (.v 3) (.v 4) (.frz (.comp 2 (.v 8) (.n 8) (.seq (.sub (.v 5) (.v 4))) [zT]))]]
theorem Nm(hE:Two E)(hp:pl.length<=4)(hx:∀p,p<pl.length->pl.getD p 0<E.length)(hW:WOk pl W){j4 j5 j6 j7:Option V}:
  ∃a4 a6 a7,dC T 1000 aBb (lSt W pl D (.di (diD E)) j4 j5 j6 j7)=some (.next,lSt W pl D (.di (diD (FM pl W E))) a4 (some (.d (aI (diD E)))) a6 a7):=by
 apply bc;intro Z;have h3:=qE hE;refine Dw (dA (f:=eG T 1000 (.n 4) [.setP (.v 3) (.v 4) (.frz (.comp 2 (.v 8) (.n 8) (.seq (.sub (.v 5) (.v 4))) [zT]))]) (m6:=fun(v:Nat)=>PyData.int (v:Int)) (all:=List.range E.length)
  (fun pre σ=>∃j4,σ=lSt W pl D (.di ((List.range pre.length).map (fDm (FM pl W E)))) j4 (some (.d (aI (diD E)))) (some (.d (aE (W.filter (eE pl E))))) (some (.d (mH pl W E))))
  (fun pre x m0 σ e zz=>by
   refine X1 zz fun j4 Q1=>?_;clear zz;subst Q1;refine fX e fun Q0 hx=>?_;clear e;subst Q0;have e1:=bV (T:=T) (m:=2) (l8:= .v 8) (tg:= .n 8) (it:= .seq (.sub (.v 5) (.v 4))) (ifs:=[zT]) (m6:=fun(v:Nat)=>PyData.int (v:Int)) (xs:=vl (E.getD pre.length 0)) (c:=lK pl W E pre.length) (g:=fun(v:Nat)=>PyData.int (v:Int))
    (σ:=lSt W pl D (.di ((List.range pre.length).map (fDm (FM pl W E)))) (some (.d (.int (pre.length:Int)))) (some (.d (aI (diD E)))) (some (.d (aE (W.filter (eE pl E))))) (some (.d (mH pl W E)))) (b9:=lSt W pl D (.di ((List.range pre.length).map (fDm (FM pl W E)))) (some (.d (.int (pre.length:Int)))) (some (.d (aI (diD E)))) (some (.d (aE (W.filter (eE pl E))))) (some (.d (mH pl W E)))) (dR (bO (e_v rfl) (e_v rfl) (kT.trans (lN hE hx))) rfl) (by have:=rX (m:=E.getD pre.length 0);lia)
    (fun v hv J hJ=>by
     refine eK hJ fun a b Q2=>?_;clear hJ;subst Q2;have t:=Nl (T:=T) (E:=E) (x:=pre.length) (v:=v) (j0:=some (.d (aE W))) (j2:=some (.d (aI (diD D)))) (j3:=some (.c (.di ((List.range pre.length).map (fDm (FM pl W E)))))) (j5:=some (.d (aI (diD E)))) (j6:=some (.d (aE (W.filter (eE pl E))))) (b:=b) hp hW;refine(fH _ ([some (.d (.int (v:Int))),b]) rfl ?_ rfl (fun _=>(aH _ (e_v rfl) rfl)))
     cases z:lK pl W E pre.length v with
     |true=>rw[z] at t;exact eV t cG
     |false=>rw[z] at t;exact fW t)
   rw[aDO hx] at e1;have pn:=Jv (x:=pre.length) (f:=fDm (FM pl W E)) (by lia) (fun y=>rfl);refine(xX _ (aA (jF (c':= .di ((List.range (pre.length+1)).map (fDm (FM pl W E)))) (cR e1 rfl) rfl (e_v rfl) rfl ?_ rfl) rfl) _ (by rw[dI,kY];rfl));show(if((List.range pre.length).map (fDm (FM pl W E))).length<=1000 then some (C.di (jO (pre.length:Int) (fDm (FM pl W E) pre.length).2 ((List.range pre.length).map (fDm (FM pl W E))))) else none)=_;rw[aJ (by simp;lia),pn]) (List.range E.length) [] (lSt W pl D (.di []) j4 (some (.d (aI (diD E)))) (some (.d (aE (W.filter (eE pl E))))) (some (.d (mH pl W E)))) rfl ⟨_,rfl⟩) fun d7 h a4 Q3=>?_;subst Q3
 rw[gQ] at h;have h2:(List.range E.length).map (fDm (FM pl W E))=diD (FM pl W E):=by rw[qD,jT]
 rw[h2] at h;apply Z;clear Z;exact(I3 a4 _ _ (aA (aDF rfl rfl) (aA (iM (bY (e_v rfl) (bY (aAA (D:=D) (j4:=j4) (j5:=j5) (j6:=j6) (j7:=j7) hE hp hx hW) iL)) rfl) (aA (iM (bY (Vw (D:=D) (E:=E) (j3:=some (.d (aI (diD E)))) (j4:=j4) (j5:=some (.d (aI (diD E)))) (j7:=j7) hp hW) (bY rfl iL)) rfl) (aA (eJ (dR (e_v rfl) zS) h) rfl)))))
variable {K:List Nat}
noncomputable def Jx:Tx:= .cmpP .NotEq (.v 3) (.v 5)
theorem aAB(hm:Ms E)(h:FM pl W E≠E):(FM pl W E).sum<E.sum:=by refine Ha jT (fun x hx=>?_) h;exact zO (pO.get x) (hm.get x) fun v hv e=>Jr x v hx hv e
theorem xS(hp:pl.length<=4)(hx:∀p,p<pl.length->pl.getD p 0<K.length)(hW:WOk pl W)(hK:Two K)(hm:Ms K):∀(m k j:Nat) (j4 b j6 j7:Option V),(itF pl W j K).sum<m->m+1<=k->
  (evT T Jx (lSt W pl D (.di (diD (itF pl W j K))) j4 b j6 j7)=some (true,lSt W pl D (.di (diD (itF pl W j K))) j4 b j6 j7))->
  ∃i a4 ab a6 a7,iZ k (evT T Jx) (dC T 1000 aBb) (lSt W pl D (.di (diD (itF pl W j K))) j4 b j6 j7)=some (.next,lSt W pl D (.di (diD (itF pl W i K))) a4 ab a6 a7)/\FM pl W (itF pl W i K)=itF pl W i K
 |0,_,_,_,_,_,_,h,_,_=>absurd h (Nat.not_lt_zero _)
 |m+1,k,j,j4,b,j6,j7,hs,hk,ht=>by
  obtain⟨k,rfl⟩:∃i,k=i+2:=⟨k-2,by lia⟩;have hE:Two (itF pl W j K):=by unfold Two;rw[lL];exact hK
  apply bc;intro Z;have hmE:=Hb (pl:=pl) (W:=W) (j:=j) hm;refine X3 (Nm (T:=T) (D:=D) (j4:=j4) (j5:=b) (j6:=j6) (j7:=j7) hE hp (fun p hp=>by rw[lL];exact hx p hp) hW) fun a4 a6 a7 st=>?_;have q:Ec .NotEq (.di (diD (FM pl W (itF pl W j K)))) (aI (diD (itF pl W j K)))=some (!decide (FM pl W (itF pl W j K)=itF pl W j K)):=
   bU (fun z:Option Bool=>z.map (!·)) (Jw hE jT pO hmE)
  have t2:evT T Jx (lSt W pl D (.di (diD (FM pl W (itF pl W j K)))) a4 (some (.d (aI (diD (itF pl W j K))))) a6 a7)=some (!decide (FM pl W (itF pl W j K)=itF pl W j K),lSt W pl D (.di (diD (FM pl W (itF pl W j K)))) a4 (some (.d (aI (diD (itF pl W j K))))) a6 a7):=Uk (p:= .v 3) rfl (e_v rfl) rfl q;apply Z;clear Z;by_cases e:FM pl W (itF pl W j K)=itF pl W j K
  ·rw[iX e] at t2;refine(Nx (j+1) _ _ _ _ (pZ ht st (sR t2)) ?_);show FM pl W (FM pl W (itF pl W j K))=FM pl W (itF pl W j K);rw[e,e]
  ·apply bc;intro Z;rw[oY e] at t2;have:=aAB (pl:=pl) (W:=W) hmE e;refine Wu (xS hp hx hW hK hm m (k+1) (j+1) a4 _ a6 a7 (by show(FM pl W (itF pl W j K)).sum<m;lia) (tR ‹_›) t2) fun i b4 bb b6 b7 h1 h2=>?_;apply Z;clear Z;exact(Nx i b4 bb b6 b7 (pZ ht st h1) h2)
def Ds(E:List Nat):PyData:=if(List.range E.length).filter (fun x=>Nat.beq (E.getD x 0) 0)=[] then aI (diD E) else .none
theorem aCj{m:Nat}(h:m<32):decide (vl m=[])=Nat.beq m 0:=by
 by_cases e:m=0
 ·subst e;rfl
 ·rw[lU e,oY];intro q;exact e (Gz h (by decide) (q.trans Jp.symm))
theorem aAC(hD:Two D)(hm:Ms D)(hp:pl.length<=4)(hx:∀p,p<pl.length->pl.getD p 0<D.length)(hW:WOk pl W):∃i,FM pl W (itF pl W i (KM pl D))=itF pl W i (KM pl D)/\
  G 37 [.d (aE W),.d (.tuple (aB pl)),.d (aI (diD D))]=some (Ds (itF pl W i (KM pl D)),[.d (aE W),.d (.tuple (aB pl)),.d (aI (diD D))]):=by
 have hK:Two (KM pl D):=by unfold Two;rw[lT];exact hD
 apply bc;intro Z;refine X1 (Nj (T:=aD 37) (W:=W) (pl:=pl) hD hp) fun j4 h1=>?_;have t0:evT (aD 37) Jx (lSt W pl D (.di (diD (itF pl W 0 (KM pl D)))) j4 (some (.d .none)) none none)=some (true,lSt W pl D (.di (diD (itF pl W 0 (KM pl D)))) j4 (some (.d .none)) none none):=Uk (p:= .v 3) rfl (e_v rfl) rfl rfl;have hsum:(itF pl W 0 (KM pl D)).sum<200:=by
  have:∀E:List Nat,Ms E->E.sum<=31*E.length:=fun E=>by
   induction E with
   |nil=>intro _;exact eQ _
   |cons a E ih=>
    intro h;have h1:=h a (by simp);have h2:=ih fun m hm=>h m (by simp[hm]);simp;lia
  have:=this (KM pl D) rC;have h3:=qE hK;show(KM pl D).sum<200;lia
 refine Wu (xS (T:=aD 37) (D:=D) hp (fun p hp=>by rw[lT];exact hx p hp) hW hK rC 200 1000 0 j4 (some (.d .none)) none none hsum (by decide) t0) fun i a4 ab a6 a7 h2 hfix=>?_;apply Z;clear Z;refine(aH i hfix ?_);generalize hE:itF pl W i (KM pl D)=E at h2 hfix ⊢;have hEl:E.length=D.length:=by rw[<-hE,lL,lT]
 have hET:Two E:=by unfold Two;rw[hEl];exact hD
 have hEm:Ms E:=by rw[<-hE];exact Hb rC
 have h3:=qE hET;have e1:=bV (T:=aD 37) (m:=2) (l8:= .v 8) (tg:= .n 8) (it:= .seq (.v 3)) (ifs:=[(.cmp .Eq (.sub (.v 3) (.v 8)) (.frz (.lst [])))]) (m6:=fun(v:Nat)=>PyData.int (v:Int)) (xs:=List.range E.length) (c:=fun x=>Nat.beq (E.getD x 0) 0) (g:=fun(v:Nat)=>PyData.int (v:Int))
  (σ:=lS3 W pl D E a4 ab a6 a7) (b9:=lS3 W pl D E a4 ab a6 a7) (dR (e_v rfl) zS) (by simp;lia)
  (fun x hx J hJ=>by
   apply bc;intro Z;refine eK hJ fun a b Q2=>?_;clear hJ;subst Q2;have hx:=dU.mp hx;have t:evT (aD 37) (.cmp .Eq (.sub (.v 3) (.v 8)) (.frz (.lst []))) (lS3 W pl D E a4 ab a6 a7++[some (.d (.int (x:Int))),b])=some (Nat.beq (E.getD x 0) 0,lS3 W pl D E a4 ab a6 a7++[some (.d (.int (x:Int))),b]):=
    aV (bO (e_v rfl) (e_v rfl) (kT.trans (lN hET hx))) (cR (iV bH) rfl) (rV.trans (by rw[aCj (hEm.get x)]))
   apply Z;clear Z;refine(fH _ ([some (.d (.int (x:Int))),b]) rfl ?_ rfl (fun _=>(aH _ (e_v rfl) rfl)))
   cases z:Nat.beq (E.getD x 0) 0 with
   |true=>rw[z] at t;exact eV t cG
   |false=>rw[z] at t;exact fW t)
 have t1:evT (aD 37) (.cmp .NotEq (.frz (.comp 2 (.v 8) (.n 8) (.seq (.v 3)) [(.cmp .Eq (.sub (.v 3) (.v 8)) (.frz (.lst [])))])) (.frz (.lst []))) (lS3 W pl D E a4 ab a6 a7)=some (!decide ((List.range E.length).filter (fun x=>Nat.beq (E.getD x 0) 0)=[]),lS3 W pl D E a4 ab a6 a7):=
  aV (cR e1 rfl) (cR (iV bH) rfl) (bU (fun z:Option Bool=>z.map (!·)) rV)
 have pre:∀{R:Option (Flow×Sg)},dC (aD 37) 1000 [.ret (.ite (.cmp .NotEq (.frz (.comp 2 (.v 8) (.n 8) (.seq (.v 3)) [(.cmp .Eq (.sub (.v 3) (.v 8)) (.frz (.lst [])))])) (.frz (.lst []))) (.k .none) (.v 3))] (lS3 W pl D E a4 ab a6 a7)=R->dC (aD 37) 1000 f37.body [some (.d (aE W)),some (.d (.tuple (aB pl))),some (.d (aI (diD D))),none,none,none,none,none]=R:=fun{R} h=>
  aA (bP rfl) (aA h1 (aA (bP rfl) (aA (mS h2) (aA (aDF rfl rfl) h))))
 refine(mV G37 _).trans ?_;unfold Ds;by_cases e:(List.range E.length).filter (fun x=>Nat.beq (E.getD x 0) 0)=[]
 ·rw[aJ e];rw[iX e] at t1;exact tI rfl (pre (aW (cN (lH (c:=false) t1 (e_v rfl))))) rfl
 ·rw[aR e];rw[oY e] at t1;exact tI rfl (pre (aW (cN (lH (c:=true) t1 rfl)))) rfl
end
theorem G39:G 39=cU (aD 39) 1000 f39:=rfl
theorem xT:∀W:List (List Nat),PyData.canLayAll0 (W.map cC)=true/\PyData.depthAll (W.map cC)<=2
 |[]=>⟨rfl,by decide⟩
 |w::W=>by
  refine cK (xT W) fun h1 h2=>cK (vK w) fun h3 h4=>?_;refine⟨?_,?_⟩
  ·show(PyData.canLayAll0 (aB w)&&PyData.canLayAll0 (W.map cC))=true;rw[h1,h3];rfl
  ·show max (PyData.depthAll (aB w)+1) (PyData.depthAll (W.map cC))<=2;lia
theorem zU{W:List (List Nat)}:eqD (aE W) (.list [])=some (decide (W=[])):=by
 refine cK (xT W) fun h1 h2=>?_;have ok:okD (aE W)=true:=by unfold okD;have e1:PyData.canLay0 (aE W)=PyData.canLayAll0 (W.map cC):=rfl;have e2:PyData.depth (aE W)=PyData.depthAll (W.map cC)+1:=rfl;rw[e1,e2,h1,Bool.true_and,decide_eq_true_eq];lia
 show(if okD (aE W)&&okD (.list []) then some (PyData.eqvAll (W.map cC) []) else none)=_;rw[ok]
 cases W with
 |nil=>rfl
 |cons w W=>rfl
section
variable {r:Rg}{W:List (List Nat)}{fs D:List Nat}{S:Sto}{es tr:List Ent}{l:Lit}
theorem Vz(h:Ms D):Ms (app D es):=by
 unfold app
 induction es generalizing D with
 |nil=>exact h
 |cons e es ih=>exact ih (Vh h mR)
noncomputable def aBc:Ex:= .frz (.comp 2 (.v 12) (.n 12) (.seq (.v 11)) [(.cmp .Eq (.frz (.comp 2 (.v 14) (.n 14) (.seq (.v 10)) [(.not (.val (.call 34 [.e (.v 7),.e (.sub (.v 14) (.v 12))])))])) (.frz (.lst [])))])
def aBd:List St:=[.ite (.or [(.cmp .NotEq (.sub (.v 7) (.k (.int 0))) (.v 5)),(.not (.val (.call 35 [.e (.v 8),.r 2])))]) [.ret (.k (.bool false))] [],.asg 10 (.call 36 [.e (.v 3),.e (.v 8),.e (.v 4)]),.asg 11 (.frz (.comp 2 (.v 12) (.n 12) (.r1 (.len (.v 4))) [(.cmp .Eq (.sub (.v 4) (.v 12)) (.v 5))])),.ite (.cmp .Eq aBc (.frz (.lst []))) [.ret (.k (.bool false))] [],.setP (.v 2) (.v 5) (.frz (.comp 2 (.v 12) (.n 12) (.seq (.subP (.v 2) (.v 5))) [(.val (.call 34 [.e (.v 7),.e (.v 12)]))]))]
def fSt(S:Sto)(mk:Nat)(D:List Nat)(W:List (List Nat))(pl:List Nat)(js:List (Option V)):Sg:=[some S.v,some (.d (.int (mk:Int))),some (.c (.di (diD D))),some (.d (aE W)),some (.d (.tuple (aB pl)))]++js
theorem Wa{pl:List Nat}{mk x:Nat}{j5 j6 j8 j9:Option V}{W':List (List Nat)}(hp:pl.length<=4)(hW:WOk pl W'){p:Nat}(hpp:p<pl.length)(hpx:pl.getD p 0=x)(hw:∀w∈W',lets l.s l.k ((w.getD p 0:Nat):Int)=true):
  evT (aD 39) (.cmp .Eq aBc (.frz (.lst []))) (fSt S mk D W pl [j5,j6,some (.d l.d),j8,j9,some (.d (aE W')),some (.d (.list (aB (bR pl x))))])=some (false,fSt S mk D W pl [j5,j6,some (.d l.d),j8,j9,some (.d (aE W')),some (.d (.list (aB (bR pl x))))]):=by
 have sl:(bR pl x).length<=4:=by have:=gR (fun p=>Nat.beq (pl.getD p 0) x) (List.range pl.length);unfold bR;rw[gQ] at this;exact iU ‹_› ‹_›
 have e1:=bV (T:=aD 39) (m:=2) (l8:= .v 12) (tg:= .n 12) (it:= .seq (.v 11)) (ifs:=[(.cmp .Eq (.frz (.comp 2 (.v 14) (.n 14) (.seq (.v 10)) [(.not (.val (.call 34 [.e (.v 7),.e (.sub (.v 14) (.v 12))])))])) (.frz (.lst [])))]) (m6:=fun(v:Nat)=>PyData.int (v:Int)) (xs:=bR pl x) (c:=fun p=>decide (W'.filter (fun w=> !lets l.s l.k ((w.getD p 0:Nat):Int))=[])) (g:=fun(v:Nat)=>PyData.int (v:Int))
  (σ:=fSt S mk D W pl [j5,j6,some (.d l.d),j8,j9,some (.d (aE W')),some (.d (.list (aB (bR pl x))))]) (b9:=fSt S mk D W pl [j5,j6,some (.d l.d),j8,j9,some (.d (aE W')),some (.d (.list (aB (bR pl x))))]) (dR (e_v rfl) rfl) (by lia)
  (fun q hq J hJ=>by
   refine eK hJ fun a b Q2=>?_;subst Q2;have hqq:q<pl.length:=dU.mp (eP.mp hq).1;have e2:=bV (T:=aD 39) (m:=2) (l8:= .v 14) (tg:= .n 14) (it:= .seq (.v 10)) (ifs:=[(.not (.val (.call 34 [.e (.v 7),.e (.sub (.v 14) (.v 12))])))]) (m6:=cC) (xs:=W') (c:=fun w=> !lets l.s l.k ((w.getD q 0:Nat):Int)) (g:=cC)
    (σ:=fSt S mk D W pl [j5,j6,some (.d l.d),j8,j9,some (.d (aE W')),some (.d (.list (aB (bR pl x)))),some (.d (.int (q:Int))),b]) (b9:=fSt S mk D W pl [j5,j6,some (.d l.d),j8,j9,some (.d (aE W')),some (.d (.list (aB (bR pl x)))),some (.d (.int (q:Int))),b]) (dR (e_v rfl) rfl) (by have:=hW.1;lia)
    (fun w hw' J hJ=>by
     refine eK hJ fun a c Q2=>?_;clear hJ;subst Q2;obtain⟨hwl,hw4⟩:=hW.2 w hw';have t:evT (aD 39) (.not (.val (.call 34 [.e (.v 7),.e (.sub (.v 14) (.v 12))]))) (fSt S mk D W pl [j5,j6,some (.d l.d),j8,j9,some (.d (aE W')),some (.d (.list (aB (bR pl x)))),some (.d (.int (q:Int))),b,some (.d (cC w)),c])=some (!lets l.s l.k ((w.getD q 0:Nat):Int),fSt S mk D W pl [j5,j6,some (.d l.d),j8,j9,some (.d (aE W')),some (.d (.list (aB (bR pl x)))),some (.d (.int (q:Int))),b,some (.d (cC w)),c]):=
      iK (dY (bS (bA (e_v rfl) (bA (bO (e_v rfl) (e_v rfl) (gL (l:=w) (by lia) (by lia))) aN)) (bZ (by decide) tP) rfl))
     refine(fH _ ([some (.d (cC w)),c]) rfl ?_ rfl (fun _=>(aH _ (e_v rfl) rfl)))
     cases z:lets l.s l.k ((w.getD q 0:Nat):Int) with
     |true=>rw[z] at t;exact fW t
     |false=>rw[z] at t;exact eV t cG)
   have t2:evT (aD 39) (.cmp .Eq (.frz (.comp 2 (.v 14) (.n 14) (.seq (.v 10)) [(.not (.val (.call 34 [.e (.v 7),.e (.sub (.v 14) (.v 12))])))])) (.frz (.lst []))) (fSt S mk D W pl [j5,j6,some (.d l.d),j8,j9,some (.d (aE W')),some (.d (.list (aB (bR pl x)))),some (.d (.int (q:Int))),b])=some (decide (W'.filter (fun w=> !lets l.s l.k ((w.getD q 0:Nat):Int))=[]),fSt S mk D W pl [j5,j6,some (.d l.d),j8,j9,some (.d (aE W')),some (.d (.list (aB (bR pl x)))),some (.d (.int (q:Int))),b]):=
    aV (cR e2 rfl) (cR (iV bH) rfl) zU
   refine(fH _ ([some (.d (.int (q:Int))),b]) rfl ?_ rfl (fun _=>(aH _ (e_v rfl) rfl)))
   cases z:decide (W'.filter (fun w=> !lets l.s l.k ((w.getD q 0:Nat):Int))=[]) with
   |true=>rw[z] at t2;exact eV t2 cG
   |false=>rw[z] at t2;exact fW t2)
 have ne:decide ((bR pl x).filter (fun p=>decide (W'.filter (fun w=> !lets l.s l.k ((w.getD p 0:Nat):Int))=[]))=[])=false:=by rw[decide_eq_false_iff_not,List.filter_eq_nil_iff];intro h;refine h p (eP.mpr ⟨dU.mpr hpp,by rw[hpx];exact Vr⟩) ?_;rw[decide_eq_true_eq,List.filter_eq_nil_iff];intro w hw';rw[hw w hw'];decide
 exact aV (cR e1 rfl) (cR (iV bH) rfl) (rV.trans (by rw[ne]))
theorem Wb{mk:Nat}{j5 j6 j7 j8 j9 j10 j11:Option V}{e:Ent}(hok:r.pl.length<=4)(hW:WOk r.pl W)(hD:Two D)(hg:vX r W D e):
  ∃k5 k6 k7 k8 k9 k10 k11,eG (aD 39) 1000 (.t [5,6,7,8,9]) aBd (fSt S mk D W r.pl [j5,j6,j7,j8,j9,j10,j11]) e.d=some (.next,fSt S mk (D.set e.x (cut e.l.s e.l.k e.old)) W r.pl [k5,k6,k7,k8,k9,k10,k11]):=by
 apply bc;intro Z;refine Nv hg.why fun ls hwhy h48 hlx hin Q5=>?_;obtain⟨p,hp,hpx,hw⟩:=Q5;have fl:=gR (iT r.pl ls) W;have hW':WOk r.pl (W.filter (iT r.pl ls)):=⟨by have:=hW.1;exact iU ‹_› ‹_›,fun w h=>hW.2 w (eP.mp h).1⟩;have a0:iS (fSt S mk D W r.pl [j5,j6,j7,j8,j9,j10,j11]) (.t [5,6,7,8,9]) e.d=some (fSt S mk D W r.pl [some (.d (.int (e.x:Int))),some (.d (dm e.old)),some (.d e.l.d),some (.d (cE ls)),some (.d (.int (-1))),j10,j11]):=by unfold Ent.d;rw[hwhy];rfl
 have c0:eL .NotEq (.int (e.l.x:Int)) (.int (e.x:Int))=some false:=by rw[hg.lx];exact(bU (fun z:Option Bool=>z.map (!·)) eq_int).trans (by rw[iX rfl];rfl)
 have at_:=sT (D:=D) (st:= .c (.di (diD D))) (ls:=ls) hD (.inr rfl) (by lia) hlx hin;have lb:=Dr (ls:=ls) hW.1 (fun w h=>(hW.2 w h).1) hok;have sp:=Dq (T:=aD 39) (i:=4) (j:=12) (x:=e.x) (a:= .v 5) (m:=0) (pl:=r.pl) (σ:=fSt S mk D W r.pl [some (.d (.int (e.x:Int))),some (.d (dm e.old)),some (.d e.l.d),some (.d (cE ls)),some (.d (.int (-1))),some (.d (aE (W.filter (iT r.pl ls)))),j11]) rfl (by lia) (fun p J hJ=>by refine eK hJ fun a b Q2=>?_;subst Q2;rfl) (fun p J=>(cD rfl rfl (e_v rfl)))
 have ft:=Wa (S:=S) (D:=D) (W:=W) (l:=e.l) (mk:=mk) (x:=e.x) (j5:=some (.d (.int (e.x:Int)))) (j6:=some (.d (dm e.old))) (j8:=some (.d (cE ls))) (j9:=some (.d (.int (-1)))) hok hW' hp hpx (fun w h=>by exact cK (eP.mp h) fun h1 h2=>hw w h1 (Dp.mp h2))
 have e1:=bV (T:=aD 39) (m:=2) (l8:= .v 12) (tg:= .n 12) (it:= .seq (.subP (.v 2) (.v 5))) (ifs:=[(.val (.call 34 [.e (.v 7),.e (.v 12)]))]) (m6:=fun(v:Nat)=>PyData.int (v:Int)) (xs:=vl (D.getD e.x 0)) (c:=fun(v:Nat)=>lets e.l.s e.l.k (v:Int)) (g:=fun(v:Nat)=>PyData.int (v:Int))
  (σ:=fSt S mk D W r.pl [some (.d (.int (e.x:Int))),some (.d (dm e.old)),some (.d e.l.d),some (.d (cE ls)),some (.d (.int (-1))),some (.d (aE (W.filter (iT r.pl ls)))),some (.d (.list (aB (bR r.pl e.x))))]) (b9:=fSt S mk D W r.pl [some (.d (.int (e.x:Int))),some (.d (dm e.old)),some (.d e.l.d),some (.d (cE ls)),some (.d (.int (-1))),some (.d (aE (W.filter (iT r.pl ls)))),some (.d (.list (aB (bR r.pl e.x))))]) (dR (nW (p:= .v 2) rfl (e_v rfl) rfl (lN hD hg.x)) rfl) (by have:=rX (m:=D.getD e.x 0);lia)
  (fun v hv J hJ=>by
   refine eK hJ fun a b Q2=>?_;clear hJ;subst Q2;have t:evT (aD 39) (.val (.call 34 [.e (.v 7),.e (.v 12)])) (fSt S mk D W r.pl [some (.d (.int (e.x:Int))),some (.d (dm e.old)),some (.d e.l.d),some (.d (cE ls)),some (.d (.int (-1))),some (.d (aE (W.filter (iT r.pl ls)))),some (.d (.list (aB (bR r.pl e.x)))),some (.d (.int (v:Int))),b])=some (lets e.l.s e.l.k (v:Int),fSt S mk D W r.pl [some (.d (.int (e.x:Int))),some (.d (dm e.old)),some (.d e.l.d),some (.d (cE ls)),some (.d (.int (-1))),some (.d (aE (W.filter (iT r.pl ls)))),some (.d (.list (aB (bR r.pl e.x)))),some (.d (.int (v:Int))),b]):=
    dY (bS (bA (e_v rfl) (bA (e_v rfl) aN)) (bZ (by decide) tP) rfl)
   refine(fH _ ([some (.d (.int (v:Int))),b]) rfl ?_ rfl (fun _=>(aH _ (e_v rfl) rfl)))
   cases z:lets e.l.s e.l.k (v:Int) with
   |true=>rw[z] at t;exact eV t cG
   |false=>rw[z] at t;exact fW t)
 have ev:(vl (D.getD e.x 0)).filter (fun(v:Nat)=>lets e.l.s e.l.k (v:Int))=vl (cut e.l.s e.l.k e.old):=by rw[rW,hg.old];rfl
 rw[ev] at e1;apply Z;clear Z;have len:(diD D).length<=1000:=by rw[qD];simp;have:=qE hD;lia
 refine⟨some (.d (.int (e.x:Int))),some (.d (dm e.old)),some (.d e.l.d),some (.d (cE ls)),some (.d (.int (-1))),some (.d (aE (W.filter (iT r.pl ls)))),some (.d (.list (aB (bR r.pl e.x)))),?_⟩;refine(aDH a0).trans ?_;exact aA (bQ (q:=false) (qW (kX (aV (bO (e_v rfl) rfl aAg) (e_v rfl) c0) (kX (iK (dY (bS (bA (e_v rfl) (eB rfl aN rfl)) (bZ (by decide) at_) rfl))) nY))) rfl)
  (aA (bP (bS (bA (e_v rfl) (bA (e_v rfl) (bA (e_v rfl) aN))) (bZ (by decide) lb) rfl))
  (aA (bP sp) (aA (bQ (q:=false) ft rfl)
  (aA (jF (c':= .di (diD (D.set e.x (cut e.l.s e.l.k e.old)))) (cR e1 rfl) rfl (e_v rfl) rfl (by show(if(diD D).length<=1000 then some (C.di (jO (e.x:Int) (.list (aB (vl (cut e.l.s e.l.k e.old)))) (diD D))) else none)=_;rw[aJ len,aCh hD hg.x]) rfl) rfl))))
theorem sV(hok:r.pl.length<=4)(hW:WOk r.pl W)(hD:Two D)(hm:Ms D)(hs:S.Small)(ht:S.trail=tr++es)(hd:S.doms=app D es)(hg:∀pre e m0,es=pre++e::m0->vX r W (app D pre) e):
  G 39 [S.v,.d (.int (tr.length:Int)),.d (aI (diD D)),.d (aE W),.d (.tuple (aB r.pl))]=some (.bool true,[S.v,.d (.int (tr.length:Int)),.d (aI (diD D)),.d (aE W),.d (.tuple (aB r.pl))]):=by
 have hT:∀pre,Two (app D pre):=fun pre=>by unfold Two;rw[rD];exact hD
 apply bc;intro Z;obtain⟨d7,h,k5,k6,k7,k8,k9,k10,k11,rfl⟩:=dA (f:=eG (aD 39) 1000 (.t [5,6,7,8,9]) aBd) (m6:=Ent.d) (all:=es)
  (fun pre σ=>∃k5 k6 k7 k8 k9 k10 k11,σ=fSt S tr.length (app D pre) W r.pl [k5,k6,k7,k8,k9,k10,k11])
  (fun pre e m0 σ q zz=>by obtain⟨k5,k6,k7,k8,k9,k10,k11,rfl⟩:=zz;obtain⟨a5,a6,a7,a8,a9,a10,a11,h1⟩:=Wb (S:=S) (mk:=tr.length) (j5:=k5) (j6:=k6) (j7:=k7) (j8:=k8) (j9:=k9) (j10:=k10) (j11:=k11) hok hW (hT pre) (hg pre e m0 q.symm);exact⟨_,h1,_,_,_,_,_,_,_,by rw[vW]⟩) es [] (fSt S tr.length D W r.pl [none,none,none,none,none,none,none]) rfl ⟨_,_,_,_,_,_,_,rfl⟩
 have h3:=qE hD;have sl:evE (aD 39) (.frz (.slFromP (.a 0 2) (.v 1))) (fSt S tr.length D W r.pl [none,none,none,none,none,none,none])=some (.d (.list (es.map Ent.d)),fSt S tr.length D W r.pl [none,none,none,none,none,none,none]):=by
  have hl:=hs.trail;have hl2:tr.length<=S.trail.length:=by rw[ht];simp
  refine cR (Mt (k:=(tr.length:Int)) (ds:=S.trail.map Ent.d) rfl (e_v rfl) rfl ⟨Int.natCast_nonneg _,by lia,by simp;lia⟩) ?_;rw[sE,ht,List.map_append,List.drop_append_of_le_length (by simp),List.drop_of_length_le (by simp)];rfl
 have seen:=oV hs (by rw[hd];exact hT es);have c1:Ec .Eq (.di (diD (app D es))) (aI (diD S.doms))=some true:=by rw[hd];exact(Jw (hT es) rfl (Vz hm) (Vz hm)).trans (by rw[iX rfl])
 have cp:evE (aD 39) (.dictCopy (.v 2)) [some S.v,some (.d (.int (tr.length:Int))),some (.d (aI (diD D))),some (.d (aE W)),some (.d (.tuple (aB r.pl))),none,none,none,none,none,none,none]=some (.c (.di (diD D)),[some S.v,some (.d (.int (tr.length:Int))),some (.d (aI (diD D))),some (.d (aE W)),some (.d (.tuple (aB r.pl))),none,none,none,none,none,none,none]):=
  Gr (e_v rfl) (by rw[qD];simp;lia) (jI _)
 apply Z;clear Z;exact gr G39 rfl (aA (bP cp) (aA (eJ (dR sl rfl) h) (aW (cN (aB1 (p:= .v 2) rfl (bS (eB rfl aN rfl) (bZ (by decide) seen) rfl) rfl c1))))) rfl
end
theorem G40:G 40=cU (aD 40) 1000 f40:=rfl
section
variable {r:Rg}{W:List (List Nat)}{fs D E:List Nat}{S S1:Sto}{es:List Ent}{cl:List Lit}
theorem wB(h:∀pre e m0,es=pre++e::m0->vX r W (app D pre) e):lM D es:=fun pre e m0 q=>by have:=h pre e m0 q;exact⟨by have:=this.x;rwa [rD] at this,this.old⟩
theorem aCk{j:Nat}:mG r (itF r.pl W j (KM r.pl D)):=by
 induction j with
 |zero=>exact Vt
 |succ j ih=>exact Hc ih
theorem aCl(h:mG r E)(hm:Ms E):KM r.pl E=E:=by
 refine zP lT rC hm fun x v hx hv=>?_;rw[lT] at hx;rw[vU hx hv]
 cases hb:bit E x v with
 |false=>rfl
 |true=>
  cases hc:r.pl.contains x with
  |false=>rfl
  |true=>
   refine aP (zQ (by simpa using hc:x∈r.pl)) fun p hp Q2=>?_;clear hx hc;subst Q2;have:=h p hp v hb;rw[iX this.1,iX this.2];rfl
theorem rH(h1:FM r.pl W D=D):∀j,itF r.pl W j D=D
 |0=>rfl
 |j+1=>by show FM r.pl W (itF r.pl W j D)=D;rw[rH h1 j,h1]
def Dt(r:Rg)(W:List (List Nat))(D:List Nat):Prop:=KM r.pl D=D/\FM r.pl W D=D
theorem Inv.fail(hI:Inv fs S)(h:cl.length<=60):Inv fs (S.failBy cl):=⟨hI.n,hI.firsts,hI.n3,hI.mf,hI.md,hI.sub,hI.nz,hI.cnt,hI.news,hI.marks,h⟩
theorem Wc(hE:∀x,x<E.length->E.getD x 0≠0):Ds E=aI (diD E):=by unfold Ds;rw[aJ];rw[List.filter_eq_nil_iff];intro x hx q;exact hE x (dU.mp hx) (fM q)
theorem Wd{x:Nat}(hx:x<E.length)(h:E.getD x 0=0):Ds E= .none:=by unfold Ds;rw[aR];intro q;exact List.filter_eq_nil_iff.mp q x (dU.mpr hx) (by rw[h];rfl)
theorem Jy{b:Bool}(h:S.failed=b):(Pl.a 0 6).get (some S.v::σ)=some (.d (.bool b)):=by rw[<-h];rfl
structure Way(fs:List Nat)(S S':Sto):Prop where
 inv:Inv fs S'
 marks:S'.marks=S.marks
 way:∃es,S'.trail=S.trail++es/\S'.doms=app S.doms es/\lM S.doms es
theorem We(hC:Ctx r fs W)(hI:Inv fs S)(hf:Dt r W S.doms):∃S',G 31 [r.v,S.v]=some (.bool true,[r.v,S'.v])/\Inv fs S'/\rE r W S S' []/\S'.doms=S.doms:=by
 rcases rG hC hI with⟨S',es,j,h1,i,p,d,_⟩|⟨S',cl,j,h1,_,_,_,x,hx,hz⟩
 ·rw[hf.1,rH hf.2] at d;have:=p.sum;rw[d] at this;have:es=[]:=List.length_eq_zero_iff.mp (by lia);rename_i y0;clear y0;subst this;exact(zZ S' h1 i p d)
 ·rw[hf.1,rH hf.2] at hz;exact absurd hz (hI.nz x hx)
theorem wC(hC:Ctx r fs W)(hW:WOk r.pl W)(hT:Two fs)(hI:Inv fs S)(hf:S.failed=false):
  (∃S',G 40 [S.v,r.v,.d (aE W),.d (.tuple (aB r.pl))]=some (.str cP,[S'.v,r.v,.d (aE W),.d (.tuple (aB r.pl))])/\Way fs S S'/\S'.failed=false/\Dt r W S'.doms)\/
  (∃S',G 40 [S.v,r.v,.d (aE W),.d (.tuple (aB r.pl))]=some (.str iY,[S'.v,r.v,.d (aE W),.d (.tuple (aB r.pl))])/\Way fs S S'/\ ¬Dt r W S.doms):=by
 have hp:=hC.ok.len.2;have hTS:∀{S:Sto},Inv fs S->Two S.doms:=fun{S} h=>by unfold Two;rw[h.n];exact hT
 apply bc;intro Z;have s1:=oV hI.small (hTS hI);refine aP (aAC (pl:=r.pl) (hTS hI) hI.md hp (fun p hp=>by rw[hI.n];exact hC.at hp) hW) fun i hfix dq=>?_;have l1:∀{S:Sto} {σ:Sg},Inv fs S->evE (aD 40) (.lenP (.a 0 2)) (some S.v::σ)=some (.d (.int (S.trail.length:Int)),some S.v::σ):=fun{S σ} h=>by have:=h.cnt;have e:=pX (T:=aD 40) (p:= .a 0 2) (σ:=some S.v::σ) (ds:=S.trail.map Ent.d) rfl (by rw[bT];lia);rw[bT] at e;exact e
 have pre1:∀{R:Option (Flow×Sg)} {b:Bool} {S':Sto},G 31 [r.v,S.v]=some (.bool b,[r.v,S'.v])->dC (aD 40) 1000 (f40.body.drop 2) [some S'.v,some r.v,some (.d (aE W)),some (.d (.tuple (aB r.pl))),some (.d (aI (diD S.doms))),some (.d (.int (S.trail.length:Int))),some (.d (Ds (itF r.pl W i (KM r.pl S.doms)))),some (.d (.bool b)),none]=R->
   dC (aD 40) 1000 f40.body [some S.v,some r.v,some (.d (aE W)),some (.d (.tuple (aB r.pl))),none,none,none,none,none]=R:=fun{R b S'} hq h=>
  aA (iM (bY (bS (eB rfl aN rfl) (bZ (by decide) s1) rfl) (bY (l1 hI) iL)) rfl)
   (aA (iM (bY (bS (bA (e_v rfl) (bA (e_v rfl) (bA (e_v rfl) aN))) (bZ (by decide) dq) rfl) (bY (cB rfl rfl (eB rfl aN rfl) rfl (bZ (by decide) hq) rfl) iL)) rfl) h)
 apply Z;clear Z;rcases rG hC hI with⟨S',es,j,h1,i1,p1,d1,x1⟩|⟨S',cl,j,h1,i1,⟨es,p1⟩,c1,x,hx,hz⟩
 ·have hE:itF r.pl W i (KM r.pl S.doms)=S'.doms:=by rw[d1];exact Vj hfix (by rw[<-d1];exact x1)
  have hE2:Ds (itF r.pl W i (KM r.pl S.doms))=aI (diD S'.doms):=by rw[hE];exact Wc fun x hx=>i1.nz x (by rw[<-i1.n];exact hx)
  apply bc;intro Z;have fx:Dt r W S'.doms:=⟨aCl (by rw[d1];exact aCk) i1.md,x1⟩;have hf':S'.failed=false:=by rw[p1.failed,hf]
  refine Ka (We hC i1 fx) fun S2 h2 i2 p2 d2=>?_;have fo:=sV (r:=r) (W:=W) (D:=S.doms) (S:=S') (es:=es) (tr:=S.trail) hp hW (hTS hI) hI.md i1.small p1.trail p1.doms p1.good;have s2:=oV i1.small (hTS i1);have eqd:eL .Eq (aI (diD S'.doms)) (aI (diD S'.doms))=some true:=(Jw (hTS i1) rfl i1.md i1.md).trans (by rw[iX rfl]);have tr2:S2.trail=S'.trail:=by rw[p2.trail,List.append_nil]
  have eql:eL .Eq (.int (S2.trail.length:Int)) (.int (S'.trail.length:Int))=some true:=by rw[tr2];exact eq_int.trans (by rw[iX rfl])
  have t5:evT (aD 40) (.val (.meth 20 1 [.r 0])) [some S'.v,some r.v,some (.d (aE W)),some (.d (.tuple (aB r.pl))),some (.d (aI (diD S.doms))),some (.d (.int (S'.trail.length:Int))),some (.d (aI (diD S'.doms))),some (.d (.bool true)),some (.d (aI (diD S'.doms)))]=some (true,[some S2.v,some r.v,some (.d (aE W)),some (.d (.tuple (aB r.pl))),some (.d (aI (diD S.doms))),some (.d (.int (S'.trail.length:Int))),some (.d (aI (diD S'.doms))),some (.d (.bool true)),some (.d (aI (diD S'.doms)))]):=
   dY (cB rfl rfl (eB rfl aN rfl) rfl (bZ (by decide) h2) rfl)
  apply Z;clear Z;refine .inl (zZ S2 ?_ ⟨i2,by rw[p2.marks,p1.marks],es,by rw[tr2,p1.trail],by rw[d2,p1.doms],wB p1.good⟩ (by rw[p2.failed];exact hf') (by rw[d2];exact fx));have pr:=pre1 h1 (R:=some (.ret (.str cP),[some S2.v,some r.v,some (.d (aE W)),some (.d (.tuple (aB r.pl))),some (.d (aI (diD S.doms))),some (.d (.int (S'.trail.length:Int))),some (.d (aI (diD S'.doms))),some (.d (.bool true)),some (.d (aI (diD S'.doms)))]));rw[hE2] at pr;refine(gr G40 rfl (pr (aA (bQ (q:=false) (qW (kX (aV (e_v rfl) (gZ (q:=true) (e_v rfl) rfl rfl) rfl) (kX (aV (e_v rfl) (fK (Jy hf')) rfl) (kX (iK (dY (bS (eB rfl (bA (e_v rfl) (bA (e_v rfl) (bA (e_v rfl) (bA (e_v rfl) aN)))) rfl) (bZ (by decide) fo) rfl))) nY)))) rfl)
   (aA (iM (bY (bS (eB rfl aN rfl) (bZ (by decide) s2) rfl) (bY (l1 i1) iL)) rfl)
   (aA (bQ (q:=false) (iK (q:=true) (dY (e_v rfl))) rfl)
   (aW (cN (lH (c:=true) (fN (eV (aV (e_v rfl) (e_v rfl) eqd) (eV t5 (eV (aV (l1 i2) (e_v rfl) eql) cG)))) rfl))))))) rfl)
 ·have hx':x<(itF r.pl W i (KM r.pl S.doms)).length:=by rw[lL,lT,hI.n];exact hx
  have hz':=Vk (i:=i) (j:=j) rC (by rw[lT,hI.n];exact hx) hfix hz;have hE2:=Wd hx' hz';have i2:Inv fs (S'.failBy cl):=i1.fail (by have:=c1.len;lia);have fo:=sV (r:=r) (W:=W) (D:=S.doms) (S:=S'.failBy cl) (es:=es) (tr:=S.trail) hp hW (hTS hI) hI.md i2.small p1.trail p1.doms p1.good;have s2:=oV i2.small (hTS i2);have at_:=sT (D:=S'.doms) (st:= .d (aI (diD S'.doms))) (ls:=cl) (hTS i1) (.inl rfl) (by have:=c1.len;lia) c1.x c1.holds;have lb:=Dr (ls:=cl) hW.1 (fun w h=>(hW.2 w h).1) hp;have none:W.filter (iT r.pl cl)=[]:=by rw[List.filter_eq_nil_iff];intro w hw q;exact c1.no w hw (Dp.mp q)
  rw[none] at lb;have ew:eL .Eq (aE []) (.list [])=some true:=rfl;refine .inr (cY (S'.failBy cl) ?_ ⟨i2,p1.marks,es,p1.trail,p1.doms,wB p1.good⟩ (fun hfx=>?_))
  ·have pr:=pre1 h1 (R:=some (.ret (.str iY),[some (S'.failBy cl).v,some r.v,some (.d (aE W)),some (.d (.tuple (aB r.pl))),some (.d (aI (diD S.doms))),some (.d (.int (S'.trail.length:Int))),some (.d .none),some (.d (.bool false)),some (.d (aI (diD S'.doms)))]));rw[hE2] at pr;refine(gr G40 rfl (pr (aA (bQ (q:=false) (qW (kX (aV (e_v rfl) (gZ (q:=false) (e_v rfl) rfl rfl) rfl) (kX (aV (e_v rfl) (fK (Jy (b:=true) rfl)) rfl) (kX (iK (dY (bS (eB rfl (bA (e_v rfl) (bA (e_v rfl) (bA (e_v rfl) (bA (e_v rfl) aN)))) rfl) (bZ (by decide) fo) rfl))) nY)))) rfl)
    (aA (iM (bY (bS (eB rfl aN rfl) (bZ (by decide) s2) rfl) (bY (l1 i2) iL)) rfl)
    (aW (bQ (q:=true) (iK (q:=false) (dY (e_v rfl))) (aW (cN (lH (c:=true) (fN (eV (dY (bS (bA (fK rfl) (bA (e_v rfl) aN)) (bZ (by decide) at_) rfl)) (eV (aV (bS (bA (e_v rfl) (bA (fK rfl) (bA (e_v rfl) aN))) (bZ (by decide) lb) rfl) (cR (iV bH) rfl) ew) cG))) rfl)))))))) rfl)
  ·rw[hfx.1,rH hfx.2] at hz;exact hI.nz x hx hz
end
theorem G32:G 32=cU (aD 32) 1000 f32:=rfl
theorem G41:G 41=cU (aD 41) 1000 f41:=rfl
def tp(n0:List Int)(k:Nat):C:= .ds [(lX,.list (n0.map .int)),(sK,.int (k:Int))]
theorem Wf(a:Int){m:Nat}(h:1<=m):∃d:Nat,d<m/\Int.fmod a (m:Int)=(d:Int):=by have h1:0<=Int.fmod a (m:Int):=Int.fmod_nonneg_of_pos a (Int.ofNat_lt.mpr ‹_›);have h2:Int.fmod a (m:Int)<(m:Int):=Int.fmod_lt_of_pos a (Int.ofNat_lt.mpr ‹_›);exact aH ((Int.fmod a (m:Int)).toNat) (by omega) (Int.toNat_of_nonneg h1).symm
section
variable {n0:List Int}{k m:Nat}
theorem aCm(hl:n0.length<=40)(hk:k<900)(hm:1<=m):∃d:Nat,d<m/\G 32 [.c (tp n0 k),.d (.int (m:Int))]=some (.int (d:Int),[.c (tp n0 (k+1)),.d (.int (m:Int))]):=by
 apply bc;intro Z;have a1:∀{R:Option (Flow×Sg)},dC (aD 32) 1000 (f32.body.drop 2) [some (.c (tp n0 (k+1))),some (.d (.int (m:Int))),some (.d (.int (k:Int))),none]=R->dC (aD 32) 1000 f32.body [some (.c (tp n0 k)),some (.d (.int (m:Int))),none,none]=R:=fun{R} h=>
  aA (bP (nW (p:= .v 0) (y:= .str sK) rfl rfl rfl (by kernel_rfl))) (aA (jF (c':=tp n0 (k+1)) (cW (e_v rfl) rfl rfl) rfl (y:= .str sK) rfl rfl (by kernel_rfl) rfl) h)
 have lt:evE (aD 32) (.subP (.v 0) (.k (.str lX))) [some (.c (tp n0 (k+1))),some (.d (.int (m:Int))),some (.d (.int (k:Int))),none]=some (.d (.list (n0.map .int)),[some (.c (tp n0 (k+1))),some (.d (.int (m:Int))),some (.d (.int (k:Int))),none]):=nW (p:= .v 0) (y:= .str lX) rfl rfl rfl (by kernel_rfl);have le:evE (aD 32) (.len (.subP (.v 0) (.k (.str lX)))) [some (.c (tp n0 (k+1))),some (.d (.int (m:Int))),some (.d (.int (k:Int))),none]=some (.d (.int (n0.length:Int)),[some (.c (tp n0 (k+1))),some (.d (.int (m:Int))),some (.d (.int (k:Int))),none]):=qV lt (by show(if(n0.map PyData.int).length<=1000000 then some (PyData.int (n0.map PyData.int).length) else none)=_;rw[bT,aJ (by lia)])
 have c1:eL .Lt (.int (k:Int)) (.int (n0.length:Int))=some (decide (k<n0.length)):=by
  show some (decide ((k:Int)<(n0.length:Int)))=_
  congr 1;rw[pD];lia
 have num:∃a:Int,evE (aD 32) (.ite (.cmp .Lt (.v 2) (.len (.subP (.v 0) (.k (.str lX))))) (.sub (.subP (.v 0) (.k (.str lX))) (.v 2)) (.bin .mod (.bin .add (.bin .add (.bin .add (.bin .mul (.bin .mul (.k (.int 6)) (.v 2)) (.v 2)) (.bin .mul (.k (.int 7)) (.v 2))) (.bin .mul (.k (.int 3)) (.len (.subP (.v 0) (.k (.str lX)))))) (.k (.int 6))) (.k (.int 97)))) [some (.c (tp n0 (k+1))),some (.d (.int (m:Int))),some (.d (.int (k:Int))),none]=some (.d (.int a),[some (.c (tp n0 (k+1))),some (.d (.int (m:Int))),some (.d (.int (k:Int))),none]):=by
  by_cases h:k<n0.length
  ·rw[iX h] at c1;exact⟨n0[k],lH (c:=true) (aV (e_v rfl) le c1) (bO lt (e_v rfl) (Cw.trans<|oB (fL h) (by lia)))⟩
  ·rw[oY h] at c1;have mul:∀a b:Int,a.natAbs<2^40/\b.natAbs<2^40->Af .mul (.int a) (.int b)=some (.int (a*b)):=fun a b h=>aJ h;exact⟨_,lH (c:=false) (aV (e_v rfl) le c1) (cW (cW (cW (cW (cW (cW rfl (e_v rfl) (mul 6 k (by lia))) (e_v rfl) (mul _ _ (by lia))) (cW rfl (e_v rfl) (mul 7 k (by lia))) rfl) (cW rfl le (mul 3 n0.length (by lia))) rfl) rfl rfl) rfl rfl)⟩
 refine X1 num fun a num=>aP (Wf a hm) fun d hd e=>?_;apply Z;clear Z;refine(aH d hd ((gr G32 rfl (a1 (aA (bP num) (aW (cN (cW (aAe (e_v rfl)) (e_v rfl) ?_))))) rfl)));refine(aJ (c:=(m:Int)≠0) (by lia)).trans ?_;rw[e]
theorem jK(hl:n0.length<=40)(hk:k<900)(hm:1<=m){P:Prop}(f:∀(d:Nat),d<m->G 32 [.c (tp n0 k),.d (.int (m:Int))]=some (.int (d:Int),[.c (tp n0 (k+1)),.d (.int (m:Int))])->P):P:=aP (aCm hl hk hm) f
end
theorem aCn:∀m,m<32->∀v:Nat,v<5->m.testBit v=true->(vl m).length≠1->cut .ne (v:Int) m≠0:=by decide
theorem Wg{s:Sn}{m v:Nat}(hv:v<5)(hb:m.testBit v=true)(hs:lets s (v:Int) (v:Int)=true):cut s (v:Int) m≠0:=fun q=>by have:=(eU mR).mp q v hv;rw[iP hv,hb,hs] at this;cases this
section
variable {fs:List Nat}{S:Sto}{n0:List Int}{k m:Nat}
theorem Wh(hI:Inv fs S)(hk:S.marks.length<=9):Inv fs S.pushS:=⟨hI.n,hI.firsts,hI.n3,hI.mf,hI.md,hI.sub,hI.nz,hI.cnt,hI.news,by show(S.marks++[_]).length<=10;rw[dI,kY];exact Nat.lt_succ_of_le ‹_›,hI.clash⟩
theorem He{l:Lit}(hI:Inv fs S)(hx:l.x<fs.length)(hc:cut l.s l.k (S.doms.getD l.x 0)≠0):(dZ S l none).1=true/\Way fs S (dZ S l none).2/\(dZ S l none).2.failed=S.failed:=by
 have hx':l.x<S.doms.length:=by rw[hI.n];exact hx
 rw[xQ hx',aR hc];by_cases h:cut l.s l.k (S.doms.getD l.x 0)=S.doms.getD l.x 0
 ·rw[aJ h];exact(cD rfl ⟨hI,rfl,[],by simp,rfl,fun pre e m0 q=>by simp at q⟩ rfl)
 ·rw[aR h];exact(cD rfl ⟨xP hI hx hc h,rfl,[_],rfl,rfl,(mT (es:=[])).mpr (cD (fun pre e m0 q=>by simp at q) hx' rfl)⟩ rfl)
theorem Hf(hI:Inv fs S)(h0:1<=fs.length)(hmk:S.marks.length<=9)(hl:n0.length<=40)(hk:k<800):∃S',G 41 [S.v,.c (tp n0 k)]=some (.bool true,[S'.v,.c (tp n0 (k+3))])/\Way fs S.pushS S'/\S'.failed=S.failed:=by
 apply bc;intro Z;refine jK (m:=S.doms.length) hl (by lia:k<900) (by rw[hI.n];exact h0) fun x hx d1=>?_;apply Z;clear Z;have hxf:x<fs.length:=by rw[<-hI.n];exact hx
 have h3:=hI.n3;have hm:=hI.md.get x;have hnz:=hI.nz x hxf;have hd:S.doms[x]?=some (S.doms.getD x 0):=by rw[dS,fL hx];rfl
 apply bc;intro Z;have hvl:1<=(vl (S.doms.getD x 0)).length:=by have:vl (S.doms.getD x 0)≠[]:=fun q=>hnz (Gz hm (by decide) (q.trans Jp.symm));have:=List.length_pos_iff.mpr this;assumption
 refine jK (m:=(vl (S.doms.getD x 0)).length) hl (by lia:k+1<900) hvl fun i hi d2=>?_;refine jK (m:=4) hl (by lia:k+1+1<900) (by decide) fun j hj d3=>?_;have h5:=rX (m:=S.doms.getD x 0);have vi:(vl (S.doms.getD x 0))[i]?=some ((vl (S.doms.getD x 0))[i]):=fL hi;have vm:=pY.mp (zW hi);apply Z;clear Z;generalize(vl (S.doms.getD x 0))[i]=v at vi vm;have hj4:∃s,lW [.str sEq,.str sNe,.str sLe,.str sGe] (j:Int)=some (.str (Sn.str s)):=by exact lS hj (fun h=>lS h (fun h=>lS h (fun h=>lS h l0 ⟨.eq,rfl⟩) ⟨.ne,rfl⟩) ⟨.le,rfl⟩) ⟨.ge,rfl⟩
 refine X1 hj4 fun s hs=>?_;have len:Ob (.list (aB (vl (S.doms.getD x 0))))=some (.int ((vl (S.doms.getD x 0)).length:Int)):=by show(if(aB (vl (S.doms.getD x 0))).length<=1000000 then some (PyData.int (aB (vl (S.doms.getD x 0))).length) else none)=_;unfold aB;rw[bT,aJ (by lia)]
 have cn:eL .Eq (.str s.str) (.str sNe)=some (decide (s= .ne)):=by cases s<;>kernel_rfl
 apply bc;intro Z;have c1:eL .Eq (.int ((vl (S.doms.getD x 0)).length:Int)) (.int 1)=some (decide ((vl (S.doms.getD x 0)).length=1)):=eq_int (b:=1);have sg:∃t:Sn,evE (aD 41) (.ite (.and [(.cmp .Eq (.v 5) (.k (.str sNe))),(.cmp .Eq (.len (.v 3)) (.k (.int 1)))]) (.k (.str sEq)) (.v 5)) [some S.pushS.v,some (.c (tp n0 (k+3))),some (.d (.int (x:Int))),some (.d (.list (aB (vl (S.doms.getD x 0))))),some (.d (.int (v:Int))),some (.d (.str s.str))]=some (.d (.str t.str),[some S.pushS.v,some (.c (tp n0 (k+3))),some (.d (.int (x:Int))),some (.d (.list (aB (vl (S.doms.getD x 0))))),some (.d (.int (v:Int))),some (.d (.str s.str))])/\cut t (v:Int) (S.doms.getD x 0)≠0:=by
  by_cases q:s= .ne
  ·rw[iX q] at cn;by_cases q1:(vl (S.doms.getD x 0)).length=1
   ·rw[iX q1] at c1;exact(aH .eq (lH (c:=true) (fN (eV (aV (e_v rfl) rfl cn) (eV (aV (qV (e_v rfl) len) rfl c1) cG))) rfl) (Wg vm.1 vm.2 (by show((v:Int)==(v:Int))=true;simp)))
   ·rw[oY q1] at c1;exact(aH s (lH (c:=false) (fN (eV (aV (e_v rfl) rfl cn) (fW (aV (qV (e_v rfl) len) rfl c1)))) (e_v rfl)) (by rw[q];exact aCn _ hm v vm.1 vm.2 q1))
  ·rw[oY q] at cn;refine(aH s (lH (c:=false) (fN (fW (aV (e_v rfl) rfl cn))) (e_v rfl)) (Wg vm.1 vm.2 ?_))
   cases s with
   |ne=>exact absurd rfl q
   |eq=>show((v:Int)==(v:Int))=true;simp
   |le=>exact iX (Int.le_refl _)
   |ge=>exact iX (Int.le_refl _)
 refine aP sg fun t e1 hc=>?_;have hI':=Wh hI hmk;refine cZ (He (l:=⟨x,t,(v:Int)⟩) hI' hxf hc) fun w1 w2 w3=>?_;have dc:=Gv (S:=S.pushS) (l:=⟨x,t,(v:Int)⟩) hI'.small hd rfl vm.1 (by show x<1000;lia);rw[w1] at dc;apply Z;clear Z;refine(cY _ ?_ w2 w3);exact(gr G41 rfl (aA (bP (bS (eB rfl (bA (cB rfl rfl aN rfl (bZ (by decide) (Jj (by rw[hI.n];lia))) rfl) aN) rfl) (bZ (by decide) d1) rfl))
  (aA (bP (bS (bA (cB rfl rfl (bA (e_v rfl) aN) rfl (bZ (by decide) (Gs hd (by lia))) rfl) aN) (bZ (by decide) (oR hm)) rfl))
  (aA (iM (bY (bO (e_v rfl) (bS (eB rfl (bA (qV (e_v rfl) len) aN) rfl) (bZ (by decide) d2) rfl) (mE.trans (oB vi (by lia)))) (bY (bO (cR (iV (aT rfl (aT rfl (aT rfl (aT rfl bH))))) rfl) (bS (eB rfl (bA rfl aN) rfl) (bZ (by decide) d3) rfl) (mE.trans hs)) iL)) rfl)
  (aA (oA (cB rfl rfl aN rfl (bZ (by decide) (aAh hI.small)) rfl) rfl)
  (aW (cN (cB rfl rfl (bA (gK (aT (e_v rfl) (aT e1 (aT (e_v rfl) bH)))) aN) rfl (bZ (by decide) dc) rfl))))))) rfl)
end
theorem G21:∀{a vs},G 21 (.inst 1 a::vs)=cU (aD 21) 1000 f21 (.inst 1 a::vs):=rfl
theorem G33:G 33=cU (aD 33) 1000 f33:=rfl
theorem aBe{m:Nat}(h:m<32):okD (dm m)=true/\PyData.eqv (dm m) (.tuple [])=Nat.beq m 0:=by
 have e:(if okD (dm m)&&okD (.tuple []) then some (PyData.eqv (dm m) (.tuple [])) else none)=some (Nat.beq m 0):=qY h
 cases q:okD (dm m) with
 |false=>rw[q] at e;have e:(none:Option Bool)=some (Nat.beq m 0):=e;cases e
 |true=>
  rw[q] at e;have e:some (PyData.eqv (dm m) (.tuple []))=some (Nat.beq m 0):=e;exact⟨rfl,aK e⟩
theorem No{l:List Nat}(h:∀m∈l,m<32/\m≠0):inD (.tuple []) (.list (l.map dm))=some false:=by
 have h1:(l.map dm).all okD=true:=by rw[List.all_map,List.all_eq_true];intro m hm;exact(aBe (h m hm).1).1
 have h2:(l.map dm).any (fun y=>PyData.eqv y (.tuple []))=false:=by rw[List.any_map,List.any_eq_false];intro m hm q;have q:PyData.eqv (dm m) (.tuple [])=true:=q;rw[(aBe (h m hm).1).2] at q;exact(h m hm).2 (fM q)
 show(if okD (.tuple [])&&(l.map dm).all okD then some ((l.map dm).any fun y=>PyData.eqv y (.tuple [])) else none)=_;rw[h1,h2];rfl
section
variable {S:Sto}{D0:List Nat}{pre es:List Ent}{ms rest:List Nat}{n:Nat}
theorem aCo(hs:S.Small)(hf:∀m∈S.firsts,m≠0)(hm:S.marks=ms++pre.length::rest)(hn:n=rest.length+1)(ht:S.trail=pre++es)(hd:S.doms=app D0 es)(hc:lM D0 es):
  G 19 [S.v,.d (.int (n:Int))]=some (.none,[(⟨D0,S.firsts,pre,ms,[],false,[]⟩:Sto).v,.d (.int (n:Int))]):=by
 have hml:=hs.marks;have htl:=hs.trail;have hl:S.marks.length=ms.length+n:=by rw[hm];simp;lia
 have lt:eL .Lt (.int (n:Int)) (.int 1)=some false:=by show some (decide ((n:Int)<1))=_;rw[oY (by lia)]
 have len:∀{σ:Sg},evE (aD 19) (.lenP (.a 0 3)) (some S.v::σ)=some (.d (.int (S.marks.length:Int)),some S.v::σ):=fun{σ}=>by have e:=pX (T:=aD 19) (p:= .a 0 3) (σ:=some S.v::σ) (ds:=S.marks.map fun(v:Nat)=>PyData.int (v:Int)) rfl (by rw[bT];lia);rw[bT] at e;exact e
 have ix:∀{a b:Option V},evE (aD 19) (.bin .sub (.lenP (.a 0 3)) (.v 1)) [some S.v,some (.d (.int (n:Int))),a,b]=some (.d (.int (ms.length:Int)),[some S.v,some (.d (.int (n:Int))),a,b]):=fun{a b}=>
  cW len (e_v rfl) (by show some (PyData.int ((S.marks.length:Int)-(n:Int)))=_;rw[show(S.marks.length:Int)-(n:Int)=(ms.length:Int) by lia])
 have mk:S.marks[ms.length]?=some pre.length:=by rw[hm];simp
 have tk:S.marks.take ms.length=ms:=by rw[hm];simp
 have sl:evE (aD 19) (.slToP (.a 0 3) (.bin .sub (.lenP (.a 0 3)) (.v 1))) [some S.v,some (.d (.int (n:Int))),some (.d (.int (pre.length:Int))),none]=some (.c (.lst (aB ms)),[some S.v,some (.d (.int (n:Int))),some (.d (.int (pre.length:Int))),none]):=by have e:=aAd (T:=aD 19) (p:= .a 0 3) (b:= .bin .sub (.lenP (.a 0 3)) (.v 1)) (σ:=[some S.v,some (.d (.int (n:Int))),some (.d (.int (pre.length:Int))),none]) (k:=(ms.length:Int)) (ds:=aB S.marks) rfl ix rfl (cD (Int.natCast_nonneg _) (by lia) (by unfold aB;simp;lia));rw[e];unfold aB;rw[sE,<-List.map_take,tk]
 have hx:∀e∈es,e.x<S.doms.length:=fun e he=>by refine X2 (List.append_of_mem he) fun a b q=>?_;have:=(hc a e b q).1;rw[hd,rD];exact this
 refine X1 (Db (T:=aD 19) (y:= .d (.int (n:Int))) es.length pre es {S with marks:=ms} none 1000 rfl ht (by have:=bU List.length ht;simp at this;lia) htl hs.doms hx) fun J' wl=>?_;have un:Cz es S.doms=D0:=by rw[hd];exact Vn hc
 have wl:iZ 1000 (evT (aD 19) Jl) (dC (aD 19) 1000 Jk) [some ({S with marks:=ms}:Sto).v,some (.d (.int (n:Int))),some (.d (.int (pre.length:Int))),none]=some (.next,[some (⟨Cz es S.doms,S.firsts,pre,ms,S.news,S.failed,S.clash⟩:Sto).v,some (.d (.int (n:Int))),some (.d (.int (pre.length:Int))),J']):=wl;rw[un] at wl;have inf:=No (l:=S.firsts) fun m hm=>⟨hs.fm m hm,hf m hm⟩;exact(gn G19 rfl (aA (bQ (q:=false) (aV (e_v rfl) rfl lt) rfl)
  (aA (bP (nW (y:= .int (ms.length:Int)) rfl ix rfl (tK mk (by lia))))
  (aA (Ul sl rfl rfl) (aA (mS wl) (aA (aDI rfl rfl) (aA (nZ (aDB (gK bH) rfl inf) rfl rfl) (aA (nZ (gK bH) rfl rfl) rfl))))))) rfl)
end
theorem aCp{M:Nat->Nat->Nat}{pl fin:List Nat}(h1:pl.length<=4)(h2:∀x∈pl,x<4):G 21 [.inst 1 [],.d (.tuple (aB pl)),.d (.int 3),.d (.int 3),.d (fP M),.d (.int 1),.d (.tuple (aB fin))]=
  some (.none,[(⟨M,pl,fin,decide ((eS pl).length<pl.length)⟩:Rg).v,.d (.tuple (aB pl)),.d (.int 3),.d (.int 3),.d (fP M),.d (.int 1),.d (.tuple (aB fin))]):=by
 have i1:G 20 [.inst 1 [],.d (.tuple (aB pl)),.d (.str oK)]=some (.none,[.inst 1 [(8,.d (.int (-1))),(9,.d (.tuple (aB pl))),(10,.d (.str oK))],.d (.tuple (aB pl)),.d (.str oK)]):=by kernel_rfl
 have len:∀l:List Nat,l.length<=1000->Ob (.tuple (aB l))=some (.int (l.length:Int)):=fun l h=>by show(if(aB l).length<=1000000 then some (PyData.int (aB l).length) else none)=_;unfold aB;rw[bT,aJ (by lia)]
 have l1:Ob (.list (aB (eS pl)))=some (.int ((eS pl).length:Int)):=len _ (by have:=mF (l:=pl);lia);have l2:=len pl (by lia);have c1:eL .Lt (.int ((eS pl).length:Int)) (.int (pl.length:Int))=some (decide ((eS pl).length<pl.length)):=by
  show some (decide (((eS pl).length:Int)<(pl.length:Int)))=_
  congr 1;rw[pD];lia
 exact G21.trans (Cv rfl (aA (oA (aDC (bA (Uj (e_v rfl)) (bA rfl aN)) rfl (bZ (by decide) i1) rfl) rfl)
  (aA (nZ (e_v rfl) rfl rfl) (aA (nZ (e_v rfl) rfl rfl) (aA (nZ (e_v rfl) rfl rfl) (aA (nZ (e_v rfl) rfl rfl) (aA (nZ (e_v rfl) rfl rfl)
  (aA (nZ (gZ (qV (aAn (e_v rfl) (by lia) h2) l1) (qV (e_v rfl) l2) c1) rfl rfl) rfl))))))) rfl)
section
variable {M:Nat->Nat->Nat}{fs pl fin:List Nat}
def xU(p:List Nat×Nat):D:= .tuple [cC p.1,.int (p.2:Int)]
noncomputable def wD(M:Nat->Nat->Nat)(m:Nat)(L:List (List Nat×Nat)):List (List Nat×Nat):=L.flatMap fun p=>(([1,2,3].filter m.testBit).filter fun a=> !Nat.beq (M p.2 a) 0).map fun a=>(p.1++[a],M p.2 a)
def aCq(M:Nat->Nat->Nat)(fs pl:List Nat)(i:Nat)(w:List Nat)(s:Nat):Prop:=w.length=i/\∃q:Nat->Nat,q 0=1/\(∀k,k<i->(1<=w.getD k 0/\w.getD k 0<=3)/\bit fs (pl.getD k 0) (w.getD k 0)=true/\q (k+1)=M (q k) (w.getD k 0))/\(∀k,k<=i->1<=q k/\q k<=3)/\q i=s
structure LOk(M:Nat->Nat->Nat)(fs pl:List Nat)(i:Nat)(L:List (List Nat×Nat)):Prop where
 mem:∀w s,(w,s)∈L↔aCq M fs pl i w s
 len:L.length<=3^i
theorem wE{w:List Nat}{a k:Nat}:(w++[a]).getD k 0=if k<w.length then w.getD k 0 else if k=w.length then a else 0:=by
 rw[dS,dS,List.getElem?_append];by_cases h:k<w.length
 ·rw[aJ h,aJ h]
 ·rw[aR h,aR h];by_cases e:k=w.length
  ·clear h;subst e;simp
  ·rw[aR e,List.getElem?_eq_none (by simp;lia)];rfl
theorem Wi{m a:Nat}:a∈[1,2,3].filter m.testBit↔(1<=a/\a<=3)/\m.testBit a=true:=by rw[eP,lR]
theorem LOk.step(hM:∀s a,M s a<4){i:Nat}{L:List (List Nat×Nat)}(h:LOk M fs pl i L)(hi:i<pl.length):LOk M fs pl (i+1) (wD M (fs.getD (pl.getD i 0) 0) L):=by
 constructor
 ·intro w s;unfold wD;rw[List.mem_flatMap];constructor
  ·rintro ⟨⟨w',t⟩,hm,hw⟩
   apply bc;intro Z;refine aP (eO.mp hw) fun a ha e=>?_
   cases e
   refine cK (eP.mp ha) fun ha1 ha2=>cK (Wi.mp ha1) fun ha3 hab=>?_;have hne:M t a≠0:=fun z=>by simp[z] at ha2
   have h4:=hM t a;refine tV ((h.mem w' t).mp hm) fun hl q q0 qs qb qi=>?_;apply Z;clear Z;refine(qF (by simp[hl]) (fun k=>if k=i+1 then M t a else q k) ?_ (fun k hk=>?_) (fun k hk=>?_) (aJ rfl))
   ·show(if 0=i+1 then M t a else q 0)=1;rw[aR ((Nat.succ_ne_zero _).symm),q0]
   ·show _/\_/\(if k+1=i+1 then M t a else q (k+1))=M (if k=i+1 then M t a else q k) _;rw[wE,aR (by exact Nat.ne_of_lt ‹_› : ¬k=i+1),hl];by_cases e:k<i
    ·rw[aJ e,aR (by lia)];exact qs k e
    ·have e:k=i:=by lia
     rename_i y0;clear hi ha hw ha1 y0;subst e;rw[aR (jL _),aJ rfl,aJ rfl,qi];exact(cD ha3 hab rfl)
   ·show 1<=(if k=i+1 then M t a else q k)/\(if k=i+1 then M t a else q k)<=3;by_cases e:k=i+1
    ·rw[aJ e];lia
    ·rw[aR e];exact qb k (by lia)
  ·rintro ⟨hl,q,q0,qs,qb,qi⟩
   have hne:w≠[]:=fun z=>by rw[z] at hl;simp at hl
   obtain⟨w',a,rfl⟩:∃w' a,w=w'++[a]:=⟨w.dropLast,w.getLast hne,(List.dropLast_concat_getLast hne).symm⟩;have hl':w'.length=i:=by simpa using hl
   have e1:∀k,k<i->(w'++[a]).getD k 0=w'.getD k 0:=fun k hk=>by rw[wE,aJ (by lia)]
   have e2:(w'++[a]).getD i 0=a:=by rw[wE,aR (by lia),aJ (by lia)]
   have last:=qs i (eQ _);rw[e2] at last;have bi:=qb (i+1) (eQ _);refine(aH (w',q i) ((h.mem _ _).mpr (qF hl' q q0 (fun k hk=>?_) (fun k hk=>qb k (Nat.le_succ_of_le ‹_›)) rfl)) (eO.mpr (aH a (eP.mpr ⟨Wi.mpr ⟨last.1,last.2.1⟩,?_⟩) ?_)))
   ·have:=qs k (Nat.lt_succ_of_lt ‹_›);rw[e1 k hk] at this;exact this
   ·rw[lU (by rw[<-last.2.2];lia)];rfl
   ·show(w'++[a],M (q i) a)=_;rw[<-last.2.2,qi]
 ·have:∀L:List (List Nat×Nat),(wD M (fs.getD (pl.getD i 0) 0) L).length<=3*L.length:=fun L=>by
   unfold wD
   induction L with
   |nil=>exact eQ _
   |cons p L ih=>
    rw[List.flatMap_cons,dI,bT,List.length_cons];have h1:=gR (fun a=> !Nat.beq (M p.2 a) 0) ([1,2,3].filter (fs.getD (pl.getD i 0) 0).testBit);have h2:=gR (fs.getD (pl.getD i 0) 0).testBit [1,2,3];simp only[List.length_cons,List.length_nil] at h2;lia
  have h1:=this L;have h2:=h.len;rw[Nat.pow_succ];lia
theorem aAD{i s:Nat}{w:List Nat}(h:aCq M fs pl i w s):1<=s/\s<=3:=by apply bc;intro Z;refine tV h fun _ q _ _ qb qi=>?_;apply Z;clear Z;rw[<-qi];exact qb i (eQ _)
noncomputable def wIn:List St:=[.asg 6 (.frz (.comp 2 (.v 7) (.n 7) (.seq (.tup [(.k (.int 1)),(.k (.int 2)),(.k (.int 3))])) [(.cmp .In (.v 7) (.call 2 [.e (.sub (.v 3) (.v 5))]))])),.asg 4 (.frz (.comp2 4 (.tup [(.bin .add (.v 7) (.tup [(.v 9)])),(.sub (.sub (.v 0) (.bin .sub (.v 8) (.k (.int 1)))) (.bin .sub (.v 9) (.k (.int 1))))]) (.t [7,8]) (.seq (.v 4)) [] (.n 9) (.seq (.v 6)) [(.cmp .Gt (.sub (.sub (.v 0) (.bin .sub (.v 8) (.k (.int 1)))) (.bin .sub (.v 9) (.k (.int 1)))) (.k (.int 0)))]))]
def wSt(M:Nat->Nat->Nat)(fin pl fs:List Nat)(L:List (List Nat×Nat))(j5 j6:Option V):Sg:=[some (.d (fP M)),some (.d (.tuple (aB fin))),some (.d (.tuple (aB pl))),some (.d (.list (fs.map dm))),some (.d (.list (L.map xU))),j5,j6]
theorem Hg{i x:Nat}{L:List (List Nat×Nat)}{j5 j6:Option V}(hm:Ms fs)(hx:x<fs.length)(hn:fs.length<=3)(h:LOk M fs pl i L)(hi:i<=4):
  ∃a5 a6,eG (aD 33) 1000 (.n 5) wIn (wSt M fin pl fs L j5 j6) (.int (x:Int))=some (.next,wSt M fin pl fs (wD M (fs.getD x 0) L) a5 a6):=by
 have hd:fs[x]?=some (fs.getD x 0):=by rw[dS,fL hx];rfl
 have hLl:L.length<=81:=by have h1:=h.len;have h2:3^i<=3^4:=Nat.pow_le_pow_right (by decide) hi;exact iU ‹_› ‹_›
 have e1:=bV (T:=aD 33) (m:=2) (l8:= .v 7) (tg:= .n 7) (it:= .seq (.tup [(.k (.int 1)),(.k (.int 2)),(.k (.int 3))])) (ifs:=[(.cmp .In (.v 7) (.call 2 [.e (.sub (.v 3) (.v 5))]))]) (m6:=fun(v:Nat)=>PyData.int (v:Int)) (xs:=[1,2,3]) (c:=(fs.getD x 0).testBit) (g:=fun(v:Nat)=>PyData.int (v:Int))
  (σ:=wSt M fin pl fs L (some (.d (.int (x:Int)))) j6) (b9:=wSt M fin pl fs L (some (.d (.int (x:Int)))) j6) (dR (gK (aT rfl (aT rfl (aT rfl bH)))) rfl) (by decide)
  (fun v hv J hJ=>by
   apply bc;intro Z;refine eK hJ fun a b Q2=>?_;subst Q2;have hv3:=lR.mp hv;have t:evT (aD 33) (.cmp .In (.v 7) (.call 2 [.e (.sub (.v 3) (.v 5))])) (wSt M fin pl fs L (some (.d (.int (x:Int)))) j6++[some (.d (.int (v:Int))),b])=some ((fs.getD x 0).testBit v,wSt M fin pl fs L (some (.d (.int (x:Int)))) j6++[some (.d (.int (v:Int))),b]):=
    aV (e_v rfl) (bS (bA (bO (e_v rfl) (e_v rfl) (mE.trans (oB hd (by lia)))) aN) (bZ (by decide) (oR (hm.get x))) rfl) (qZ.trans (by rw[oJ (by lia)]))
   apply Z;clear Z;refine(fH _ ([some (.d (.int (v:Int))),b]) rfl ?_ rfl (fun _=>(aH _ (e_v rfl) rfl)))
   cases z:(fs.getD x 0).testBit v with
   |true=>rw[z] at t;exact eV t cG
   |false=>rw[z] at t;exact fW t)
 have e2:=wA (T:=aD 33) (m:=4) (l8:= .tup [(.bin .add (.v 7) (.tup [(.v 9)])),(.sub (.sub (.v 0) (.bin .sub (.v 8) (.k (.int 1)))) (.bin .sub (.v 9) (.k (.int 1))))]) (tg:= .t [7,8]) (t2:= .n 9) (it:= .seq (.v 4)) (it2:= .seq (.v 6)) (m8:=[(.cmp .Gt (.sub (.sub (.v 0) (.bin .sub (.v 8) (.k (.int 1)))) (.bin .sub (.v 9) (.k (.int 1)))) (.k (.int 0)))]) (m6:=xU) (enc2:=fun(v:Nat)=>PyData.int (v:Int)) (xs:=L) (ys:=fun _=>[1,2,3].filter (fs.getD x 0).testBit) (c:=fun p a=> !Nat.beq (M p.2 a) 0) (g:=fun p a=>xU (p.1++[a],M p.2 a))
  (σ:=wSt M fin pl fs L (some (.d (.int (x:Int)))) (some (.d (.list (aB ([1,2,3].filter (fs.getD x 0).testBit)))))) (b9:=wSt M fin pl fs L (some (.d (.int (x:Int)))) (some (.d (.list (aB ([1,2,3].filter (fs.getD x 0).testBit)))))) (fun p J=>∃a b,J=[some (.d (cC p.1)),some (.d (.int (p.2:Int))),a,b]) (fun p J ⟨a,b,e⟩=>by rw[e];rfl) (dR (e_v rfl) rfl) (by
   have:∀L:List (List Nat×Nat),(L.flatMap fun _=>[1,2,3].filter (fs.getD x 0).testBit).length<=3*L.length:=fun L=>by
    induction L with
    |nil=>exact eQ _
    |cons a l ih=>
     rw[List.flatMap_cons,dI,List.length_cons];have:=gR (fs.getD x 0).testBit [1,2,3];simp only[List.length_cons,List.length_nil] at this;lia
   have:=this L;lia)
  (fun p hp J hJ=>by apply bc;intro Z;refine aA4 hJ fun a b c d Q4=>?_;clear hJ;subst Q4;apply Z;clear Z;exact(dW _ ([some (.d (cC p.1)),some (.d (.int (p.2:Int))),c,d]) rfl (dR (e_v rfl) rfl) (I2 _ _ rfl)))
  (fun p hp v hv J zz=>by
   refine X2 zz fun a b Q2=>?_;clear zz;subst Q2;obtain⟨w,s⟩:=p;have hpt:=(h.mem w s).mp hp;have hs3:=aAD hpt;have hv3:=(Wi.mp hv).1;have gt:eL .Gt (.int (M s v:Int)) (.int 0)=some (!Nat.beq (M s v) 0):=by
    show some (decide ((0:Int)<(M s v:Int)))=_;by_cases z:M s v=0
    ·rw[z];rfl
    ·rw[lU z,iX (by lia)];rfl
   have t:evT (aD 33) (.cmp .Gt (.sub (.sub (.v 0) (.bin .sub (.v 8) (.k (.int 1)))) (.bin .sub (.v 9) (.k (.int 1)))) (.k (.int 0))) (wSt M fin pl fs L (some (.d (.int (x:Int)))) (some (.d (.list (aB ([1,2,3].filter (fs.getD x 0).testBit)))))++[some (.d (cC w)),some (.d (.int (s:Int))),some (.d (.int (v:Int))),b])=some (!Nat.beq (M s v) 0,wSt M fin pl fs L (some (.d (.int (x:Int)))) (some (.d (.list (aB ([1,2,3].filter (fs.getD x 0).testBit)))))++[some (.d (cC w)),some (.d (.int (s:Int))),some (.d (.int (v:Int))),b]):=
    aV (pM (e_v rfl) rfl rfl hs3 hv3) rfl gt
   have ad:Af .add (cC w) (.tuple [.int (v:Int)])=some (cC (w++[v])):=by show(if(aB w).length+1<=1000000 then some (PyData.tuple (aB w++[.int (v:Int)])) else none)=_;have:=hpt.1;rw[aJ (by unfold aB;simp;lia),kQ];rfl
   refine(fH _ ([some (.d (cC w)),some (.d (.int (s:Int))),some (.d (.int (v:Int))),b]) rfl ?_ (I2 _ _ rfl) (fun _=>(xY _ (gK (aT (cW (e_v rfl) (gK (aT (e_v rfl) bH)) ad) (aT (pM (e_v rfl) rfl rfl hs3 hv3) bH))) _ _ rfl)));show gB _ _ _=some (!Nat.beq (M s v) 0,_)
   cases z:Nat.beq (M s v) 0 with
   |true=>rw[z] at t;exact fW t
   |false=>rw[z] at t;exact eV t cG)
 have e3:(L.flatMap fun p=>(([1,2,3].filter (fs.getD x 0).testBit).filter fun a=> !Nat.beq (M p.2 a) 0).map fun a=>xU (p.1++[a],M p.2 a))=(wD M (fs.getD x 0) L).map xU:=by unfold wD;rw[List.map_flatMap];refine bU (fun f=>L.flatMap f) (funext fun p=>?_);rw[List.map_map];rfl
 rw[e3] at e2;exact(I2 _ _ (aA (bP (cR e1 rfl)) (aA (bP (cR e2 rfl)) rfl)))
theorem Wj{r:Rg}(hr:r.Ok)(hm:Ms fs)(hn:fs.length<=3)(hp:∀x∈r.pl,x<fs.length):∃W,G 33 [.d (fP r.M),.d (.tuple (aB r.fin)),.d (.tuple (aB r.pl)),.d (.list (fs.map dm))]=some (aE W,[.d (fP r.M),.d (.tuple (aB r.fin)),.d (.tuple (aB r.pl)),.d (.list (fs.map dm))])/\Wds r fs W/\WOk r.pl W:=by
 apply bc;intro Z;have h4:=hr.len.2;refine aP (dA (f:=eG (aD 33) 1000 (.n 5) wIn) (m6:=fun(v:Nat)=>PyData.int (v:Int)) (all:=r.pl)
  (fun pre σ=>∃L j5 j6,σ=wSt r.M r.fin r.pl fs L j5 j6/\LOk r.M fs r.pl pre.length L)
  (fun pre x m0 σ e zz=>by
   refine sX zz fun L j5 j6 Q3 hL=>?_;clear zz;subst Q3;have hl:pre.length<r.pl.length:=by have:=bU List.length e;simp at this;lia
   have hxe:r.pl.getD pre.length 0=x:=by rw[<-e];simp
   refine X2 (Hg (M:=r.M) (fin:=r.fin) (pl:=r.pl) (j5:=j5) (j6:=j6) hm (hp x (gO e)) hn hL (iU (jM ‹_›) ‹_›)) fun a b q=>?_;refine(aH _ q (nA _ a b rfl ?_));have:=hL.step hr.m hl;rw[hxe] at this;rw[dI];exact this) r.pl [] (wSt r.M r.fin r.pl fs [([],1)] none none) rfl (nA _ none none rfl ⟨fun w s=>by
    constructor
    ·intro q;have q:(w,s)=([],1):=by simpa using q
     cases q
     exact(qF rfl (fun _=>1) rfl (fun k hk=>absurd hk (by simp)) (fun k _=>⟨by show 1<=1;decide,by show 1<=3;decide⟩) rfl)
    ·rintro ⟨hl,q,q0,_,_,qi⟩
     have:w=[]:=List.length_eq_zero_iff.mp hl;have:s=1:=by rw[<-qi];exact q0
     subst this;rw[‹w=[]›];simp,by simp⟩)) fun d7 h Q2=>?_;obtain⟨L,a5,a6,rfl,hL⟩:=Q2
 have hLl:L.length<=81:=by have h1:=hL.len;have h2:3^r.pl.length<=3^4:=Nat.pow_le_pow_right (by decide) h4;exact iU ‹_› ‹_›
 have e1:=bV (T:=aD 33) (m:=3) (l8:= .v 7) (tg:= .t [7,8]) (it:= .seq (.v 4)) (ifs:=[(.cmp .In (.v 8) (.v 1))]) (m6:=xU) (xs:=L) (c:=fun p=>r.fin.contains p.2) (g:=fun p=>cC p.1)
  (σ:=wSt r.M r.fin r.pl fs L a5 a6) (b9:=wSt r.M r.fin r.pl fs L a5 a6) (dR (e_v rfl) rfl) (by lia)
  (fun p hp J hJ=>by
   refine pN hJ fun a b c Q3=>?_;clear hJ;subst Q3;have t:evT (aD 33) (.cmp .In (.v 8) (.v 1)) (wSt r.M r.fin r.pl fs L a5 a6++[some (.d (cC p.1)),some (.d (.int (p.2:Int))),c])=some (r.fin.contains p.2,wSt r.M r.fin r.pl fs L a5 a6++[some (.d (cC p.1)),some (.d (.int (p.2:Int))),c]):=aV (e_v rfl) (e_v rfl) vL;refine(fH _ ([some (.d (cC p.1)),some (.d (.int (p.2:Int))),c]) rfl ?_ rfl (fun _=>(aH _ (e_v rfl) rfl)))
   cases z:r.fin.contains p.2 with
   |true=>rw[z] at t;exact eV t cG
   |false=>rw[z] at t;exact fW t)
 apply Z;clear Z;have e2:(L.filter fun p=>r.fin.contains p.2).map (fun p=>cC p.1)=((L.filter fun p=>r.fin.contains p.2).map Prod.fst).map cC:=by rw[List.map_map];rfl
 rw[e2] at e1;have mw:∀w,w∈(L.filter fun p=>r.fin.contains p.2).map Prod.fst↔∃s,aCq r.M fs r.pl r.pl.length w s/\s∈r.fin:=fun w=>by
  rw[eO];constructor
  ·rintro ⟨⟨w',s⟩,h,rfl⟩
   refine cK (eP.mp h) fun h1 h2=>?_;exact(aH s ((hL.mem _ _).mp h1) (by simpa using h2))
  ·rintro ⟨s,h1,h2⟩
   exact(aH (w,s) (eP.mpr ⟨(hL.mem _ _).mpr h1,by simpa using h2⟩) rfl)
 have fl:=gR (fun p:List Nat×Nat=>r.fin.contains p.2) L;refine(zZ ((L.filter fun p=>r.fin.contains p.2).map Prod.fst) ((gr G33 rfl (aA (bP (cR (iV (aT (gK (aT (gK bH) (aT rfl bH))) bH)) rfl)) (aA (eJ (dR (e_v rfl) rfl) h) (aW (cN (cR e1 rfl))))) rfl)) ⟨by rw[bT];lia,fun w=>?_⟩ (by rw[bT];lia) (fun w hw=>?_))
 ·rw[mw];constructor
  ·rintro ⟨s,⟨hl,q,q0,qs,qb,qi⟩,hf⟩
   exact(cD hl ⟨q,q0,fun k hk=>(qs k hk).1,fun k hk=>(qs k hk).2.2,qb,by rw[qi];exact hf⟩ (fun p hp=>(qs p hp).2.1))
  ·rintro ⟨hl,⟨q,h⟩,hb⟩
   exact(aH _ (qF hl q h.q0 (fun k hk=>(cD (h.lt k hk) (hb k hk) (h.next k hk))) h.st rfl) h.fin)
 ·apply bc;intro Z;refine aP ((mw w).mp hw) fun s Q1 hf=>tV Q1 fun hl q q0 qs qb qi=>?_;apply Z;clear Z;exact⟨hl,fun p hp=>by have:=(qs p hp).1;lia⟩
end
theorem G42:G 42=cU (aD 42) 1000 f42:=rfl
section
variable {r:Rg}{W:List (List Nat)}{fs D:List Nat}{S S1 S':Sto}{n0:List Int}{k:Nat}{es es':List Ent}
theorem xV(h:lM D es)(h2:lM (app D es) es'):lM D (es++es'):=by revert h2;refine Di (P:=fun es'=>lM (app D es) es'->lM D (es++es')) (fun _=>by simpa using h) (fun es' e ih h2=>?_) es';refine cZ (mT.mp h2) fun a b c=>?_;rw[<-List.append_assoc];rw[rD] at b;exact mT.mpr (cD (ih a) b (by rw[qC];exact c))
def lw(r:Rg)(W:List (List Nat))(n0:List Int)(x0 x2 x3 x5 x6 x7 x8 x11:Option V)(k:Nat)(S:Sto)(seen:Str)(j14 j15 j16 j17 j18:Option V):Sg:=
 [x0,some (.c (tp n0 k)),x2,x3,some (.d (.tuple (aB r.pl))),x5,x6,x7,x8,some S.v,some (.d (aE W)),x11,some r.v,some (.d (.str seen)),j14,j15,j16,j17,j18]
structure Mid(fs:List Nat)(S S1:Sto)(i:Nat):Prop where
 inv:Inv fs S1
 failed:S1.failed=false
 marks:∃ms,S1.marks=S.marks++ms/\ms.length=i/\(0<i->∃rest,ms=S.trail.length::rest)
 way:∃es,S1.trail=S.trail++es/\S1.doms=app S.doms es/\lM S.doms es
 zero:i=0->S1.trail=S.trail
noncomputable def Du:List St:=[.ite (.not (.val (.call 41 [.r 9,.r 1]))) [.ret (.k (.bool false))] []]
theorem Wk{x0 x2 x3 x5 x6 x7 x8 x11 j14 j15 j17 j18:Option V}{seen:Str}{n:Nat}(hI:Inv fs S)(hf:S.failed=false)(h1:1<=fs.length)(hm:S.marks.length<=5)(hn:n<=2)(hl:n0.length<=40)(hk:k<700):
  ∃S1 j17',evS (aD 42) 1000 (.for_ (.n 17) (.r1 (.v 16)) Du) (lw r W n0 x0 x2 x3 x5 x6 x7 x8 x11 k S seen j14 j15 (some (.d (.int (n:Int)))) j17 j18)=some (.next,lw r W n0 x0 x2 x3 x5 x6 x7 x8 x11 (k+3*n) S1 seen j14 j15 (some (.d (.int (n:Int)))) j17' j18)/\Mid fs S S1 n:=by
 apply bc;intro Z;refine Ac (dA (f:=eG (aD 42) 1000 (.n 17) Du) (m6:=fun(v:Nat)=>PyData.int ((0+v:Nat):Int)) (all:=List.range (n-0))
  (fun pre σ=>∃S1 j17,σ=lw r W n0 x0 x2 x3 x5 x6 x7 x8 x11 (k+3*pre.length) S1 seen j14 j15 (some (.d (.int (n:Int)))) j17 j18/\Mid fs S S1 pre.length)
  (fun pre x m0 σ e zz=>by
   refine fG zz fun S1 j17 Q2 hM=>?_;clear zz;subst Q2;refine fX e fun Q0 hx=>?_;subst Q0;refine eR hM.marks fun ms m1 m2 m3=>eR hM.way fun es t1 t2 t3=>eR (Hf (n0:=n0) (k:=k+3*pre.length) hM.inv h1 (by rw[m1];simp;lia) hl (by lia)) fun S2 d1 Q2 d3=>?_;obtain⟨w1,w2,es2,w3,w4,w5⟩:=Q2;have w2:S2.marks=S1.marks++[S1.trail.length]:=w2;have w3:S2.trail=S1.trail++es2:=w3;have w4:S2.doms=app S1.doms es2:=w4;have w5:lM S1.doms es2:=w5;refine(Ab _ (aA (bQ (q:=false) (iK (dY (bS (eB rfl (eB rfl aN rfl) rfl) (bZ (by decide) d1) rfl))) rfl) rfl) S2 (some (.d (.int ((0+pre.length:Nat):Int)))) ?_ ⟨w1,by rw[d3];exact hM.failed,(cY (ms++[S1.trail.length]) (by rw[w2,m1,List.append_assoc]) (by simp[m2]) (fun _=>?_)),(cY (es++es2) (by rw[w3,t1,List.append_assoc]) (by rw[w4,t2,qC]) (xV t3 (by rw[<-t2];exact w5))),fun z=>by rw[dI] at z;exact absurd z (by simp)⟩)
   ·rw[dI,kY,Nat.mul_add];rfl
   ·by_cases z:0<pre.length
    ·refine X1 (m3 z) fun rest Q1=>?_;clear m1 m3;subst Q1;exact⟨rest++[S1.trail.length],rfl⟩
    ·have hp:pre=[]:=List.length_eq_zero_iff.mp (by lia);have hms:ms=[]:=List.length_eq_zero_iff.mp (by rw[m2,hp];rfl);clear m1 m2 m3;subst hms;exact⟨[],by rw[hM.zero (by lia)];rfl⟩) (List.range (n-0)) [] (lw r W n0 x0 x2 x3 x5 x6 x7 x8 x11 k S seen j14 j15 (some (.d (.int (n:Int)))) j17 j18) rfl (hN S _ rfl ⟨hI,hf,(cY ([]) (by simp) rfl (fun h=>absurd h (by simp))),(cY ([]) (by simp) rfl (fun pre e m0 q=>by simp at q)),fun _=>rfl⟩)) fun d7 h S1 j17' Q4 hM=>?_;subst Q4
 rw[gQ,Nat.sub_zero] at hM;rw[<-fT,gQ,Nat.sub_zero] at h;apply Z;clear Z;exact(hN S1 j17' (eJ (vE (k:=(n:Int)) (e_v rfl) (by lia)) h) hM)
end
theorem aFj:eL .Eq (.str cP) (.str cP)=some true:=by kernel_rfl
theorem aFk:eL .Eq (.str iY) (.str cP)=some false:=by kernel_rfl
theorem aFl:eL .Eq (.str cP) (.str kG)=some false:=by kernel_rfl
theorem aFm:eL .Eq (.str iY) (.str kG)=some false:=by kernel_rfl
theorem aFn:eL .Eq (.str cP) (.str iY)=some false:=by kernel_rfl
theorem aFo:eL .Eq (.str iY) (.str iY)=some true:=by kernel_rfl
theorem aFp:eL .NotEq (.str cP) (.str cP)=some false:=by kernel_rfl
theorem aFq:eL .NotEq (.str cP) (.str kG)=some true:=by kernel_rfl
theorem aFr:eL .NotEq (.str iY) (.str kG)=some true:=by kernel_rfl
section
variable {r:Rg}{W:List (List Nat)}{fs D:List Nat}{S S1 S':Sto}{n0:List Int}{k:Nat}{es es':List Ent}
def zV:List St:=[.asg 18 (.call 40 [.r 9,.r 12,.e (.v 10),.e (.v 4)]),.ite (.cmp .Eq (.v 18) (.k (.str kG))) [.ret (.k (.bool false))] [],.ite (.cmp .Eq (.v 18) (.k (.str iY))) [.expr (.meth 10 9 [.e (.v 16)]),.ite (.or [(.cmp .NotEq (.call 38 [.r 9]) (.v 15)),(.val (.at 9 6)),(.cmp .NotEq (.call 40 [.r 9,.r 12,.e (.v 10),.e (.v 4)]) (.k (.str cP)))]) [.ret (.k (.bool false))] []] []]
def tQ:List St:=[.masg [15,16] [(.call 38 [.r 9]),(.bin .add (.k (.int 1)) (.call 32 [.r 1,.e (.k (.int 2))]))],.ite (.cmp .Eq (.v 13) (.k (.str cP))) (.for_ (.n 17) (.r1 (.v 16)) Du::zV) []]
structure aAE(r:Rg)(W:List (List Nat))(fs:List Nat)(i:Nat)(seen:Str)(S:Sto):Prop where
 inv:Inv fs S
 marks:S.marks.length<=2*i
 seen:(seen=cP/\S.failed=false/\Dt r W S.doms)\/seen=iY
theorem Wl{x0 x2 x3 x5 x6 x7 x8 x11 j14 j15 j16 j17 j18:Option V}{seen:Str}{i:Nat}(hC:Ctx r fs W)(hW:WOk r.pl W)(hT:Two fs)(hi:i<2)(hl:n0.length<=40)(hk:k<600)(h:aAE r W fs i seen S):
  ∃k' S' a14 a15 a16 a17 a18,eG (aD 42) 1000 (.n 14) tQ (lw r W n0 x0 x2 x3 x5 x6 x7 x8 x11 k S seen j14 j15 j16 j17 j18) (.int (i:Int))=some (.next,lw r W n0 x0 x2 x3 x5 x6 x7 x8 x11 k' S' seen a14 a15 a16 a17 a18)/\k'<=k+7/\aAE r W fs (i+1) seen S':=by
 have hTS:∀{S:Sto},Inv fs S->Two S.doms:=fun{S} h=>by unfold Two;rw[h.n];exact hT
 have h1:1<=fs.length:=by rcases hT with h|h<;>lia
 apply bc;intro Z;refine jK (m:=2) hl (by lia:k<900) (by decide) fun d hd dq=>?_;have s1:=oV h.inv.small (hTS h.inv);have ad:Af .add (.int 1) (.int (d:Int))=some (.int ((1+d:Nat):Int)):=by show some (PyData.int (1+(d:Int)))=_;rw[Int.natCast_add];rfl
 have hd2:evS (aD 42) 1000 (.masg [15,16] [(.call 38 [.r 9]),(.bin .add (.k (.int 1)) (.call 32 [.r 1,.e (.k (.int 2))]))]) (lw r W n0 x0 x2 x3 x5 x6 x7 x8 x11 k S seen (some (.d (.int (i:Int)))) j15 j16 j17 j18)=some (.next,lw r W n0 x0 x2 x3 x5 x6 x7 x8 x11 (k+1) S seen (some (.d (.int (i:Int)))) (some (.d (aI (diD S.doms)))) (some (.d (.int ((1+d:Nat):Int)))) j17 j18):=
  iM (bY (bS (eB rfl aN rfl) (bZ (by decide) s1) rfl) (bY (cW rfl (bS (eB rfl (bA rfl aN) rfl) (bZ (by decide) dq) rfl) ad) iL)) rfl
 apply Z;clear Z;rcases h.seen with⟨rfl,hf,hfix⟩|rfl
 ·apply bc;intro Z;refine fG (Wk (r:=r) (W:=W) (n0:=n0) (k:=k+1) (n:=1+d) (x0:=x0) (x2:=x2) (x3:=x3) (x5:=x5) (x6:=x6) (x7:=x7) (x8:=x8) (x11:=x11) (j14:=some (.d (.int (i:Int)))) (j15:=some (.d (aI (diD S.doms)))) (j17:=j17) (j18:=j18) (seen:=cP) h.inv hf h1 (by have:=h.marks;lia) (by lia) hl (by lia)) fun S1 j17' tq hM=>?_;refine eR hM.marks fun ms m1 m2 m3=>eR hM.way fun es t1 t2 t3=>?_;have pre1:∀{R:Option (Flow×Sg)},dC (aD 42) 1000 zV (lw r W n0 x0 x2 x3 x5 x6 x7 x8 x11 (k+1+3*(1+d)) S1 cP (some (.d (.int (i:Int)))) (some (.d (aI (diD S.doms)))) (some (.d (.int ((1+d:Nat):Int)))) j17' j18)=R->eG (aD 42) 1000 (.n 14) tQ (lw r W n0 x0 x2 x3 x5 x6 x7 x8 x11 k S cP j14 j15 j16 j17 j18) (.int (i:Int))=(match R with|some (.next,b9)=>some (.next,b9)|some (.ret d,b9)=>some (.ret d,b9)|none=>none):=fun{R} hR=>by
   show dC (aD 42) 1000 tQ (lw r W n0 x0 x2 x3 x5 x6 x7 x8 x11 k S cP (some (.d (.int (i:Int)))) j15 j16 j17 j18)=_;refine aA hd2 ?_;have e:evS (aD 42) 1000 (.ite (.cmp .Eq (.v 13) (.k (.str cP))) (.for_ (.n 17) (.r1 (.v 16)) Du::zV) []) (lw r W n0 x0 x2 x3 x5 x6 x7 x8 x11 (k+1) S cP (some (.d (.int (i:Int)))) (some (.d (aI (diD S.doms)))) (some (.d (.int ((1+d:Nat):Int)))) j17 j18)=R:=bQ (q:=true) (aV (e_v rfl) rfl aFj) (aA tq hR);show b2 (evS (aD 42) 1000 (.ite (.cmp .Eq (.v 13) (.k (.str cP))) (.for_ (.n 17) (.r1 (.v 16)) Du::zV) []) (lw r W n0 x0 x2 x3 x5 x6 x7 x8 x11 (k+1) S cP (some (.d (.int (i:Int)))) (some (.d (aI (diD S.doms)))) (some (.d (.int ((1+d:Nat):Int)))) j17 j18)) (fun fl b9=>nx fl b9 (dC (aD 42) 1000 []))=_;rw[e];rcases R with _|⟨_|_,_⟩<;>rfl
  apply Z;clear Z;rcases wC hC hW hT hM.inv hM.failed with⟨S2,aq,⟨w1,w2,_⟩,wf,wfix⟩|⟨S2,aq,⟨w1,w2,es2,w3,w4,w5⟩,_⟩
  ·refine⟨k+1+3*(1+d),S2,some (.d (.int (i:Int))),_,_,j17',some (.d (.str cP)),(pre1 (aA (bP (bS (eB rfl (eB rfl (bA (e_v rfl) (bA (e_v rfl) aN)) rfl) rfl) (bZ (by decide) aq) rfl)) (aA (bQ (q:=false) (aV (e_v rfl) rfl aFl) rfl) (aA (bQ (q:=false) (aV (e_v rfl) rfl aFn) rfl) rfl)))).trans rfl,by lia,⟨w1,?_,.inl ⟨rfl,wf,wfix⟩⟩⟩;rw[w2,m1,dI,m2];have:=h.marks;lia
  ·apply bc;intro Z;refine X1 (m3 (Nat.le_add_right _ _)) fun rest Q1=>?_;clear m3;subst Q1;have hft:S2.firsts=fs:=w1.firsts;have pq:=aCo (S:=S2) (D0:=S.doms) (pre:=S.trail) (es:=es++es2) (ms:=S.marks) (rest:=rest) (n:=1+d) w1.small (fun m hm=>by
    rw[hft] at hm;refine aP (zQ hm) fun x hx e=>?_;have nz:=h.inv.nz x hx;intro z;clear hm;subst z;refine nz ((eU (h.inv.md.get x)).mpr fun v hv=>?_);rw[<-fQ];intro b;have:=h.inv.sub x v (by rw[h.inv.n];exact hx) hv b;unfold bit at this;rw[e] at this;simp at this) (by rw[w2,m1]) (by simp at m2;lia) (by rw[w3,t1,List.append_assoc]) (by rw[w4,t2,qC]) (xV t3 (by rw[<-t2];exact w5))
   rw[hft] at pq;have hI3:Inv fs (⟨S.doms,fs,S.trail,S.marks,[],false,[]⟩:Sto):=⟨h.inv.n,rfl,h.inv.n3,h.inv.mf,h.inv.md,h.inv.sub,h.inv.nz,h.inv.cnt,gS _,h.inv.marks,gS _⟩;have s3:=oV hI3.small (hTS hI3);have ne:eL .NotEq (aI (diD S.doms)) (aI (diD S.doms))=some false:=(bU (fun z:Option Bool=>z.map (!·)) (Jw (hTS h.inv) rfl h.inv.md h.inv.md)).trans (by rw[iX rfl];rfl);apply Z;clear Z;rcases wC hC hW hT hI3 rfl with⟨S4,aq4,⟨v1,v2,_⟩,vf,vfix⟩|⟨S4,_,_,nf⟩
   ·refine⟨k+1+3*(1+d),S4,some (.d (.int (i:Int))),_,_,j17',some (.d (.str iY)),(pre1 (aA (bP (bS (eB rfl (eB rfl (bA (e_v rfl) (bA (e_v rfl) aN)) rfl) rfl) (bZ (by decide) aq) rfl)) (aA (bQ (q:=false) (aV (e_v rfl) rfl aFm) rfl) (aA (bQ (q:=true) (aV (e_v rfl) rfl aFo) (aA (oA (cB rfl rfl (bA (e_v rfl) aN) rfl (bZ (by decide) pq) rfl) rfl)
     (aA (bQ (q:=false) (qW (kX (aV (bS (eB rfl aN rfl) (bZ (by decide) s3) rfl) (e_v rfl) ne) (kX (dY (fK rfl)) (kX (aV (bS (eB rfl (eB rfl (bA (e_v rfl) (bA (e_v rfl) aN)) rfl) rfl) (bZ (by decide) aq4) rfl) rfl aFp) nY)))) rfl) rfl))) rfl)))).trans rfl,by lia,⟨v1,?_,.inl ⟨rfl,vf,vfix⟩⟩⟩
    rw[v2];have:=h.marks;show S.marks.length<=_;lia
   ·exact absurd hfix nf
 ·refine⟨k+1,S,some (.d (.int (i:Int))),_,_,j17,j18,aA hd2 (aA (bQ (q:=false) (aV (e_v rfl) rfl aFk) rfl) rfl),by lia,⟨h.inv,by have:=h.marks;lia,.inr rfl⟩⟩
end
section
variable {T:Tab}{σ b9:Sg}{ds:List D}{e:Ex}
theorem aDP{ks:List Str}{es:List Ex}(h:pQ T es σ=some (ds,b9)):evE T (.dct ks es) σ=some (.c (.ds (ks.zip ds)),b9):=by exact dG h
theorem Wm(h:evE T e σ=some (.d (.list ds),b9))(h2:ds.length<=1000000):evE T (.listOf e) σ=some (.c (.lst ds),b9):=by exact Ui h (aJ h2)
theorem oW{β γ:Type}{m:Nat}{l8:Ex}{tg:Tgt}{it:It}{m6:β->D}{xs:List β}{st:Nat->Sg}{c k0:Nat}{Pr:γ->Prop}{g:γ->D}(hlen:∀k,(st k).length=(st k0).length)(h:evI T it (st k0)=some (xs.map m6,st k0))(hl:xs.length<=1000)
  (step:∀x∈xs,∀k J,k<=k0+c*xs.length->J.length=m->∃y c5 J',Pr y/\iS (st k++J) tg (m6 x)=some c5/\evE T l8 c5=some (.d (g y),st (k+c)++J')/\J'.length=m):
  ∃ys:List γ,ys.length=xs.length/\(∀y∈ys,Pr y)/\evE T (.comp m l8 tg it []) (st k0)=some (.c (.lst (ys.map g)),st (k0+c*xs.length)):=by
 apply bc;intro Z;refine fG (tJ (f:=vF T l8 tg []) (m6:=m6) (all:=xs) (fun pre acc s=>∃(ys:List γ) (J:List (Option V)),ys.length=pre.length/\(∀y∈ys,Pr y)/\acc=ys.map g/\s=st (k0+c*pre.length)++J/\J.length=m) (fun pre x m0 acc s e hp=>by
  refine Ws hp fun ys J h2 h3 Q4 Q5 h4=>?_;clear hp;subst Q4;subst Q5;have hpl:pre.length<=xs.length:=by rw[<-e];simp
  refine Ad (step x (gO e) (k0+c*pre.length) J (by have:=Nat.mul_le_mul_left c hpl;exact Nat.add_le_add_left ‹_› _) h4) fun y c5 J' p1 p2 p3 p4=>?_;refine(hN _ _ (zH p2 cG p3 (by simp;lia)) (Dz (ys++[y]) J' (by simp[h2]) (fun z hz=>?_) (by simp) ?_ p4))
  ·rcases dF.mp hz with hz|hz
   ·exact h3 z hz
   ·rw[dJ.mp hz];exact p1
  ·rw[dI,kY,Nat.mul_add,Nat.mul_one,Nat.add_assoc]) xs [] [] (st k0++List.replicate m none) rfl (Dz ([]) _ rfl (fun y hy=>absurd hy (by simp)) rfl rfl (by simp))) fun acc s h1 Q3=>?_;obtain⟨ys,J,h2,h3,rfl,rfl,h4⟩:=Q3
 apply Z;clear Z;refine(cY ys h2 h3 (Um h h1 ?_));rw[<-hlen (k0+c*xs.length)];simp
end
def rZ(m:Nat):Prop:=m=14\/m=15\/m=30\/m=10
theorem aDQ{d:Nat}(h:d<4):∃m,rZ m/\nB gl0 (.int (d:Int))=some (dm m):=by exact lS h (fun h=>lS h (fun h=>lS h (fun h=>lS h l0 (aH 14 (.inl rfl) (by kernel_rfl))) (aH 15 (.inr (.inl rfl)) (by kernel_rfl))) (aH 30 (.inr (.inr (.inl rfl))) (by kernel_rfl))) (aH 10 (.inr (.inr (.inr rfl))) (by kernel_rfl))
theorem oX{m:Nat}(h:rZ m):m<=30/\m≠0:=by rcases h with h|h|h|h<;>lia
noncomputable def mOf(rows:List (List Nat))(s a:Nat):Nat:=(rows.getD (s-1) []).getD (a-1) 0
theorem Jz{rows:List (List Nat)}(h:rows.length=3)(h2:∀r∈rows,r.length=3/\∀v∈r,v<4):PyData.tuple (rows.map fun r=>PyData.tuple (aB r))=fP (mOf rows)/\∀s a,mOf rows s a<4:=by
 refine⟨?_,fun s a=>?_⟩
 ·apply bc;intro Z;refine pN h fun a b c Q3=>?_;clear h;subst Q3;refine pN (h2 a (by simp)).1 fun a1 a2 a3 Q3=>?_;subst Q3;refine pN (h2 b (by simp)).1 fun b1 b2 b3 Q3=>?_;subst Q3;refine pN (h2 c (by simp)).1 fun c1 c2 c3 Q3=>?_;subst Q3;apply Z;clear Z;rfl
 ·unfold mOf;rw[dS,dS]
  cases e:rows[s-1]? with
  |none=>simp
  |some r=>
   have:=(h2 r (dT e)).2;show(r[a-1]?).getD 0<4
   cases e2:r[a-1]? with
   |none=>simp
   |some v=>exact this v (dT e2)
noncomputable def iR(d:Nat):List Nat:=[1,2,3].filter fun s=>Nat.beq ((1+d)/2^(s-1)%2) 1
theorem Wn{d:Nat}:(∀s∈iR d,1<=s/\s<=3)/\(iR d).length<=3:=⟨fun s hs=>lR.mp (eP.mp hs).1,gR _ _⟩
theorem aCr{d:Nat}(h:d<7){x0 x1 x2 x3 x4 x5 x6 x8 x9 x10 x11 x12 x13 x14 x15 x16 x17 x18:Option V}:
  evE (aD 42) (.tupleOf (.frz (.comp 2 (.v 19) (.n 19) (.seq (.tup [(.k (.int 1)),(.k (.int 2)),(.k (.int 3))])) [(.cmp .Eq (.bin .mod (.bin .fdiv (.v 7) (.bin .pow (.k (.int 2)) (.bin .sub (.v 19) (.k (.int 1))))) (.k (.int 2))) (.k (.int 1)))]))) [x0,x1,x2,x3,x4,x5,x6,some (.d (.int ((1+d:Nat):Int))),x8,x9,x10,x11,x12,x13,x14,x15,x16,x17,x18]=
   some (.d (.tuple (aB (iR d))),[x0,x1,x2,x3,x4,x5,x6,some (.d (.int ((1+d:Nat):Int))),x8,x9,x10,x11,x12,x13,x14,x15,x16,x17,x18]):=by
 refine lS h (fun h=>lS h (fun h=>lS h (fun h=>lS h (fun h=>lS h (fun h=>lS h (fun h=>lS h l0 ?_) ?_) ?_) ?_) ?_) ?_) ?_<;>kernel_rfl
theorem tw3:∀a,a<3->∀b,b<3->∀c,c<3->(decide ((eS [a,b,c]).length<3)||(List.range 3).all fun p=>(List.range 3).all fun q=> !Nat.beq ([a,b,c].getD p 0) ([a,b,c].getD q 0)||Nat.beq p q)=true:=by decide
theorem tw4:∀a,a<3->∀b,b<3->∀c,c<3->∀d,d<3->decide ((eS [a,b,c,d]).length<4)=true:=by decide
theorem aDR{pl:List Nat}(hl:pl.length=3\/pl.length=4)(h3:∀x∈pl,x<3)(h:decide ((eS pl).length<pl.length)=false):∀p p',p<pl.length->p'<pl.length->pl.getD p 0=pl.getD p' 0->p=p':=by
 rcases hl with hl|hl
 ·refine pN hl fun a b c Q3=>?_;subst Q3;have q:=tw3 a (h3 a (by simp)) b (h3 b (by simp)) c (h3 c (by simp));have h:decide ((eS [a,b,c]).length<3)=false:=h;intro p p' hp hp' e;rw[h,Bool.false_or] at q;have q:=List.all_eq_true.mp (List.all_eq_true.mp q p (dU.mpr hp)) p' (dU.mpr hp');rw[e,Vr] at q;exact fM q
 ·refine aA4 hl fun a b c d Q4=>?_;subst Q4;have:=tw4 a (h3 a (by simp)) b (h3 b (by simp)) c (h3 c (by simp)) d (h3 d (by simp));have h:decide ((eS [a,b,c,d]).length<4)=false:=h;rw[this] at h;cases h
theorem Wo{n:Nat}:fA 0 (n:Int)=(List.range n).map fun(v:Nat)=>PyData.int (v:Int):=by have:=fT (a:=0) (b:=n);simp only[Nat.zero_add,Nat.sub_zero] at this;exact this
theorem xW{l:List Nat}:(aB l).length=l.length:=by unfold aB;simp
noncomputable abbrev Nn:Option V:=none
section
variable {n0:List Int}{x0:Option V}{k:Nat}
def stA(n0:List Int)(x0 x2 x3:Option V)(k:Nat):Sg:=[x0,some (.c (tp n0 k)),x2,x3,Nn,Nn,Nn,Nn,Nn,Nn,Nn,Nn,Nn,Nn,Nn,Nn,Nn,Nn,Nn]
def stB(n0:List Int)(x0 x2 x3 x4:Option V)(k:Nat):Sg:=[x0,some (.c (tp n0 k)),x2,x3,x4,Nn,Nn,Nn,Nn,Nn,Nn,Nn,Nn,Nn,Nn,Nn,Nn,Nn,Nn]
def stC(n0:List Int)(x0 x2 x3 x4 x5:Option V)(k:Nat):Sg:=[x0,some (.c (tp n0 k)),x2,x3,x4,x5,Nn,Nn,Nn,Nn,Nn,Nn,Nn,Nn,Nn,Nn,Nn,Nn,Nn]
theorem Np{count many:Nat}(hl:n0.length<=40)(hk:k<800)(hc:count<=4)(hm:1<=many):∃pl:List Nat,pl.length=count/\(∀x∈pl,x<many)/\
  evE (aD 42) (.tupleOf (.frz (.comp 2 (.call 32 [.r 1,.e (.v 3)]) (.n 19) (.r1 (.v 2)) []))) (stA n0 x0 (some (.d (.int (count:Int)))) (some (.d (.int (many:Int)))) k)=some (.d (.tuple (aB pl)),stA n0 x0 (some (.d (.int (count:Int)))) (some (.d (.int (many:Int)))) (k+count)):=by
 apply bc;intro Z;refine eR (oW (T:=aD 42) (m:=2) (l8:= .call 32 [.r 1,.e (.v 3)]) (tg:= .n 19) (it:= .r1 (.v 2)) (m6:=fun(v:Nat)=>PyData.int (v:Int)) (xs:=List.range count) (st:=stA n0 x0 (some (.d (.int (count:Int)))) (some (.d (.int (many:Int))))) (c:=1) (k0:=k) (Pr:=fun d=>d<many) (g:=fun(v:Nat)=>PyData.int (v:Int)) (fun _=>rfl) (by rw[<-Wo];exact vE (e_v rfl) (by lia)) (by simp;lia)
  (fun x hx j J hj hJ=>by refine eK hJ fun a b Q2=>?_;clear hJ;subst Q2;rw[gQ] at hj;refine jK (m:=many) hl (by lia:j<900) hm fun d hd dq=>?_;exact(wF d _ ([some (.d (.int (x:Int))),b]) hd rfl (bS (eB rfl (bA (e_v rfl) aN) rfl) (bZ (by decide) dq) rfl) rfl))) fun ys h1 h2 h3=>?_
 rw[gQ] at h1 h3;rw[Nat.one_mul] at h3;apply Z;clear Z;refine(cY ys h1 h2 (zF (cR h3 rfl) ?_));rw[xW];lia
theorem aAF{x2 x4:Option V}{many:Nat}(hl:n0.length<=40)(hk:k<800)(hm:many<=3):∃fs:List Nat,fs.length=many/\(∀m∈fs,rZ m)/\
  evE (aD 42) (.frz (.comp 2 (.sub (.gl 0) (.call 32 [.r 1,.e (.k (.int 4))])) (.n 19) (.r1 (.v 3)) [])) (stB n0 x0 x2 (some (.d (.int (many:Int)))) x4 k)=some (.d (.list (fs.map dm)),stB n0 x0 x2 (some (.d (.int (many:Int)))) x4 (k+many)):=by
 apply bc;intro Z;refine eR (oW (T:=aD 42) (m:=2) (l8:= .sub (.gl 0) (.call 32 [.r 1,.e (.k (.int 4))])) (tg:= .n 19) (it:= .r1 (.v 3)) (m6:=fun(v:Nat)=>PyData.int (v:Int)) (xs:=List.range many) (st:=stB n0 x0 x2 (some (.d (.int (many:Int)))) x4) (c:=1) (k0:=k) (Pr:=rZ) (g:=dm) (fun _=>rfl) (by rw[<-Wo];exact vE (e_v rfl) (by lia)) (by simp;lia)
  (fun x hx j J hj hJ=>by refine eK hJ fun a b Q2=>?_;clear hJ;subst Q2;rw[gQ] at hj;refine jK (m:=4) hl (by lia:j<900) (by decide) fun d hd dq=>?_;refine aP (aDQ hd) fun m hm' mq=>?_;exact(wF m _ ([some (.d (.int (x:Int))),b]) hm' rfl (bO rfl (bS (eB rfl (bA rfl aN) rfl) (bZ (by decide) dq) rfl) mq) rfl))) fun ys h1 h2 h3=>?_
 rw[gQ] at h1 h3;rw[Nat.one_mul] at h3;apply Z;clear Z;exact(cY ys h1 h2 (cR h3 rfl))
theorem aCs{σ0:Nat->Sg}{x2 x3 x4 x5 a b:Option V}(hl:n0.length<=40)(hk:k<800):∃row:List Nat,(row.length=3/\∀v∈row,v<4)/\
  evE (aD 42) (.tupleOf (.frz (.comp 2 (.call 32 [.r 1,.e (.k (.int 4))]) (.n 21) (.r1 (.k (.int 3))) []))) (stC n0 x0 x2 x3 x4 x5 k++[a,b])=some (.d (.tuple (aB row)),stC n0 x0 x2 x3 x4 x5 (k+3)++[a,b]):=by
 apply bc;intro Z;refine eR (oW (T:=aD 42) (m:=2) (l8:= .call 32 [.r 1,.e (.k (.int 4))]) (tg:= .n 21) (it:= .r1 (.k (.int 3))) (m6:=fun(v:Nat)=>PyData.int (v:Int)) (xs:=List.range 3) (st:=fun k=>stC n0 x0 x2 x3 x4 x5 k++[a,b]) (c:=1) (k0:=k) (Pr:=fun d=>d<4) (g:=fun(v:Nat)=>PyData.int (v:Int)) (fun _=>rfl) (vE (k:=3) rfl (by decide)) (by decide)
  (fun x hx j J hj hJ=>by refine eK hJ fun a' b' Q2=>?_;clear hJ;subst Q2;rw[gQ] at hj;refine jK (m:=4) hl (by lia:j<900) (by decide) fun d hd dq=>?_;exact(wF d _ ([some (.d (.int (x:Int))),b']) hd rfl (bS (eB rfl (bA rfl aN) rfl) (bZ (by decide) dq) rfl) rfl))) fun ys h1 h2 h3=>?_
 rw[gQ] at h1 h3;apply Z;clear Z;refine(aH ys ⟨h1,h2⟩ (zF (cR h3 rfl) ?_));rw[xW];lia
theorem Wp{x2 x3 x4 x5:Option V}(hl:n0.length<=40)(hk:k<700):∃rows:List (List Nat),rows.length=3/\(∀r∈rows,r.length=3/\∀v∈r,v<4)/\
  evE (aD 42) (.tupleOf (.frz (.comp 2 (.tupleOf (.frz (.comp 2 (.call 32 [.r 1,.e (.k (.int 4))]) (.n 21) (.r1 (.k (.int 3))) []))) (.n 19) (.r1 (.k (.int 3))) []))) (stC n0 x0 x2 x3 x4 x5 k)=some (.d (fP (mOf rows)),stC n0 x0 x2 x3 x4 x5 (k+9)):=by
 apply bc;intro Z;refine eR (oW (T:=aD 42) (m:=2) (l8:= .tupleOf (.frz (.comp 2 (.call 32 [.r 1,.e (.k (.int 4))]) (.n 21) (.r1 (.k (.int 3))) []))) (tg:= .n 19) (it:= .r1 (.k (.int 3))) (m6:=fun(v:Nat)=>PyData.int (v:Int)) (xs:=List.range 3) (st:=stC n0 x0 x2 x3 x4 x5) (c:=3) (k0:=k) (Pr:=fun r:List Nat=>r.length=3/\∀v∈r,v<4) (g:=fun r=> .tuple (aB r)) (fun _=>rfl) (vE (k:=3) rfl (by decide)) (by decide)
  (fun x hx j J hj hJ=>by refine eK hJ fun a' b' Q2=>?_;clear hJ;subst Q2;rw[gQ] at hj;refine aP (aCs (σ0:=fun _=>[]) (x0:=x0) (x2:=x2) (x3:=x3) (x4:=x4) (x5:=x5) (a:=some (.d (.int (x:Int)))) (b:=b') hl (by lia:j<800)) fun row hr rq=>?_;exact(wF row _ _ hr rfl rq rfl))) fun ys h1 h2 h3=>?_
 rw[gQ] at h1 h3;refine cK (Jz h1 h2) fun r1 r2=>?_;apply Z;clear Z;refine(cY ys h1 h2 ?_);rw[<-r1];refine zF (cR h3 rfl) ?_;rw[bT];lia
def vSt(n0:List Int)(x0 x2 x3 x4 x5 x6 x7 x8 x10:Option V)(k:Nat)(S:Sto)(j11:Option V):Sg:=[x0,some (.c (tp n0 k)),x2,x3,x4,x5,x6,x7,x8,some S.v,x10,j11,Nn,Nn,Nn,Nn,Nn,Nn,Nn]
theorem aAG{x2 x3 x4 x6 x7 x8 x10:Option V}{fs:List Nat}(h3:fs.length<=3)(hf:∀m∈fs,rZ m):∃j11,evS (aD 42) 1000 (.for_ (.n 11) (.seq (.v 5)) [.expr (.meth 1 9 [.e (.v 11)])]) (vSt n0 x0 x2 x3 x4 (some (.d (.list (fs.map dm)))) x6 x7 x8 x10 k aAl Nn)=some (.next,vSt n0 x0 x2 x3 x4 (some (.d (.list (fs.map dm)))) x6 x7 x8 x10 k ⟨fs,fs,[],[],[],false,[]⟩ j11):=by
 apply bc;intro Z;refine Dw (dA (f:=eG (aD 42) 1000 (.n 11) [.expr (.meth 1 9 [.e (.v 11)])]) (m6:=dm) (all:=fs)
  (fun pre σ=>∃j11,σ=vSt n0 x0 x2 x3 x4 (some (.d (.list (fs.map dm)))) x6 x7 x8 x10 k ⟨pre,pre,[],[],[],false,[]⟩ j11)
  (fun pre m m0 σ e zz=>by
   refine X1 zz fun j11 Q1=>?_;clear zz;subst Q1;have hl:pre.length<=fs.length:=by rw[<-e];simp
   refine cK (oX (hf m (gO e))) fun b1 b2=>?_;have nv:=Mx (S:=⟨pre,pre,[],[],[],false,[]⟩) (m:=m) (by show pre.length<=100;lia) (by show pre.length<=100;lia) (by lia) b2;exact(xX _ (aA (oA (cB rfl rfl (bA (e_v rfl) aN) rfl (bZ (by decide) nv) rfl) rfl) rfl) _ rfl)) fs [] (vSt n0 x0 x2 x3 x4 (some (.d (.list (fs.map dm)))) x6 x7 x8 x10 k aAl Nn) rfl ⟨_,rfl⟩) fun d7 h j11 Q3=>?_;subst Q3
 apply Z;clear Z;exact⟨j11,eJ (dR (e_v rfl) rfl) h⟩
end
theorem aCt(ns:List Int)(hns:ns.length<=63):∃m7,G 42 [.d (.list (ns.map .int))]=some (.bool true,m7):=by
 have hl:(ns.take 40).length<=40:=by simp;lia
 generalize ht:ns.take 40=n0 at hl;apply bc;intro Z;have c0:evS (aD 42) 1000 (.asg 1 (.dct [lX,sK] [(.frz (.listOf (.frz (.slTo (.v 0) (.k (.int 40)))))),(.k (.int 0))])) [some (.d (.list (ns.map .int))),Nn,Nn,Nn,Nn,Nn,Nn,Nn,Nn,Nn,Nn,Nn,Nn,Nn,Nn,Nn,Nn,Nn,Nn]=some (.next,[some (.d (.list (ns.map .int))),some (.c (tp n0 0)),Nn,Nn,Nn,Nn,Nn,Nn,Nn,Nn,Nn,Nn,Nn,Nn,Nn,Nn,Nn,Nn,Nn]):=by have e1:=bP (n:=1000) (i:=1) (aDP (T:=aD 42) (ks:=[lX,sK]) (aT (cR (Wm (cR (aB0 (k:=40) (ds:=ns.map .int) (σ:=[some (.d (.list (ns.map .int))),Nn,Nn,Nn,Nn,Nn,Nn,Nn,Nn,Nn,Nn,Nn,Nn,Nn,Nn,Nn,Nn,Nn,Nn]) (e_v (i:=0) rfl) (b:= .k (.int 40)) rfl (cD (by decide) (by decide) (by simp;lia))) rfl) (by simp;lia)) rfl) (aT (e:= .k (.int 0)) rfl bH)));rw[show(40:Int).toNat=40 from rfl,<-List.map_take,ht] at e1;exact e1
 refine jK (n0:=n0) (k:=0) (m:=2) hl (by decide) (by decide) fun d1 hd1 dq1=>?_;refine jK (n0:=n0) (k:=0+1) (m:=2) hl (by decide) (by decide) fun d2 hd2 dq2=>?_;have ad:∀(a d:Nat),Af .add (.int (a:Int)) (.int (d:Int))=some (.int ((a+d:Nat):Int)):=fun a d=>by show some (PyData.int ((a:Int)+(d:Int)))=_;rw[Int.natCast_add]
 have hc1:3+d1<=4:=by lia
 have hc2:2+d2<=3:=by lia
 refine eR (Np (n0:=n0) (x0:=some (.d (.list (ns.map .int)))) (k:=2) (count:=3+d1) (many:=2+d2) hl (by decide) hc1 (by lia)) fun pl pl1 pl2 plq=>?_;refine eR (aAF (n0:=n0) (x0:=some (.d (.list (ns.map .int)))) (x2:=some (.d (.int ((3+d1:Nat):Int)))) (x4:=some (.d (.tuple (aB pl)))) (k:=2+(3+d1)) (many:=2+d2) hl (by lia) hc2) fun fs fs1 fs2 fsq=>?_;refine eR (Wp (n0:=n0) (x0:=some (.d (.list (ns.map .int)))) (x2:=some (.d (.int ((3+d1:Nat):Int)))) (x3:=some (.d (.int ((2+d2:Nat):Int)))) (x4:=some (.d (.tuple (aB pl)))) (x5:=some (.d (.list (fs.map dm)))) (k:=2+(3+d1)+(2+d2)) hl (by lia)) fun rows rw1 rw2 rwq=>?_;have hM4:=(Jz rw1 rw2).2;refine jK (n0:=n0) (k:=2+(3+d1)+(2+d2)+9) (m:=7) hl (by lia) (by decide) fun d3 hd3 dq3=>?_;apply Z;clear Z;generalize hk:2+(3+d1)+(2+d2)+9+1=k at dq3;have hkb:k<=100:=by lia
 have hfs3:fs.length<=3:=by lia
 have hms:Ms fs:=fun m hm=>by have:=oX (fs2 m hm);lia
 have hok:(⟨mOf rows,pl,iR d3,decide ((eS pl).length<pl.length)⟩:Rg).Ok:=⟨hM4,⟨by show 1<=pl.length;lia,by show pl.length<=4;lia⟩,fun x hx=>by have:=pl2 x hx;exact nE ‹_› ‹_›,Wn.1,Wn.2⟩;have hpl:∀x∈pl,x<fs.length:=fun x hx=>by have:=pl2 x hx;lia
 apply bc;intro Z;refine eR (Wj hok hms hfs3 hpl) fun W wq hW1 hW2=>?_;have rq:=aCp (M:=mOf rows) (pl:=pl) (fin:=iR d3) (by lia) (fun x hx=>by have:=pl2 x hx;lia);have hC:Ctx ⟨mOf rows,pl,iR d3,decide ((eS pl).length<pl.length)⟩ fs W:=⟨hok,hW1,hpl,fun h=>aDR (pl:=pl) (by lia) (fun x hx=>by have:=pl2 x hx;exact nE ‹_› ‹_›) h⟩;apply Z;clear Z;generalize hr:(⟨mOf rows,pl,iR d3,decide ((eS pl).length<pl.length)⟩:Rg)=r at hok wq hW1 hW2 hC rq;have hrM:r.M=mOf rows:=by rw[<-hr]
 have hrp:r.pl=pl:=by rw[<-hr]
 have hrf:r.fin=iR d3:=by rw[<-hr]
 rw[hrM,hrp,hrf] at wq;rw[hrp] at hW2;have hT:Two fs:=by unfold Two;lia
 apply bc;intro Z;have hI:Inv fs ⟨fs,fs,[],[],[],false,[]⟩:=⟨rfl,rfl,hfs3,hms,hms,fun _ _ _ _ h=>h,fun x hx z=>(oX (fs2 _ (Vo hx))).2 z,by
  have:∀l:List Nat,(∀m∈l,rZ m)->l.sum<=30*l.length:=fun l=>by
   induction l with
   |nil=>intro _;exact eQ _
   |cons a l ih=>
    intro h;have h1:=(oX (h a (by simp))).1;have h2:=ih fun m hm=>h m (by simp[hm]);simp;lia
  have:=this fs fs2;show 0+fs.sum<=100;lia,gS _,gS _,gS _⟩
 refine X1 (aAG (n0:=n0) (x0:=some (.d (.list (ns.map .int)))) (x2:=some (.d (.int ((3+d1:Nat):Int)))) (x3:=some (.d (.int ((2+d2:Nat):Int)))) (x4:=some (.d (.tuple (aB pl)))) (x6:=some (.d (fP (mOf rows)))) (x7:=some (.d (.int ((1+d3:Nat):Int)))) (x8:=some (.d (.tuple (aB (iR d3))))) (x10:=some (.d (aE W))) (k:=k) hfs3 fs2) fun j11 vq=>?_;have asked:∃S seen,G 40 [(⟨fs,fs,[],[],[],false,[]⟩:Sto).v,r.v,.d (aE W),.d (.tuple (aB pl))]=some (.str seen,[S.v,r.v,.d (aE W),.d (.tuple (aB pl))])/\aAE r W fs 0 seen S:=by
  rcases wC hC (by rw[hrp];exact hW2) hT hI rfl with⟨S,aq,⟨w1,w2,_⟩,wf,wx⟩|⟨S,aq,⟨w1,w2,_⟩,_⟩
  ·rw[hrp] at aq;exact(hN S _ aq ⟨w1,by rw[w2];exact gS _,.inl (cD rfl wf wx)⟩)
  ·rw[hrp] at aq;exact(hN S _ aq ⟨w1,by rw[w2];exact gS _,.inr rfl⟩)
 refine fG asked fun S seen aq hS=>?_;obtain⟨d7,lq,k',S',a14,a15,a16,a17,a18,rfl,_,hS'⟩:=dA (f:=eG (aD 42) 1000 (.n 14) tQ) (m6:=fun(v:Nat)=>PyData.int (v:Int)) (all:=List.range 2)
  (fun pre σ=>∃k' S' a14 a15 a16 a17 a18,σ=lw r W n0 (some (.d (.list (ns.map .int)))) (some (.d (.int ((3+d1:Nat):Int)))) (some (.d (.int ((2+d2:Nat):Int)))) (some (.d (.list (fs.map dm)))) (some (.d (fP (mOf rows)))) (some (.d (.int ((1+d3:Nat):Int)))) (some (.d (.tuple (aB (iR d3))))) j11 k' S' seen a14 a15 a16 a17 a18/\k'<=100+7*pre.length/\aAE r W fs pre.length seen S')
  (fun pre x m0 σ e zz=>by obtain⟨k',S',a14,a15,a16,a17,a18,rfl,hk',hS'⟩:=zz;refine fX e fun Q0 hx=>?_;subst Q0;obtain⟨k2,S2,b14,b15,b16,b17,b18,q,hk2,hS2⟩:=Wl (x0:=some (.d (.list (ns.map .int)))) (x2:=some (.d (.int ((3+d1:Nat):Int)))) (x3:=some (.d (.int ((2+d2:Nat):Int)))) (x5:=some (.d (.list (fs.map dm)))) (x6:=some (.d (fP (mOf rows)))) (x7:=some (.d (.int ((1+d3:Nat):Int)))) (x8:=some (.d (.tuple (aB (iR d3))))) (x11:=j11) (j14:=a14) (j15:=a15) (j16:=a16) (j17:=a17) (j18:=a18) (n0:=n0) (k:=k') hC (by rw[hrp];exact hW2) hT hx hl (by lia) hS';exact⟨_,q,k2,S2,b14,b15,b16,b17,b18,rfl,by rw[dI,kY];lia,by rw[dI];exact hS2⟩) (List.range 2) [] (lw r W n0 (some (.d (.list (ns.map .int)))) (some (.d (.int ((3+d1:Nat):Int)))) (some (.d (.int ((2+d2:Nat):Int)))) (some (.d (.list (fs.map dm)))) (some (.d (fP (mOf rows)))) (some (.d (.int ((1+d3:Nat):Int)))) (some (.d (.tuple (aB (iR d3))))) j11 k S seen Nn Nn Nn Nn Nn) rfl ⟨_,_,_,_,_,_,_,rfl,by lia,hS⟩
 have fin:eL .NotEq (.str seen) (.str kG)=some true:=by
  rcases hS.seen with⟨rfl,_⟩|rfl
  ·exact aFq
  ·exact aFr
 have g2:evS (aD 42) 1000 (.masg [2,3] [(.bin .add (.k (.int 3)) (.call 32 [.r 1,.e (.k (.int 2))])),(.bin .add (.k (.int 2)) (.call 32 [.r 1,.e (.k (.int 2))]))]) [some (.d (.list (ns.map .int))),some (.c (tp n0 0)),Nn,Nn,Nn,Nn,Nn,Nn,Nn,Nn,Nn,Nn,Nn,Nn,Nn,Nn,Nn,Nn,Nn]=some (.next,stA n0 (some (.d (.list (ns.map .int)))) (some (.d (.int ((3+d1:Nat):Int)))) (some (.d (.int ((2+d2:Nat):Int)))) 2):=
  iM (bY (cW rfl (bS (eB rfl (bA rfl aN) rfl) (bZ (by decide) dq1) rfl) (ad 3 d1)) (bY (cW rfl (bS (eB rfl (bA rfl aN) rfl) (bZ (by decide) dq2) rfl) (ad 2 d2)) iL)) rfl
 have g7:evS (aD 42) 1000 (.asg 7 (.bin .add (.k (.int 1)) (.call 32 [.r 1,.e (.k (.int 7))]))) [some (.d (.list (ns.map .int))),some (.c (tp n0 (2+(3+d1)+(2+d2)+9))),some (.d (.int ((3+d1:Nat):Int))),some (.d (.int ((2+d2:Nat):Int))),some (.d (.tuple (aB pl))),some (.d (.list (fs.map dm))),some (.d (fP (mOf rows))),Nn,Nn,Nn,Nn,Nn,Nn,Nn,Nn,Nn,Nn,Nn,Nn]=some (.next,[some (.d (.list (ns.map .int))),some (.c (tp n0 k)),some (.d (.int ((3+d1:Nat):Int))),some (.d (.int ((2+d2:Nat):Int))),some (.d (.tuple (aB pl))),some (.d (.list (fs.map dm))),some (.d (fP (mOf rows))),some (.d (.int ((1+d3:Nat):Int))),Nn,Nn,Nn,Nn,Nn,Nn,Nn,Nn,Nn,Nn,Nn]):=
  bP (i:=7) (cW (σ:=[some (.d (.list (ns.map .int))),some (.c (tp n0 (2+(3+d1)+(2+d2)+9))),some (.d (.int ((3+d1:Nat):Int))),some (.d (.int ((2+d2:Nat):Int))),some (.d (.tuple (aB pl))),some (.d (.list (fs.map dm))),some (.d (fP (mOf rows))),Nn,Nn,Nn,Nn,Nn,Nn,Nn,Nn,Nn,Nn,Nn,Nn]) (a:= .k (.int 1)) rfl (bS (f:=32) (eB (i:=1) rfl (bA (e:= .k (.int 7)) rfl aN) rfl) ((mV (mQ (k:=42) (j:=32) (by decide)) _).trans dq3) rfl) (ad 1 d3))
 have g9:evS (aD 42) 1000 (.masg [9,10] [(.new 0 []),(.call 33 [.e (.v 6),.e (.v 8),.e (.v 4),.e (.v 5)])]) [some (.d (.list (ns.map .int))),some (.c (tp n0 k)),some (.d (.int ((3+d1:Nat):Int))),some (.d (.int ((2+d2:Nat):Int))),some (.d (.tuple (aB pl))),some (.d (.list (fs.map dm))),some (.d (fP (mOf rows))),some (.d (.int ((1+d3:Nat):Int))),some (.d (.tuple (aB (iR d3)))),Nn,Nn,Nn,Nn,Nn,Nn,Nn,Nn,Nn,Nn]=some (.next,vSt n0 (some (.d (.list (ns.map .int)))) (some (.d (.int ((3+d1:Nat):Int)))) (some (.d (.int ((2+d2:Nat):Int)))) (some (.d (.tuple (aB pl)))) (some (.d (.list (fs.map dm)))) (some (.d (fP (mOf rows)))) (some (.d (.int ((1+d3:Nat):Int)))) (some (.d (.tuple (aB (iR d3))))) (some (.d (aE W))) k aAl Nn):=
  iM (bY (aA3 (cl:=0) (f:=9) rfl bH (bZ (by decide) aAm)) (bY (bS (bA (e_v rfl) (bA (e_v rfl) (bA (e_v rfl) (bA (e_v rfl) aN)))) (bZ (by decide) wq) rfl) iL)) rfl
 have g12:evS (aD 42) 1000 (.asg 12 (.new 1 [(.v 4),(.k (.int 3)),(.k (.int 3)),(.v 6),(.k (.int 1)),(.v 8)])) (vSt n0 (some (.d (.list (ns.map .int)))) (some (.d (.int ((3+d1:Nat):Int)))) (some (.d (.int ((2+d2:Nat):Int)))) (some (.d (.tuple (aB pl)))) (some (.d (.list (fs.map dm)))) (some (.d (fP (mOf rows)))) (some (.d (.int ((1+d3:Nat):Int)))) (some (.d (.tuple (aB (iR d3))))) (some (.d (aE W))) k ⟨fs,fs,[],[],[],false,[]⟩ j11)=some (.next,(vSt n0 (some (.d (.list (ns.map .int)))) (some (.d (.int ((3+d1:Nat):Int)))) (some (.d (.int ((2+d2:Nat):Int)))) (some (.d (.tuple (aB pl)))) (some (.d (.list (fs.map dm)))) (some (.d (fP (mOf rows)))) (some (.d (.int ((1+d3:Nat):Int)))) (some (.d (.tuple (aB (iR d3))))) (some (.d (aE W))) k ⟨fs,fs,[],[],[],false,[]⟩ j11).put 12 r.v):=
  bP (aA3 (cl:=1) (f:=21) rfl (aT (e_v rfl) (aT rfl (aT rfl (aT (e_v rfl) (aT rfl (aT (e_v rfl) bH)))))) (bZ (by decide) rq))
 have g13:evS (aD 42) 1000 (.asg 13 (.call 40 [.r 9,.r 12,.e (.v 10),.e (.v 4)])) ((vSt n0 (some (.d (.list (ns.map .int)))) (some (.d (.int ((3+d1:Nat):Int)))) (some (.d (.int ((2+d2:Nat):Int)))) (some (.d (.tuple (aB pl)))) (some (.d (.list (fs.map dm)))) (some (.d (fP (mOf rows)))) (some (.d (.int ((1+d3:Nat):Int)))) (some (.d (.tuple (aB (iR d3))))) (some (.d (aE W))) k ⟨fs,fs,[],[],[],false,[]⟩ j11).put 12 r.v)=some (.next,lw r W n0 (some (.d (.list (ns.map .int)))) (some (.d (.int ((3+d1:Nat):Int)))) (some (.d (.int ((2+d2:Nat):Int)))) (some (.d (.list (fs.map dm)))) (some (.d (fP (mOf rows)))) (some (.d (.int ((1+d3:Nat):Int)))) (some (.d (.tuple (aB (iR d3))))) j11 k S seen Nn Nn Nn Nn Nn):=by have e:=bP (n:=1000) (i:=13) (bS (T:=aD 42) (f:=40) (σ:=(vSt n0 (some (.d (.list (ns.map .int)))) (some (.d (.int ((3+d1:Nat):Int)))) (some (.d (.int ((2+d2:Nat):Int)))) (some (.d (.tuple (aB pl)))) (some (.d (.list (fs.map dm)))) (some (.d (fP (mOf rows)))) (some (.d (.int ((1+d3:Nat):Int)))) (some (.d (.tuple (aB (iR d3))))) (some (.d (aE W))) k ⟨fs,fs,[],[],[],false,[]⟩ j11).put 12 r.v) (eB (i:=9) rfl (eB (i:=12) rfl (bA (e:= .v 10) (e_v rfl) (bA (e:= .v 4) (e_v rfl) aN)) rfl) rfl) (bZ (by decide) aq) rfl);refine e.trans ?_;unfold lw;rw[hrp];rfl
 apply Z;clear Z;exact⟨_,(gr G42 rfl (aA c0 (aA g2 (aA (bP plq) (aA (bP fsq) (aA (bP rwq) (aA g7 (aA (bP (aCr hd3)) (aA g9 (aA vq (aA g12 (aA g13 (aA (eJ (vE (k:=2) rfl (by decide)) lq) (aW (cN (gZ (e_v rfl) rfl fin))))))))))))))) rfl)⟩
theorem aCu(ns:List Int)(hns:ns.length<=63):∃m7,(aD 43).fn 42 [.d (.list (ns.map .int))]=some (.bool true,m7):=by refine X1 (aCt ns hns) fun m7 h=>?_;exact⟨m7,bZ (by decide) h⟩
end Mine
end
theorem PySem.Challenge.cw_pc0048_01_holds : PySem.Challenge.rw_pc0048_01.Holds :=
 Mine.aBY Mine.aCu
