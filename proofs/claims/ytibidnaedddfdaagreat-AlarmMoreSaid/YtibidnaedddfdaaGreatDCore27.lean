import Derived.Test.YtibidnaedddfdaaGreatDCore22
namespace Go.Proofs.YtibidnaedddfdaaGreat
set_option linter.all false
open Go.RowKit
def cN {α}(l:List α) (i:Int):Option (List α):=if 0≤i∧i≤l.length∧0<l.length then some (l.take i.toNat) else none
def cO {α}(l:List α) (i:Int):Option (List α):=if 0≤i∧i<l.length then some (l.drop i.toNat) else none
section
variable {P:Program}{ops:Array Oper}{C:World→Prop}{Q:Act→Prop}{n:FN}{m m':SM}{rest:List Oper}
variable {d:Nat}{ty:TypeId}{pos:String}{af:Array Edge}{X Y Z:Operand}{t:TypeId}{kd:IntKind}{v p:Value}{S:Nat→Prop}{h:BB}
def Sl.ne {α}{r:B7 α}{l:List α}(k:Sl S h r v l) (h0:0<l.length):∃(b o cap:Nat),v= .slice (some ⟨b,o,none⟩) l.length cap∧l.length≤cap∧cap≤maxLen∧∀i x,l[i]? =some x→Pt S h r (.pointer (some ⟨b,o+i*r.sz,none⟩)) x:=by
 rcases k with ⟨_,rfl⟩|⟨a,cap,h1,h4,h5,h6⟩
 ·cases h0
 ·have c:=(h6 0 l[0] (by simp [h0])).1
  obtain⟨b,o,g⟩:=a
  simp only at c
  subst c
  exact⟨b,o,cap,h1,h4,h5,λi x d=>(h6 i x d).2⟩
def YT {α}{r:B7 α}{e:TypeId}{l g:List α}{y:Int}(p:CE m X=some v) (q:CE m Y=some (.int kd y)) (k0:Sl S h r v l) (s:JZ P t e r.sz=true) (a:cN l y=some g) (hd:Nat.blt d n.1=true)
  (k:∀u,Sl S h r u g→QF P ops C Q rest n ((d,u)::m)):QF P ops C Q (⟨some d,.slice t X none (some Y) none,ty,pos,af,none⟩::rest) n m:=by
 unfold cN at a
 split at a
 ·rename_i w
  obtain⟨D,F,z⟩:=w
  cases a
  obtain⟨b,o,cap,rfl,G,A,B⟩:=k0.ne z
  refine Tc p q (j:=y.toNat) (by omega) s (by omega) hd (k _ (.inr ⟨⟨b,o,none⟩,cap,?_,?_,A,λi x c=>⟨rfl,?_⟩⟩))
  ·rw[kH,Nat.min_eq_left (by omega)]
  ·rw[kH];omega
  ·rw[lZ] at c
   split at c
   ·exact B i x c
   ·cases c
 ·cases a
def YU {α}{r:B7 α}{e:TypeId}{l c:List α}{y:Int}(p:CE m X=some v) (q:CE m Y=some (.int kd y)) (k0:Sl S h r v l) (s:JZ P t e r.sz=true) (a:cO l y=some c) (hd:Nat.blt d n.1=true)
  (k:∀u,Sl S h r u c→QF P ops C Q rest n ((d,u)::m)):QF P ops C Q (⟨some d,.slice t X (some Y) none none,ty,pos,af,none⟩::rest) n m:=by
 unfold cO at a
 split at a
 ·rename_i w
  obtain⟨A,B⟩:=w
  cases a
  obtain⟨b,o,cap,rfl,D,F,z⟩:=k0.ne (by omega)
  refine MF p q (j:=y.toNat) (by omega) s (by omega) (by omega) hd (k _ (.inr ⟨⟨b,o+y.toNat*r.sz,none⟩,cap-y.toNat,?_,?_,by omega,λi x g=>⟨rfl,?_⟩⟩))
  ·rw[kK]
  ·rw[kK];omega
  ·rw[lD] at g
   have:=z _ x g
   rw[kA,←lS] at this
   exact this
 ·cases a
end
end Go.Proofs.YtibidnaedddfdaaGreat
namespace Go.Proofs.YtibidnaedddfdaaGreat
set_option linter.all false
open Go.RowKit
def fR {α}(r:B7 α) (e:TypeId):List Value→List (List α)→List HP
 |u::a,l::b=>OS r e u l::fR r e a b
 |_,_=>[]
section
variable {α:Type}{r:B7 α}{e T:TypeId}{v u:Value}{l:List α}{vs:List Value}{ll:List (List α)}{S F:Nat→Prop}{h:BB}{L L2:List HP}
def fR.pick:∀{vs:List Value}{ll:List (List α)}{i:Nat}{u:Value}{l:List α},vs[i]? =some u→ll[i]? =some l→
  ∃M,Ml (fR r e vs ll) (OS r e u l) M∧∀c d,Ml (fR r e (vs.set i c) (ll.set i d)) (OS r e c d) M
 |[],_,_,_,_,a,_=>by simp at a
 |_::_,[],_,_,_,_,b=>by simp at b
 |g::j,k::m,0,u,l,a,b=>by
  simp only[lE,jU] at a b
  subst a;subst b
  exact⟨_,.head,λ_ _=> .head⟩
 |g::j,k::m,i+1,u,l,a,b=>by
  simp only[lF] at a b
  obtain⟨M,p,q⟩:=fR.pick a b
  exact⟨_,.tail p,λc d=> .tail (q c d)⟩
end
end Go.Proofs.YtibidnaedddfdaaGreat
namespace Go.Proofs.YtibidnaedddfdaaGreat
set_option linter.all false
open Go.RowKit
abbrev fJ (a:Type):=(Nat→Prop)→BB→Value→a→Prop
def B7.fnr {o p:Type}(P:Program) (AR:Rj o) (j:fJ p):B7 (o→Option p) where
 sz:=1
 ag:=false
 rd:=λS h cs q=>∃(f:FuncId) (a:Array Value),cs=[.func (.func f) #[] a]∧Br P f=true∧∀(S':Nat→Prop) (h':BB),(∀b,S b→S' b)→(∀b,S b→h'[b]? =h[b]?)→∀L,St S' L h'→∀x y vs,AR S' h' vs x→q x=some y→
  Ct P f (vs++a.toList).toArray S' h' (λv c d=>j c d v y∧St c L d)
 len:=λ⟨_,_,h,_⟩=>by rw[h];rfl
 one:=λ⟨_,_,h,_⟩ v i=>by rw[h] at i;simp at i;rw[i];rfl
 mono:=λ⟨f,a,k,l,m⟩ s e=>⟨f,a,k,l,λS' h' s' n=>m S' h' (λb g=>s' b (s b g)) λb g=>(n b (s b g)).trans (e b g)⟩
def Rd.fnr {i j:Type}{P:Program}{AR:Rj i}{g:fJ j}{S h v}{l:i→Option j}(k:Rd S h (B7.fnr P AR g) v l):
  ∃(f:FuncId) (a:Array Value),v= .func (.func f) #[] a∧Br P f=true∧∀(S':Nat→Prop) (h':BB),(∀b,S b→S' b)→(∀b,S b→h'[b]? =h[b]?)→∀L,St S' L h'→∀x y vs,AR S' h' vs x→l x=some y→
  Ct P f (vs++a.toList).toArray S' h' (λv c d=>g c d v y∧St c L d):=by
 obtain⟨_,rfl,f,a,rfl,h⟩:=k
 exact⟨f,a,rfl,h⟩
end Go.Proofs.YtibidnaedddfdaaGreat
namespace Go.Proofs.YtibidnaedddfdaaGreat
set_option linter.all false
open Go.RowKit
abbrev FR:=(Nat→Value)→(Nat→Prop)→(Nat→Prop)→AR
def fZ (R:FR) (a:Nat→Value) (X:Nat→Prop):AR:=λi v h=>v=a i∧∃F:Nat→Prop,(∀b,F b→X b)∧R a X F i v h
abbrev UX (fp:Nat→Nat→Prop):Nat→Prop:=λb=>∃j,fp j b
def iA (R:FR) (a:Nat→Value) (X:Nat→Prop) (i:Nat) (h:BB) (v:Value) (h':BB):Prop:=∃F:Nat→Prop,(∀b,F b→h.size≤b∧b<h'.size)∧R a (λb=>X b∨F b) F i v h'
def XU (P:Program) (ops:Array Oper) (Q:Exit→Act→World→Prop) (B:World) (n:FN) (m:SM) (h0:BB) (R:FR) (i:Nat) (o:Oper) (d:Nat) (j:List (Nat×Nat)):Prop:=
 ∀a X mt h,FW h0 h→(∀b,X b→h0.size≤b∧b<h.size)→PA (fZ R a X) h (λfr=>match o.guard with
  |none=>LF P ops (Exit.then (KS B n d (iA R a X i h) h (fr++(m++mt))) Q) [o] B h n (fr++(m++mt))
  |some (k,b)=>∃c,EA ops k=some c∧((lk fr c=some (.bool b)∧LF P ops (Exit.then (KS B n d (iA R a X i h) h (fr++(m++mt))) Q) [{ o with guard:=none}] B h n (fr++(m++mt)))∨∃v,lk fr c=some v∧yb v≠some b∧iA R a X i h undef h)) j []
def XT (P:Program) (ops:Array Oper) (n:FN) (m:SM) (h0:BB) (R:FR) (f:Nat) (o:Oper) (c:List (Nat×Nat)):Prop:=
 ∀b X mt h,FW h0 h→PA (fZ R b X) h (λfr=>∀a,Fr n a (fr++(m++mt))→∃v,Yields P ops o v a∧R b X (λ_=>False) f v h) c []
section
variable {P:Program}{ops:Array Oper}{Q:Exit→Act→World→Prop}
end
def P2 (P:Program) (ops:Array Oper) (ks:List Nat) (n:FN) (m:SM) (h0:BB) (R:FR):List Nat→Prop
 |[]=>True
 |f::F=>((f<ops.size∧f∉ks)∧J1 ops f=true∧∃o d a,ops[f]? =some o∧o.dst=some d∧Oe ops o a=true∧XT P ops n m h0 R f o a)∧P2 P ops ks n m h0 R F
def P2.at_ {P:Program}{ops:Array Oper}{ks:List Nat}{n:FN}{m:SM}{h0:BB}{R:FR}:∀{F:List Nat},P2 P ops ks n m h0 R F→∀f,f∈F→(f<ops.size∧f∉ks)∧J1 ops f=true∧∃o d b,ops[f]? =some o∧o.dst=some d∧Oe ops o b=true∧XT P ops n m h0 R f o b
 |[],_,f,a=>by cases a
 |i::F,⟨c,h2⟩,f,a=>by
  rcases iZ.1 a with rfl|a
  ·exact c
  ·exact P2.at_ h2 f a
def P2.cons {P:Program}{ops:Array Oper}{ks:List Nat}{n:FN}{m:SM}{h0:BB}{R:FR}{f d:Nat}{o:Oper}{F:List Nat}(c:List (Nat×Nat)) (b:(Nat.blt f ops.size&& !ks.contains f&&J1 ops f)=true) (j:ops[f]? =some o) (hd:o.dst=some d) (g:Oe ops o c=true)
  (k:∀i X mt h,FW h0 h→PA (fZ R i X) h (λfr=>∀a,Fr n a (fr++(m++mt))→∃v,Yields P ops o v a∧R i X (λ_=>False) f v h) c []) (t:P2 P ops ks n m h0 R F):P2 P ops ks n m h0 R (f::F):=by
 simp only[iQ,jI] at b
 exact⟨⟨⟨(by simpa [Nat.blt] using b.1.1:f+1≤ops.size),λh=>by rw[iV.2 h] at b;cases b.1.2⟩,b.2,o,d,c,j,hd,g,k⟩,t⟩
def LR (P:Program) (ops:Array Oper) (Q:Exit→Act→World→Prop) (B:World) (n:FN) (m:SM) (h0:BB) (R:FR) (ks:List Nat):Nat→List Oper→List (List (Nat×Nat))→Prop
 |i,o::l,a::pss=>(i∈ks∨match o.dst with|some d=>XU P ops Q B n m h0 R i o d a|none=>False)∧LR P ops Q B n m h0 R ks (i+1) l pss
 |_,_,_=>True
section
variable {P:Program}{ops:Array Oper}{Q:Exit→Act→World→Prop}{B:World}{n:FN}{m:SM}{h0:BB}{R:FR}{ks:List Nat}
def LR.at_:∀{l:List Oper}{pss:List (List (Nat×Nat))}{k i:Nat}{o:Oper}{d:Nat},LR P ops Q B n m h0 R ks k l pss→l.length=pss.length→k+i∉ks→l[i]? =some o→o.dst=some d→∃a,pss[i]? =some a∧XU P ops Q B n m h0 R (k+i) o d a
 |[],_,_,_,_,_,_,_,_,h,_=>by simp at h
 |_::_,[],_,_,_,_,_,c,_,_,_=>by simp at c
 |p::l,a::pss,k,0,o,d,g,c,j,b,hd=>by
  simp only[lE,jU] at b
  subst b
  simp only[LR,hd] at g
  exact⟨a,rfl,g.1.resolve_left j⟩
 |p::l,a::pss,k,i+1,o,d,g,c,j,b,hd=>by
  simp only[lF] at b
  obtain⟨q,s,t⟩:=LR.at_ (l:=l) (pss:=pss) (k:=k+1) (i:=i) g.2 (by simpa using c) (by rw[show k+1+i=k+(i+1) by omega];exact j) b hd
  rw[show k+(i+1)=k+1+i by omega]
  exact⟨q,by simpa using s,t⟩
def LR.cons {i:Nat}{o:Oper}{l:List Oper}{g:List (Nat×Nat)}{pss:List (List (Nat×Nat))}{d:Nat}(hd:o.dst=some d) (j:o.guard=none)
  (h:∀c X mt h,FW h0 h→(∀b,X b→h0.size≤b∧b<h.size)→PA (fZ R c X) h (λfr=>LF P ops (Exit.then (KS B n d (R c X (λ_=>False) i) h (fr++(m++mt))) Q) [o] B h n (fr++(m++mt))) g []) (t:LR P ops Q B n m h0 R ks (i+1) l pss):LR P ops Q B n m h0 R ks i (o::l) (g::pss):=by
 simp only[LR,hd]
 refine⟨.inr λc X mt p s u=>PA.imp (λfr k=>?_) _ _ (h c X mt p s u),t⟩
 rw[j]
 refine λa w y z=>Fx (λe a w q=>?_) _ a w (k a w y z)
 cases e<;>first|exact q|skip
 obtain⟨v,h2,A,C,D,F⟩:=q
 exact⟨v,h2,A,C,D,λ_=>False,λ_ x=>x.elim,by have e:(λb=>X b∨False)=X:=funext λb=>propext (or_iff_left id);rw[e];exact F⟩
def LR.skip {i:Nat}{o:Oper}{l:List Oper}{a:List (Nat×Nat)}{pss:List (List (Nat×Nat))}(h:ks.contains i=true) (t:LR P ops Q B n m h0 R ks (i+1) l pss):LR P ops Q B n m h0 R ks i (o::l) (a::pss):=
 ⟨.inl (iV.1 h),t⟩
end
section
variable {P:Program}{ex:List (Nat×AP)}{RR N:AP}{cs:List Code}{B:World}{h:BB}{n:FN}{m m0:SM}{S:Nat→Prop}{L:List HP}
end
abbrev OW (S:Nat→Prop) (h0:BB) (X F:Nat→Prop) (M:List HP) (h:BB):Prop:=Sp (SX S h0 h X) M h F
def OW.mono {S X a F:Nat→Prop}{h0 h h':BB}{M:List HP}(c:∀b,S b→b<h0.size) (d:FW h0 h) (g:FW h h') (i:∀b,F b→h0.size≤b∧b<h.size) (u:∀b,X b→a b) (j:∀b,a b→X b∨h.size≤b) (k:OW S h0 X F M h):OW S h0 a F M h':=
 Sp.ext k (SX.mono c d g u j).sub (λb l=>g.same b (l.elim (SX.lt c d b) λx=>(i b x).2)) λ_ x=>x
def SX.fz {S:Nat→Prop}{L:List HP}{h0 h:BB}{X:Nat→Prop}(a:St S L h0) (o:FW h0 h):St (SX S h0 h X) [fS (SX S h0 h X) h] h:=(NE (X:=X) a o).fz
def OW.done {S d:Nat→Prop}{h0 h h2:BB}{X:Nat→Prop}{M:List HP}(v:∀b,S b→b<h0.size) (o:FW h0 h) (q:∀b,X b→h0.size≤b∧b<h.size) (e:Cm (SX S h0 h X) h d h2) (l:St d (fS (SX S h0 h X) h::M) h2):
  ∃F:Nat→Prop,(∀b,F b→h.size≤b∧b<h2.size)∧FW h h2∧Cm d h2 (SX S h0 h2 λb=>X b∨F b) h2∧OW S h0 (λb=>X b∨F b) F M h2:=by
 obtain⟨m,⟨n,s⟩,t,u⟩:=l.2
 have i:∀b,((b<h2.size∧¬d b)∧¬m b)→h.size≤b∧b<h2.size:=λb a=>by
  refine⟨Nat.le_of_not_lt λc=>?_,a.1.1⟩
  rcases Classical.em (SX S h0 h X b) with w|w
  ·exact a.1.2 (e.sub b w)
  ·exact a.2 ((n b).2 ⟨c,w⟩)
 have p:Cm d h2 (SX S h0 h2 λb=>X b∨((b<h2.size∧¬d b)∧¬m b)) h2:=by
  refine⟨λb a=>?_,λ_ _=>rfl,jB _⟩
  have c:=l.1 b a
  rcases jN b h.size with w|w
  ·rcases Classical.em (SX S h0 h X b) with j|j
   ·exact⟨j.1.imp_right λx=>⟨x.1,c⟩,λk=>k.elim j.2 λx=>x.1.2 a⟩
   ·exact absurd a (t b ((n b).2 ⟨w,j⟩)).2
  ·exact⟨.inr ⟨kO o.siz w,c⟩,λk=>k.elim (λx=>by have:=(q b x).2;omega) λx=>x.1.2 a⟩
 refine⟨_,i,⟨e.siz,λb a=>?_⟩,p,?_⟩
 ·rcases Classical.em (SX S h0 h X b) with w|w
  ·exact e.same b w
  ·exact s b ⟨a,w⟩
 ·exact Sp.ext u p.sub (λ_ _=>rfl) λ_ x=>x
def bR (S:Nat→Prop) (fp:Nat→Nat→Prop) (h h2:BB) (js:List Nat) (L:List HP):Prop:=(∀b,S b→b<h.size)∧FW h h2∧(∀i b,fp i b→h.size≤b∧b<h2.size)∧Sp (SX S h h2 (UX fp)) L h2 (λb=>(b<h.size∧¬S b)∨∃j,j∈js∧fp j b)
section
variable {S:Nat→Prop}{L M:List HP}{h h2:BB}{fp:Nat→Nat→Prop}{js:List Nat}{j:Nat}
def uxb (a:∀i b,fp i b→h.size≤b∧b<h2.size):∀b,UX fp b→h.size≤b∧b<h2.size:=λb ⟨j,x⟩=>a j b x
def bR.nil (a:St S L h) (o:FW h h2) (g:∀i b,fp i b→h.size≤b∧b<h2.size):bR S fp h h2 [] L:=
 ⟨a.1,o,g,Sp.ext a.2 (λb x=>(SX.ext a.1 o (uxb g)).sub b x) (λc d=>o.same c (d.elim (a.1 c) (·.1))) λc d=> .inl d⟩
def UZ {S:Nat→Prop}{h:BB}{L:List HP}:∀{M:List HP}{c d A:Nat→Prop},Sp S M h c→Sp S L h d→(∀b,c b→A b)→(∀b,d b→A b)→(∀b,c b→¬d b)→Sp S (M++L) h A
 |[],c,d,A,_,h2,_,g,_=>h2.mono g
 |H::M,c,d,A,⟨F,l,i,m⟩,h2,j,g,k=>
  ⟨F,l,λb a=>j b (i b a),UZ m h2 (λb a=>⟨j b a.1,a.2⟩) (λb a=>⟨g b a,λn=>k b (i b n) a⟩) λb a=>k b a.1⟩
def bR.cons (k:bR S fp h h2 js L) (m:∀i j b,fp i b→fp j b→i=j) (d:js.contains j=false) (q:OW S h (UX fp) (fp j) M h2):bR S fp h h2 (j::js) (M++L):=by
 obtain⟨n,o,g,p⟩:=k
 refine⟨n,o,g,UZ q p (λb a=> .inr ⟨j,kI ..,a⟩) (λb a=>a.imp_right λ⟨i,c,x⟩=>⟨i,kS _ c,x⟩) λb a l=>?_⟩
 rcases l with l|⟨i,c,x⟩
 ·have:=(g j b a).1;omega
 ·have:=m _ _ _ a x
  subst this
  rw[iV.2 c] at d;cases d
def bR.st (k:bR S fp h h2 js L):St (SX S h h2 (UX fp)) L h2:=by
 obtain⟨g,d,j,l⟩:=k
 refine⟨SX.lt g d,l.mono λc a=>?_⟩
 rcases a with a|⟨i,_,a⟩
 ·exact⟨iY a.1 d.siz,λb=>b.1.elim a.2 λx=>by omega⟩
 ·exact⟨(j i c a).2,λb=>b.2 ⟨i,a⟩⟩
end
end Go.Proofs.YtibidnaedddfdaaGreat
