import Derived.Test.YtibidnaedddfdaaGreatECore22
import Derived.OrdersHeld
import Derived.Test.YtibidnaedddfdaaGreatECore6
import Derived.Test.YtibidnaedddfdaaGreatECore17
namespace Go.Proofs.YtibidnaedddfdaaGreat
set_option linter.all false
open Go.RowKit
def oB {α}(l:List α) (i:Int):Option (List α):=if 0≤i∧i≤l.length∧0<l.length then some (l.take i.toNat) else none
section
variable {P:Program}{ops:Array Oper}{C:World→Prop}{Q:Act→Prop}{n:FN}{m m':SM}{rest:List Oper}
variable {d:Nat}{ty:TypeId}{pos:String}{af:Array Edge}{X Y Z:Operand}{t:TypeId}{kd:IntKind}{v p:Value}{S:Nat→Prop}{h:AX}
def Sl.ne {α}{r:BU α}{l:List α}(k:Sl S h r v l) (h0:0<l.length):∃(b o cap:Nat),v= .slice (some ⟨b,o,none⟩) l.length cap∧l.length≤cap∧cap≤maxLen∧∀i x,l[i]? =some x→Pt S h r (.pointer (some ⟨b,o+i*r.sz,none⟩)) x:=by
 rcases k with ⟨_,rfl⟩|⟨a,cap,h1,h4,h5,h6⟩
 ·cases h0
 ·have c:=(h6 0 l[0] (by simp [h0])).1;obtain⟨b,o,g⟩:=a;simp only at c;subst c;exact⟨b,o,cap,h1,h4,h5,λi x d=>(h6 i x d).2⟩
def eR {α}{r:BU α}{e:TypeId}{l g:List α}{y:Int}(p:CL m X=some v) (q:CL m Y=some (.int kd y)) (k0:Sl S h r v l) (s:RY P t e r.sz=true) (a:oB l y=some g) (hd:Nat.blt d n.1=true)
  (k:∀u,Sl S h r u g→QF P ops C Q rest n ((d,u)::m)):QF P ops C Q (⟨some d,.slice t X none (some Y) none,ty,pos,af,none⟩::rest) n m:=by
 unfold oB at a;split at a
 ·rename_i w;obtain⟨D,F,z⟩:=w;cases a;obtain⟨b,o,cap,rfl,G,A,B⟩:=k0.ne z;refine Wt p q (j:=y.toNat) (by omega) s (by omega) hd (k _ (.inr ⟨⟨b,o,none⟩,cap,?_,?_,A,λi x c=>⟨rfl,?_⟩⟩))
  ·rw[vV,Nat.min_eq_left (by omega)]
  ·rw[vV];omega
  ·rw[xZ] at c;split at c
   ·exact B i x c
   ·cases c
 ·cases a
end
def sA {α}(r:BU α) (e:TypeId):List Value→List (List α)→List HP
 |u::a,l::b=>OS r e u l::sA r e a b
 |_,_=>[]
section
variable {α:Type}{r:BU α}{e T:TypeId}{v u:Value}{l:List α}{vs:List Value}{ll:List (List α)}{S F:Nat→Prop}{h:AX}{L L2:List HP}
def sA.pick:∀{vs:List Value}{ll:List (List α)}{i:Nat}{u:Value}{l:List α},vs[i]? =some u→ll[i]? =some l→
  ∃M,P6 (sA r e vs ll) (OS r e u l) M∧∀c d,P6 (sA r e (vs.set i c) (ll.set i d)) (OS r e c d) M
 |[],_,_,_,_,a,_=>by simp at a
 |_::_,[],_,_,_,_,b=>by simp at b
 |g::j,k::m,0,u,l,a,b=>by
  simp only[xR,vU] at a b;subst a;subst b;exact⟨_,.head,λ_ _=> .head⟩
 |g::j,k::m,i+1,u,l,a,b=>by
  simp only[xL] at a b;obtain⟨M,p,q⟩:=sA.pick a b;exact⟨_,.tail p,λc d=> .tail (q c d)⟩
end
abbrev rQ (a:Type):=(Nat→Prop)→AX→Value→a→Prop
def BU.fnr {o p:Type}(P:Program) (AR:VI o) (j:rQ p):BU (o→Option p) where
 sz:=1
 ag:=false
 rd:=λS h cs q=>∃(f:FuncId) (a:Array Value),cs=[.func (.func f) #[] a]∧BG P f=true∧∀(S':Nat→Prop) (h':AX),(∀b,S b→S' b)→(∀b,S b→h'[b]? =h[b]?)→∀L,St S' L h'→∀x y vs,AR S' h' vs x→q x=some y→
  CD P f (vs++a.toList).toArray S' h' (λv c d=>j c d v y∧St c L d)
 len:=λ⟨_,_,h,_⟩=>by rw[h];rfl
 one:=λ⟨_,_,h,_⟩ v i=>by rw[h] at i;simp at i;rw[i];rfl
 mono:=λ⟨f,a,k,l,m⟩ s e=>⟨f,a,k,l,λS' h' s' n=>m S' h' (λb g=>s' b (s b g)) λb g=>(n b (s b g)).trans (e b g)⟩
def Rd.fnr {i j:Type}{P:Program}{AR:VI i}{g:rQ j}{S h v}{l:i→Option j}(k:Rd S h (BU.fnr P AR g) v l):
  ∃(f:FuncId) (a:Array Value),v= .func (.func f) #[] a∧BG P f=true∧∀(S':Nat→Prop) (h':AX),(∀b,S b→S' b)→(∀b,S b→h'[b]? =h[b]?)→∀L,St S' L h'→∀x y vs,AR S' h' vs x→l x=some y→
  CD P f (vs++a.toList).toArray S' h' (λv c d=>g c d v y∧St c L d):=by
 obtain⟨_,rfl,f,a,rfl,h⟩:=k;exact⟨f,a,rfl,h⟩
abbrev FR:=(Nat→Value)→(Nat→Prop)→(Nat→Prop)→AR
def sK (R:FR) (a:Nat→Value) (X:Nat→Prop):AR:=λi v h=>v=a i∧∃F:Nat→Prop,(∀b,F b→X b)∧R a X F i v h
abbrev UX (fp:Nat→Nat→Prop):Nat→Prop:=λb=>∃j,fp j b
def tS (R:FR) (a:Nat→Value) (X:Nat→Prop) (i:Nat) (h:AX) (v:Value) (h':AX):Prop:=∃F:Nat→Prop,(∀b,F b→h.size≤b∧b<h'.size)∧R a (λb=>X b∨F b) F i v h'
def cP (P:Program) (ops:Array Oper) (Q:Exit→Act→World→Prop) (B:World) (n:FN) (m:SM) (h0:AX) (R:FR) (i:Nat) (o:Oper) (d:Nat) (j:List (Nat×Nat)):Prop:=
 ∀a X mt h,Gf h0 h→(∀b,X b→h0.size≤b∧b<h.size)→PA (sK R a X) h (λfr=>match o.guard with
  |none=>LF P ops (Exit.then (KS B n d (tS R a X i h) h (fr++(m++mt))) Q) [o] B h n (fr++(m++mt))
  |some (k,b)=>∃c,E3 ops k=some c∧((lk fr c=some (.bool b)∧LF P ops (Exit.then (KS B n d (tS R a X i h) h (fr++(m++mt))) Q) [{ o with guard:=none}] B h n (fr++(m++mt)))∨∃v,lk fr c=some v∧yb v≠some b∧tS R a X i h undef h)) j []
def cN (P:Program) (ops:Array Oper) (n:FN) (m:SM) (h0:AX) (R:FR) (f:Nat) (o:Oper) (c:List (Nat×Nat)):Prop:=
 ∀b X mt h,Gf h0 h→PA (sK R b X) h (λfr=>∀a,Fr n a (fr++(m++mt))→∃v,Yields P ops o v a∧R b X (λ_=>False) f v h) c []
section
variable {P:Program}{ops:Array Oper}{Q:Exit→Act→World→Prop}
end
def Ti (P:Program) (ops:Array Oper) (ks:List Nat) (n:FN) (m:SM) (h0:AX) (R:FR):List Nat→Prop
 |[]=>True
 |f::F=>((f<ops.size∧f∉ks)∧M4 ops f=true∧∃o d a,ops[f]? =some o∧o.dst=some d∧SH ops o a=true∧cN P ops n m h0 R f o a)∧Ti P ops ks n m h0 R F
def Ti.at_ {P:Program}{ops:Array Oper}{ks:List Nat}{n:FN}{m:SM}{h0:AX}{R:FR}:∀{F:List Nat},Ti P ops ks n m h0 R F→∀f,f∈F→(f<ops.size∧f∉ks)∧M4 ops f=true∧∃o d b,ops[f]? =some o∧o.dst=some d∧SH ops o b=true∧cN P ops n m h0 R f o b
 |[],_,f,a=>by cases a
 |i::F,⟨c,h2⟩,f,a=>by
  rcases uS.1 a with rfl|a
  ·exact c
  ·exact Ti.at_ h2 f a
def Ti.cons {P:Program}{ops:Array Oper}{ks:List Nat}{n:FN}{m:SM}{h0:AX}{R:FR}{f d:Nat}{o:Oper}{F:List Nat}(c:List (Nat×Nat)) (b:(Nat.blt f ops.size&& !ks.contains f&&M4 ops f)=true) (j:ops[f]? =some o) (hd:o.dst=some d) (g:SH ops o c=true)
  (k:∀i X mt h,Gf h0 h→PA (sK R i X) h (λfr=>∀a,Fr n a (fr++(m++mt))→∃v,Yields P ops o v a∧R i X (λ_=>False) f v h) c []) (t:Ti P ops ks n m h0 R F):Ti P ops ks n m h0 R (f::F):=by
 simp only[uL,vE] at b;exact⟨⟨⟨(by simpa [Nat.blt] using b.1.1:f+1≤ops.size),λh=>by rw[uT.2 h] at b;cases b.1.2⟩,b.2,o,d,c,j,hd,g,k⟩,t⟩
def OV (P:Program) (ops:Array Oper) (Q:Exit→Act→World→Prop) (B:World) (n:FN) (m:SM) (h0:AX) (R:FR) (ks:List Nat):Nat→List Oper→List (List (Nat×Nat))→Prop
 |i,o::l,a::pss=>(i∈ks∨match o.dst with|some d=>cP P ops Q B n m h0 R i o d a|none=>False)∧OV P ops Q B n m h0 R ks (i+1) l pss
 |_,_,_=>True
section
variable {P:Program}{ops:Array Oper}{Q:Exit→Act→World→Prop}{B:World}{n:FN}{m:SM}{h0:AX}{R:FR}{ks:List Nat}
def OV.at_:∀{l:List Oper}{pss:List (List (Nat×Nat))}{k i:Nat}{o:Oper}{d:Nat},OV P ops Q B n m h0 R ks k l pss→l.length=pss.length→k+i∉ks→l[i]? =some o→o.dst=some d→∃a,pss[i]? =some a∧cP P ops Q B n m h0 R (k+i) o d a
 |[],_,_,_,_,_,_,_,_,h,_=>by simp at h
 |_::_,[],_,_,_,_,_,c,_,_,_=>by simp at c
 |p::l,a::pss,k,0,o,d,g,c,j,b,hd=>by
  simp only[xR,vU] at b;subst b;simp only[OV,hd] at g;exact⟨a,rfl,g.1.resolve_left j⟩
 |p::l,a::pss,k,i+1,o,d,g,c,j,b,hd=>by
  simp only[xL] at b;obtain⟨q,s,t⟩:=OV.at_ (l:=l) (pss:=pss) (k:=k+1) (i:=i) g.2 (by simpa using c) (by rw[show k+1+i=k+(i+1) by omega];exact j) b hd;rw[show k+(i+1)=k+1+i by omega];exact⟨q,by simpa using s,t⟩
def OV.cons {i:Nat}{o:Oper}{l:List Oper}{g:List (Nat×Nat)}{pss:List (List (Nat×Nat))}{d:Nat}(hd:o.dst=some d) (j:o.guard=none)
  (h:∀c X mt h,Gf h0 h→(∀b,X b→h0.size≤b∧b<h.size)→PA (sK R c X) h (λfr=>LF P ops (Exit.then (KS B n d (R c X (λ_=>False) i) h (fr++(m++mt))) Q) [o] B h n (fr++(m++mt))) g []) (t:OV P ops Q B n m h0 R ks (i+1) l pss):OV P ops Q B n m h0 R ks i (o::l) (g::pss):=by
 simp only[OV,hd];refine⟨.inr λc X mt p s u=>PA.imp (λfr k=>?_) _ _ (h c X mt p s u),t⟩;rw[j];refine λa w y z=>IR (λe a w q=>?_) _ a w (k a w y z);cases e<;>first|exact q|skip
 obtain⟨v,h2,A,C,D,F⟩:=q;exact⟨v,h2,A,C,D,λ_=>False,λ_ x=>x.elim,by have e:(λb=>X b∨False)=X:=funext λb=>propext (or_iff_left id);rw[e];exact F⟩
def OV.skip {i:Nat}{o:Oper}{l:List Oper}{a:List (Nat×Nat)}{pss:List (List (Nat×Nat))}(h:ks.contains i=true) (t:OV P ops Q B n m h0 R ks (i+1) l pss):OV P ops Q B n m h0 R ks i (o::l) (a::pss):=
 ⟨.inl (uT.1 h),t⟩
end
section
variable {P:Program}{ex:List (Nat×AP)}{RR N:AP}{cs:List Code}{B:World}{h:AX}{n:FN}{m m0:SM}{S:Nat→Prop}{L:List HP}
end
abbrev OW (S:Nat→Prop) (h0:AX) (X F:Nat→Prop) (M:List HP) (h:AX):Prop:=Sp (SX S h0 h X) M h F
def OW.mono {S X a F:Nat→Prop}{h0 h h':AX}{M:List HP}(c:∀b,S b→b<h0.size) (d:Gf h0 h) (g:Gf h h') (i:∀b,F b→h0.size≤b∧b<h.size) (u:∀b,X b→a b) (j:∀b,a b→X b∨h.size≤b) (k:OW S h0 X F M h):OW S h0 a F M h':=
 Sp.ext k (SX.mono c d g u j).sub (λb l=>g.same b (l.elim (SX.lt c d b) λx=>(i b x).2)) λ_ x=>x
def SX.fz {S:Nat→Prop}{L:List HP}{h0 h:AX}{X:Nat→Prop}(a:St S L h0) (o:Gf h0 h):St (SX S h0 h X) [sB (SX S h0 h X) h] h:=(MA (X:=X) a o).fz
def OW.done {S d:Nat→Prop}{h0 h h2:AX}{X:Nat→Prop}{M:List HP}(v:∀b,S b→b<h0.size) (o:Gf h0 h) (q:∀b,X b→h0.size≤b∧b<h.size) (e:Cc (SX S h0 h X) h d h2) (l:St d (sB (SX S h0 h X) h::M) h2):
  ∃F:Nat→Prop,(∀b,F b→h.size≤b∧b<h2.size)∧Gf h h2∧Cc d h2 (SX S h0 h2 λb=>X b∨F b) h2∧OW S h0 (λb=>X b∨F b) F M h2:=by
 obtain⟨m,⟨n,s⟩,t,u⟩:=l.2;have i:∀b,((b<h2.size∧¬d b)∧¬m b)→h.size≤b∧b<h2.size:=λb a=>by
  refine⟨Nat.le_of_not_lt λc=>?_,a.1.1⟩;rcases Classical.em (SX S h0 h X b) with w|w
  ·exact a.1.2 (e.sub b w)
  ·exact a.2 ((n b).2 ⟨c,w⟩)
 have p:Cc d h2 (SX S h0 h2 λb=>X b∨((b<h2.size∧¬d b)∧¬m b)) h2:=by
  refine⟨λb a=>?_,λ_ _=>rfl,uW _⟩;have c:=l.1 b a;rcases vG b h.size with w|w
  ·rcases Classical.em (SX S h0 h X b) with j|j
   ·exact⟨j.1.imp_right λx=>⟨x.1,c⟩,λk=>k.elim j.2 λx=>x.1.2 a⟩
   ·exact absurd a (t b ((n b).2 ⟨w,j⟩)).2
  ·exact⟨.inr ⟨wP o.siz w,c⟩,λk=>k.elim (λx=>by have:=(q b x).2;omega) λx=>x.1.2 a⟩
 refine⟨_,i,⟨e.siz,λb a=>?_⟩,p,?_⟩
 ·rcases Classical.em (SX S h0 h X b) with w|w
  ·exact e.same b w
  ·exact s b ⟨a,w⟩
 ·exact Sp.ext u p.sub (λ_ _=>rfl) λ_ x=>x
def nJ (S:Nat→Prop) (fp:Nat→Nat→Prop) (h h2:AX) (js:List Nat) (L:List HP):Prop:=(∀b,S b→b<h.size)∧Gf h h2∧(∀i b,fp i b→h.size≤b∧b<h2.size)∧Sp (SX S h h2 (UX fp)) L h2 (λb=>(b<h.size∧¬S b)∨∃j,j∈js∧fp j b)
section
variable {S:Nat→Prop}{L M:List HP}{h h2:AX}{fp:Nat→Nat→Prop}{js:List Nat}{j:Nat}
def uxb (a:∀i b,fp i b→h.size≤b∧b<h2.size):∀b,UX fp b→h.size≤b∧b<h2.size:=λb ⟨j,x⟩=>a j b x
def nJ.nil (a:St S L h) (o:Gf h h2) (g:∀i b,fp i b→h.size≤b∧b<h2.size):nJ S fp h h2 [] L:=
 ⟨a.1,o,g,Sp.ext a.2 (λb x=>(SX.ext a.1 o (uxb g)).sub b x) (λc d=>o.same c (d.elim (a.1 c) (·.1))) λc d=> .inl d⟩
def X3 {S:Nat→Prop}{h:AX}{L:List HP}:∀{M:List HP}{c d A:Nat→Prop},Sp S M h c→Sp S L h d→(∀b,c b→A b)→(∀b,d b→A b)→(∀b,c b→¬d b)→Sp S (M++L) h A
 |[],c,d,A,_,h2,_,g,_=>h2.mono g
 |H::M,c,d,A,⟨F,l,i,m⟩,h2,j,g,k=>
  ⟨F,l,λb a=>j b (i b a),X3 m h2 (λb a=>⟨j b a.1,a.2⟩) (λb a=>⟨g b a,λn=>k b (i b n) a⟩) λb a=>k b a.1⟩
def nJ.cons (k:nJ S fp h h2 js L) (m:∀i j b,fp i b→fp j b→i=j) (d:js.contains j=false) (q:OW S h (UX fp) (fp j) M h2):nJ S fp h h2 (j::js) (M++L):=by
 obtain⟨n,o,g,p⟩:=k;refine⟨n,o,g,X3 q p (λb a=> .inr ⟨j,vW ..,a⟩) (λb a=>a.imp_right λ⟨i,c,x⟩=>⟨i,vX _ c,x⟩) λb a l=>?_⟩;rcases l with l|⟨i,c,x⟩
 ·have:=(g j b a).1;omega
 ·have:=m _ _ _ a x;subst this;rw[uT.2 c] at d;cases d
def nJ.st (k:nJ S fp h h2 js L):St (SX S h h2 (UX fp)) L h2:=by
 obtain⟨g,d,j,l⟩:=k;refine⟨SX.lt g d,l.mono λc a=>?_⟩;rcases a with a|⟨i,_,a⟩
 ·exact⟨vB a.1 d.siz,λb=>b.1.elim a.2 λx=>by omega⟩
 ·exact⟨(j i c a).2,λb=>b.2 ⟨i,a⟩⟩
end
section
variable {α:Type}{r:BU α}{e T:TypeId}{v u:Value}{l:List α}{vs:List Value}{ll:List (List α)}{S F:Nat→Prop}{h:AX}{L L2:List HP}
def St.one {H:HP}(a:St S L h) (b:H∈L):St S [H] h:=by
 obtain⟨F,k,c⟩:=a.get b;exact⟨a.1,F,k,c,trivial⟩
def OW.oslen {S X F:Nat→Prop}{h0 h:AX}{M:List HP}(k:OW S h0 X F M h) (a:OS r T v l∈M):∃b cap,v= .slice b l.length cap∧l.length≤maxLen:=by
 obtain⟨F,k,_⟩:=Sp.get a k;exact OS.len k
end
section
variable {P:Program}{ops:Array Oper}{C:World→Prop}{Q:Act→Prop}{Q2:Exit→Act→World→Prop}{n:FN}{m m':SM}{rest:List Oper}
variable {d:Nat}{ty:TypeId}{pos:String}{af:Array Edge}{X Y:Operand}{t:TypeId}{v p:Value}{B:World}{h:AX}{S:Nat→Prop}{L L2:List HP}
end
def St.zs {α}{S:Nat→Prop}{L:List HP}{h:AX}(b:St S L h) (r:BU α) (T:TypeId) (a:Option Addr):St S (OS r T (.slice a 0 0) ([]:List α)::L) h:=
 (b.add (uW _) (λ_ _=>rfl) ⟨λ_=>False,Or.inl ⟨⟨a,rfl⟩,rfl,λ_ x=>x⟩,λ_ x=>x.elim⟩).1
section
variable {P:Program}{ops:Array Oper}{C:World→Prop}{Q:Act→Prop}{Q2:Exit→Act→World→Prop}{n:FN}{m m':SM}{rest:List Oper}
variable {d:Nat}{ty:TypeId}{pos:String}{af:Array Edge}{X Y Z:Operand}{t:TypeId}{kd kd2:IntKind}{v p:Value}{S:Nat→Prop}{h:AX}{B:World}{L:List HP}
def tU {e sz:Nat}(g:CL m X=some (.slice none 0 0)) (i:CL m Y=some (.int kd 0)) (j:RY P t e sz=true) (hd:Nat.blt d n.1=true)
  (k:QF P ops C Q rest n ((d,.slice none 0 0)::m)):QF P ops C Q (⟨some d,.slice t X none (some Y) none,ty,pos,af,none⟩::rest) n m:=λa b=>by
 obtain⟨c,l⟩:=No j;refine Hf b hd (λw _=>?_) k;simp [execOp,b.eval g,b.eval i,run_sliceAt_slice _ _ _ _ _ _ c,run_slice_h w t none 0 0 c kd 0 (by omega) (by omega),l,sliced]
def uD {o:Oper}{j e:Nat}{b:Bool}(g:o.guard=some (j,b)) (i:(ops[j]?).bind (·.dst)=some e) (l:lk m e=some (.bool b)) (k:LF P ops Q2 ({ o with guard:=none}::rest) B h n m):LF P ops Q2 (o::rest) B h n m:=by
 intro a w d p;have q:Region.wanted o (yielded ops a.tmps)=true:=by
  have:=d.at_ e _ l;simp [Region.wanted,g,yielded,i,this]
 have c:=k a w d p;unfold wpList at c ⊢;rw[uJ (by simp [Region.wanted])] at c;rw[uJ q];exact c
end
section
variable {P:Program}{ex:List (Nat×AP)}{RR N:AP}{cs:List Code}{B:World}{h:AX}{n:FN}{m m':SM}{S:Nat→Prop}{L:List HP}{C:World→Prop}{l:List Oper}{fuel:Nat}{listed:Array Bool}
variable {d:Nat}{ty:TypeId}{pos:String}{af:Array Edge}{X Y:Operand}{t:TypeId}{v:Value}
def HF (P:Program) (l:List Oper) (Q:Exit→Act→World→Prop) (C:World→Prop) (fuel:Nat) (listed:Array Bool) (B:World) (h:AX) (n:FN) (m:SM):Prop:=
 ∀a w,Fr n a m→Wd B h w→wpAnyH P .any l.toArray Q C fuel listed a w
abbrev QW (P:Program) (ex:List (Nat×AP)) (RR:AP) (cs:List Code) (N:AP):Exit→Act→World→Prop:=Qx ex RR (W P ex RR cs N)
def kB (l:List Oper) (listed:Array Bool) (i:Nat):Bool:=Region.noSelect l.toArray&&Region.free .any l.toArray listed i&&(Region.ready .any l.toArray listed).contains i
def Te {o:Op}(i:Nat) (q:l[i]? =some ⟨some d,o,ty,pos,af,none⟩) (c:kB l listed i=true) (s:∀w,Wd B h w→C w) (hd:Nat.blt d n.1=true)
  (b:∀a w,Fr n a m→C w→(execOp a.eval ⟨some d,o,ty,pos,af,none⟩).run P w= .ok (.value v) w) (k:HF P l (QW P ex RR cs N) C fuel (listed.setIfInBounds i true) B h n ((d,v)::m)):HF P l (QW P ex RR cs N) C (fuel+1) listed B h n m:=by
 intro a w j p;simp only[kB,uL] at c;exact wpAnyH_take (oi:=⟨some d,o,ty,pos,af,none⟩) (v:=v) (by simpa using q) c.1.1 c.1.2 c.2 (λ_ _ _ t=>t.elim) (.inl ⟨by simp [Region.wanted],λu g=>b a u j g⟩) (s w p) (k _ _ (j.put hd v) p)
def uE (i:Nat) (b:l[i]? =some ⟨some d,.move X,ty,pos,af,none⟩) (c:kB l listed i=true) (g:∀w,Wd B h w→C w) (j:CL m X=some v) (hd:Nat.blt d n.1=true) (k:HF P l (QW P ex RR cs N) C fuel (listed.setIfInBounds i true) B h n ((d,v)::m)):HF P l (QW P ex RR cs N) C (fuel+1) listed B h n m:=
 Te i b c g hd (λa w o _=>by simp [execOp,o.eval j]) k
def uA (i:Nat) (b:l[i]? =some ⟨some d,.assign X,ty,pos,af,none⟩) (c:kB l listed i=true) (g:∀w,Wd B h w→C w) (j:CL m X=some v) (hd:Nat.blt d n.1=true) (k:HF P l (QW P ex RR cs N) C fuel (listed.setIfInBounds i true) B h n ((d,v)::m)):HF P l (QW P ex RR cs N) C (fuel+1) listed B h n m:=
 Te i b c g hd (λa w o _=>by simp [execOp,o.eval j]) k
def tZ (i:Nat) {b o j g:Nat}(q:l[i]? =some ⟨some d,.fieldAddr t X j,ty,pos,af,none⟩) (c:kB l listed i=true) (s:∀w,Wd B h w→C w) (u:CL m X=some (.pointer (some ⟨b,o,none⟩))) (v:Zz P t j g=true) (hd:Nat.blt d n.1=true) (k:HF P l (QW P ex RR cs N) C fuel (listed.setIfInBounds i true) B h n ((d,.pointer (some ⟨b,o+g,none⟩))::m)):HF P l (QW P ex RR cs N) C (fuel+1) listed B h n m:=
 have p:(⟨b,o,none⟩:Addr).add g=⟨b,o+g,none⟩:=by unfold Addr.add;split<;>simp_all
 Te i q c s hd (λa w x _=>by simp [execOp,x.eval u,NR v,p]) k
def tX (i:Nat) {b o sz T:Nat}{ag:Bool}{q vs:List Value}(s:l[i]? =some ⟨some d,.load t X,ty,pos,af,none⟩) (c:kB l listed i=true) (u:∀w,Wd B h w→C w) (v:CL m X=some (.pointer (some ⟨b,o,none⟩))) (y:∀w,C w→w.heap[b]? =some (.cells q.toArray T (0,0))) (z:(q.drop o).take sz=vs) (A:Nat.beq vs.length sz=true) (D:LV P t sz ag=true) (F:(ag||Nat.beq sz 1)=true) (hd:Nat.blt d n.1=true)
  (k:HF P l (QW P ex RR cs N) C fuel (listed.setIfInBounds i true) B h n ((d,if ag then .agg vs.toArray else vs.headD undef)::m)):HF P l (QW P ex RR cs N) C (fuel+1) listed B h n m:=
 Te i s c u hd (λa w G H=>by
  have I:(Bx b T q).holds (λ_=>True) (λx=>x=b) w.heap:=⟨λ_=>Iff.rfl,y w H⟩
  have g:=uR A;have:=N5 (P:=P) (w:=w) (S:=λ_=>True) (p:= .pointer (some ⟨b,o,none⟩)) (cs:=vs) (sz:=sz) (ag:=ag) (t:=t) ⟨⟨b,o,none⟩,rfl,rfl,trivial,λj J=>by
   rw[Bx.cell I,←z,wU (by omega),wX]⟩ g D (λe=>by subst e;simpa using F)
  simp [execOp,G.eval v,this]) k
def tY (i:Nat) {α}{r:BU α}{xs:List α}{T e:Nat}{j:Int}{x:α}(s:l[i]? =some ⟨some d,.indexAddr t X Y,ty,pos,af,none⟩) (c:kB l listed i=true) (u:∀w,Wd B h w→C w) (y:St S L h) (z:OS r T v xs∈L) (A:CL m X=some v) (D:CL m Y=some (.int .i64 j)) (F:RY P t e r.sz=true) (o:ix xs j=some x) (hd:Nat.blt d n.1=true)
  (k:∀q,EP v (j.toNat*r.sz+0) q→HF P l (QW P ex RR cs N) C fuel (listed.setIfInBounds i true) B h n ((d,q)::m)):HF P l (QW P ex RR cs N) C (fuel+1) listed B h n m:=by
 obtain⟨J,cap,rfl,H⟩:=y.osAt z (LK o).2;have G:j.toNat<xs.length:=(uV.1 (LK o).2).1;have b:(⟨J,0,none⟩:Addr).add (j.toNat*r.sz)=⟨J,j.toNat*r.sz,none⟩:=by unfold Addr.add;split<;>simp_all
 exact Te i s c u hd (λa w p I=>by simp [execOp,p.eval A,p.eval D,O7 (P:=P) (w:=w) (cap:=cap) (a:=⟨J,0,none⟩) F (LK o).1 G,b]) (k _ ⟨J,_,_,rfl,rfl⟩)
def HF.w (i:Nat) {o:Oper}(q:l[i]? =some o) (d:o.guard=none) (c:Region.ready .any l.toArray listed=[i])
  (k:LF P l.toArray (Exit.then (λs g=>C g∧wpAnyH P .any l.toArray (QW P ex RR cs N) C fuel (listed.setIfInBounds i true) s g) (QW P ex RR cs N)) [o] B h n m):HF P l (QW P ex RR cs N) C (fuel+1) listed B h n m:=by
 intro a w t u;refine wpAnyH_all c (by simp) λj p=>?_;rw[wI] at p;subst p;unfold wpOp;have b:l.toArray[j]? =some o:=by simpa using q
 simp only[b];rw[uJ (by simp [Region.wanted,d])];exact Ju d (k a w t u)
def sJ (c:Region.ready .any l.toArray listed=[]) (b:Tk m m') (k:WF P ex RR cs N B h n m'):HF P l (QW P ex RR cs N) C fuel listed B h n m:=
 λa w d g=>wpAnyH_done c (k a w (d.sub b) g) _
end
section
variable {P:Program}
end
section
variable {P:Program}{ops:Array Oper}{C:World→Prop}{Q:Act→Prop}{n:FN}{m:SM}{rest:List Oper}{d:Nat}{ty:TypeId}{pos:String}{af:Array Edge}{X Y:Operand}{t2:TypeId}
end
def gL (a:Array Oper) (c f:Nat) (b:List Nat):Bool:=
 (c::b).all (λt=>Nat.blt t a.size)&&decide (f::c::b).Nodup&&Sq a (c::b) [f]&&OB a (c::b)&&OB a (f::b)&&Pn a (c::b)&&NX a&&Region.noSelect a&&Nat.blt f a.size
section
variable {P:Program}{ex:List (Nat×AP)}{RR N:AP}{cs:List Code}{B:World}{h:AX}{n:FN}{m m0:SM}
def X0 {l:List Oper}{id:Nat}(g f:Nat) (s:List Nat) (R:AR) (pss:List (List (Nat×Nat))) (af ag:List (Nat×Nat)) {V of:Oper}{ls:List Oper}(hm:P.follows .mixedOrders=true) (hc:gL l.toArray g f s=true) (ms:List Nat) (ay:m.map (·.1)=ms) (ah:Vm l.toArray (g::s) n ms=true)
  (aa:SG l.toArray (g::s) l pss=true) (aj:(af.all λp=>Nat.blt p.1 l.length&& !(g::s).contains p.1&&(E3 l.toArray p.1).any (Nat.beq p.2 ·))=true)
  (ak:(ag.all λp=>Nat.blt p.1 l.length&& !(g::s).contains p.1&& !Nat.beq p.1 f&&(E3 l.toArray p.1).any (Nat.beq p.2 ·))=true)
  (az:l[g]? =some V) (a0:l[f]? =some of) (ab:V.guard=none) (a1:(s.filterMap λt=>l[t]?)=ls) (al:Tk m0 m)
  (ac:∀i v h1 h2,Gf h h1→Gf h1 h2→R i v h1→R i v h2) (a3:∀i,i∈[f]→Rq (R i))
  (step:BF P l.toArray (Qx ex RR (W P ex RR cs N)) B n m h R (g::s) [f] ZB.none 0 l pss)
  (am:∀h',Gf h h'→PA R h' (λfr=>LF P l.toArray (Qx ex RR (W P ex RR cs N)) (V::ls) B h' n (fr++m)) af [])
  (an:∀h',Gf h h'→PA R h' (λfr=>LF P l.toArray (Qx ex RR (W P ex RR cs N)) (V::of::ls) B h' n (fr++m)) ag []):WF P ex RR (.region id l.toArray true::cs) N B h n m0:=by
 intro a w hf hw;subst ay;simp only[gL,uL,uY] at hc;obtain⟨⟨⟨⟨⟨⟨⟨⟨c1,c2⟩,c3⟩,c4⟩,a4⟩,c5⟩,c6⟩,c7⟩,c8⟩:=hc;simp only[SG,uL] at aa;have ao:l.length=pss.length:=uR aa.1;obtain⟨nf,ap⟩:=yO.1 c2;obtain⟨n1,X⟩:=yO.1 ap;have a5:f∉s:=λh=>nf (vX _ h);have a6:f≠g:=λh=>nf (h▸vW);have aq:f<l.toArray.size:=yF c8;have hQ:∀c a w,¬(Qx ex RR (W P ex RR cs N)) (.panic c) a w:=λc a w hq=>hq;have J:∀t,t∈g::s→t<l.toArray.size:=λt G=>by have:=uQ.1 c1 t G;simp [Nat.blt] at this ⊢;omega
 have H:(s.filterMap λt=>l.toArray[t]?)=ls:=by rw[←a1];congr 1;funext t;simp
 have ho:l.toArray[g]? =some V:=by simpa using az
 have ar:l.toArray[f]? =some of:=by simpa using a0
 have hA:∀(a:Act) (w:World) (h':AX),Wd B h' w→Gf h h'→Fr n a m→(∀i,i<l.toArray.size→i∉g::s→∃d v,E3 l.toArray i=some d∧a.tmps[d]? =some v∧R i v h')→wpList P l.toArray (Qx ex RR (W P ex RR cs N)) (V::ls) a w:=by
  intro a w h' Y Z D g4;obtain⟨fr,K,I⟩:=Kv (a:=a) (n:=n) _ _ (am h' Z) (λp hp=>by
   have e:=uQ.1 aj p hp;simp only[uL,vE] at e;have M:p.1<l.toArray.size:=by have:=e.1.1;simp [Nat.blt] at this ⊢;omega
   obtain⟨d,v,K,I,q3⟩:=g4 p.1 M (λh=>by rw[uT.2 h] at e;cases e.1.2);have e2:=e.2;rw[K] at e2;have:p.2=d:=uR (by simpa using e2);exact⟨v,by rw[this];exact I,q3⟩) ⟨D.dfr,D.siz,λi v y=>by simp [lk] at y⟩
  exact K a w (I.append D) Y
 have hB:∀(a:Act) (w:World) (h':AX),Wd B h' w→Gf h h'→Fr n a m→(∀i,i<l.toArray.size→i∉g::s→i≠f→∃d v,E3 l.toArray i=some d∧a.tmps[d]? =some v∧R i v h')→wpList P l.toArray (Qx ex RR (W P ex RR cs N)) (V::of::ls) a w:=by
  intro a w h' Y Z D g4;obtain⟨fr,K,I⟩:=Kv (a:=a) (n:=n) _ _ (an h' Z) (λp hp=>by
   have e:=uQ.1 ak p hp;simp only[uL,vE] at e;have M:p.1<l.toArray.size:=by have:=e.1.1.1;simp [Nat.blt] at this ⊢;omega
   obtain⟨d,v,K,I,q3⟩:=g4 p.1 M (λh=>by rw[uT.2 h] at e;cases e.1.1.2) (λx=>by
    have:=e.1.2;rw[x] at this;simp at this)
   have e2:=e.2;rw[K] at e2;have:p.2=d:=uR (by simpa using e2);exact⟨v,by rw[this];exact I,q3⟩) ⟨D.dfr,D.siz,λi v y=>by simp [lk] at y⟩
  exact K a w (I.append D) Y
 have a7:∀(q:Nat) (b:Array Bool) (a:Act) (w:World),RW b=q+1→Ru l.toArray (g::s) b→UR B h n m l.toArray (g::s++[]) [f] ZB.none R b a w→(∀i,i<l.toArray.size→i∉g::s→i∉[f]→b.getD i false=true)→g∈Region.ready .any l.toArray b→wpOp P l.toArray (Qx ex RR (W P ex RR cs N)) g (wpAny P .any l.toArray (Qx ex RR (W P ex RR cs N)) q (b.setIfInBounds g true)) a w:=by
  intro q b a w hu Q ai u hr;obtain⟨h1,Y,Z,D,g4⟩:=ai.ex;have au:∀i,i∉g::s→b.getD i false=true→∃d v,E3 l.toArray i=some d∧a.tmps[d]? =some v∧R i v h1:=λi y u=>g4 i (by rw[vR];exact y) u;have av:RW (b.setIfInBounds g true)=q:=by have:=Mm (mem_ready.1 hr).1;omega
  have A:=Q.head hr n1;have aw:∀i,i<l.toArray.size→∀(L:Array Bool),L.size=l.toArray.size→L.getD i false=true→L.getD i true=true:=λi y L hs U=>by
   have:i<L.size:=by omega
   simpa [this] using U
  unfold wpOp;simp only[ho];rw[uJ (by simp [Region.wanted,ab])];cases ad:b.getD f false with
  |true=>
   have U:=hA a w h1 Y Z D λi C F=>au i F (by
    by_cases e:i=f
    ·rw[e];exact ad
    ·exact u i C F λh=>e (by simpa using h))
   unfold wpList at U;rw[uJ (by simp [Region.wanted,ab])] at U;refine U.imp (Oper.wp_mono λa2 w2 hk=>?_) λx=>x;refine Kg c6 s q _ a2 w2 av A.size (λi C F=>aw i C _ A.size ?_) (λt G=>⟨J t (vX _ G),A.tail t G⟩) ?_ X (by rw[H];exact hk)
   ·by_cases M:g=i
    ·subst M;have:g<b.size:=by rw[Q.size];exact C
     simp [this]
    ·refine getD_set_true ?_;by_cases e:i=f
     ·rw[e];exact ad
     ·exact u i C (λh=>(uS.1 h).elim (λx=>M x.symm) F) λh=>e (by simpa using h)
   ·have:=LZ c4;cases s with
    |nil=>trivial
    |cons t r=>exact this.2
  |false=>
   have U:=hB a w h1 Y Z D λi C F p3=>au i F (u i C F λh=>p3 (by simpa using h));unfold wpList at U;rw[uJ (by simp [Region.wanted,ab])] at U;refine U.imp (Oper.wp_mono λa2 w2 hk=>?_) λx=>x;refine Kg c6 (f::s) q _ a2 w2 av A.size (λi C F=>aw i C _ A.size ?_) (λt G=>?_) (LZ a4) (yO.2 ⟨a5,X⟩) (by rw[List.filterMap_cons,ar];simp only;rw[H];exact hk)
   ·by_cases M:g=i
    ·subst M;have:g<b.size:=by rw[Q.size];exact C
     simp [this]
    ·refine getD_set_true (u i C (λh=>(uS.1 h).elim (λx=>M x.symm) λx=>F (vX _ x)) λh=>F ?_);rw[wI.1 h];exact vW
   ·rcases uS.1 G with rfl|G
    ·refine⟨aq,?_⟩;rw[getD_set_ne true (λe=>a6 e.symm)];exact getD_in (by rw[Q.size];exact aq) ad
    ·exact⟨J t (vX _ G),A.tail t G⟩
 refine λrd a8=>O9 a8 Mx hm (Q9 (R:=R) (B:=B) (h0:=h) (n:=n) (m:=m) (g::s) [] [f] ZB.none iH.none (λz hz=>by cases hz) a3 J ap c6 [] [f] (.inr rfl) (.inr (by simpa using c3)) (LZ c4) c5 c7 hQ (λf hf=>by cases hf) (λf hf=>by cases hf) (by rw[vR];exact ah) ac (λi y=>by rw[vR,wI.1 y];exact nf) (λi o d y ho hd=>?_) (λa w h' Y Z D g4 _ _=>?_) (.inr ⟨λf hf=>(by cases hf),λa9 ba e q b a w=>by cases e;exact a7 q b a w⟩) _ _ _ _ ?_ ⟨by simp,λj oj _ u=>(by rw[getD_replicate_false] at u;cases u),λt G=>getD_in (by simpa using J t G) (getD_replicate_false _ _)⟩ (λi y=>by cases y) ⟨⟨h,hw.drew,Gf.refl h,hf.sub al,λi _ u=>(by rw[getD_replicate_false] at u;cases u)⟩,λi _ j _ _ u=>(by rw[getD_replicate_false] at u;cases u),λz hz=>by cases hz⟩)
 ·rw[vR] at y;have ax:l[i]? =some o:=by simpa using ho
  obtain⟨ps,K,I⟩:=BF.at_ (k:=0) step ao (by rw[vO];exact y) ax hd;rw[vO] at I;refine⟨ps,?_,λ_ _=>vD,I⟩;have hz:((o,ps),i)∈(l.zip pss).zipIdx:=by
   rw[vY];exact⟨i,by rw[zQ,(zR (z:=(o,ps))).2 ⟨ax,K⟩];simp⟩
  have:=uQ.1 aa.2 _ hz;rw[uZ] at this;exact this.resolve_left λh=>y (uT.1 h)
 ·have ae:((g::s).filterMap λt=>l.toArray[t]?)=V::ls:=by
   rw[List.filterMap_cons,ho];simp only;rw[H]
  rw[ae];exact hA a w h' Y Z D λi C F=>g4 i C (by rw[vR];exact F)
 ·unfold RW;rw[zH];simp
end
abbrev vI (n:Int):Value:= .int .i64 n
abbrev vP (b o:Nat):Value:= .pointer (some ⟨b,o,none⟩)
abbrev vN:Value:= .slice none 0 0
section
variable {P:Program}{ops:Array Oper}{C:World→Prop}{Q:Act→Prop}{n:FN}{m m':SM}{rest:List Oper}
variable {d:Nat}{ty:TypeId}{pos:String}{af:Array Edge}{X Y:Operand}{t t1 t2:TypeId}{x y:Int}{kd:IntKind}{v p:Value}
def C9 (e:(CL m X,Nat.blt d n.1)=(some v,true)) (k:QF P ops C Q rest n ((d,v)::m)):QF P ops C Q (⟨some d,.move X,ty,pos,af,none⟩::rest) n m:=
 G2 (uP (λz=>z.1) e) (uP (λz=>z.2) e) k
def Tb (e:(CL m X,Nat.blt d n.1)=(some v,true)) (k:QF P ops C Q rest n ((d,v)::m)):QF P ops C Q (⟨some d,.assign X,ty,pos,af,none⟩::rest) n m:=
 Nj (uP (λz=>z.1) e) (uP (λz=>z.2) e) k
def Mr {b}(e:(CL m X,Nat.blt d n.1)=(some (.bool b),true)) (k:QF P ops C Q rest n ((d,.bool (!b))::m)):QF P ops C Q (⟨some d,.unOp .not t1 X,ty,pos,af,none⟩::rest) n m:=
 Wv (uP (λz=>z.1) e) (uP (λz=>z.2) e) k
def EC {o:Oper}{j e:Nat}{b:Bool}(e:(o.guard,(ops[j]?).bind (·.dst),lk m e)=(some (j,b),some e,some (.bool b))) (k:QF P ops C Q ({ o with guard:=none}::rest) n m):QF P ops C Q (o::rest) n m:=
 YF (uP (λz=>z.1) e) (uP (λz=>z.2.1) e) (uP (λz=>z.2.2) e) k
def Ht {c X Y:Operand}{b:Bool}(e:(CL m c,CL m (if b then X else Y),Nat.blt d n.1)=(some (.bool b),some v,true)) (k:QF P ops C Q rest n ((d,v)::m)):QF P ops C Q (⟨some d,.pick c X Y,ty,pos,af,none⟩::rest) n m:=
 RG (uP (λz=>z.1) e) (uP (λz=>z.2.1) e) (uP (λz=>z.2.2) e) k
def RH (e:(CL m X,CL m Y,Nat.blt d n.1)=(some (.int kd x),some (.int kd y),true)) (k:QF P ops C Q rest n ((d,.bool (decide (x<y)))::m)):QF P ops C Q (⟨some d,.binOp .lss t1 X Y t2,ty,pos,af,none⟩::rest) n m:=
 cG (uP (λz=>z.1) e) (uP (λz=>z.2.1) e) (uP (λz=>z.2.2) e) k
def U6 (e:(CL m X,CL m Y,Nat.blt d n.1)=(some (.int kd x),some (.int kd y),true)) (k:QF P ops C Q rest n ((d,.bool (decide (x≤y)))::m)):QF P ops C Q (⟨some d,.binOp .leq t1 X Y t2,ty,pos,af,none⟩::rest) n m:=
 cH (uP (λz=>z.1) e) (uP (λz=>z.2.1) e) (uP (λz=>z.2.2) e) k
def YG (e:(CL m X,CL m Y,Nat.blt d n.1)=(some (.int kd x),some (.int kd y),true)) (k:QF P ops C Q rest n ((d,.bool (decide (y<x)))::m)):QF P ops C Q (⟨some d,.binOp .gtr t1 X Y t2,ty,pos,af,none⟩::rest) n m:=
 Ww (uP (λz=>z.1) e) (uP (λz=>z.2.1) e) (uP (λz=>z.2.2) e) k
def RI (e:(CL m X,CL m Y,Nat.blt d n.1)=(some (.int kd x),some (.int kd y),true)) (k:QF P ops C Q rest n ((d,.bool (decide (y≤x)))::m)):QF P ops C Q (⟨some d,.binOp .geq t1 X Y t2,ty,pos,af,none⟩::rest) n m:=
 cJ (uP (λz=>z.1) e) (uP (λz=>z.2.1) e) (uP (λz=>z.2.2) e) k
def eS (e:(CL m X,CL m Y,Nat.blt d n.1)=(some (.int kd x),some (.int kd y),true)) (k:QF P ops C Q rest n ((d,.bool (decide (x≠y)))::m)):QF P ops C Q (⟨some d,.binOp .neq t1 X Y t2,ty,pos,af,none⟩::rest) n m:=
 cE (uP (λz=>z.1) e) (uP (λz=>z.2.1) e) (uP (λz=>z.2.2) e) k
def RK (e:(CL m X,CL m Y,Nat.blt d n.1)=(some (.int .i64 x),some (.int .i64 y),true)) (k:QF P ops C Q rest n ((d,.int .i64 (BR (x+y)))::m)):QF P ops C Q (⟨some d,.binOp .add t1 X Y t2,ty,pos,af,none⟩::rest) n m:=
 YJ (uP (λz=>z.1) e) (uP (λz=>z.2.1) e) (uP (λz=>z.2.2) e) k
def WI (e:(CL m X,CL m Y,Nat.blt d n.1)=(some (.int .i64 x),some (.int .i64 y),true)) (k:QF P ops C Q rest n ((d,.int .i64 (BR (x-y)))::m)):QF P ops C Q (⟨some d,.binOp .sub t1 X Y t2,ty,pos,af,none⟩::rest) n m:=
 YD (uP (λz=>z.1) e) (uP (λz=>z.2.1) e) (uP (λz=>z.2.2) e) k
def VA {xs:Array Value}{i:Nat}{u:Value}(e:(CL m X,xs[i]?,Nat.blt d n.1)=(some (.tuple xs),some u,true)) (k:QF P ops C Q rest n ((d,u)::m)):QF P ops C Q (⟨some d,.extract X i,ty,pos,af,none⟩::rest) n m:=
 cK (uP (λz=>z.1) e) (uP (λz=>z.2.1) e) (uP (λz=>z.2.2) e) k
end
section
variable {P:Program}{ex:List (Nat×AP)}{R N:AP}{cs:List Code}{B:World}{h:AX}{n:FN}{m m':SM}
def Lo {l:List Oper}{id:Nat}{y:Code}(k:QF P l.toArray (Wd B h) (λa=>∀w,Wd B h w→W P ex R (y::cs) N a w) l n m):WF P ex R (.seq (.region id l.toArray false) y::cs) N B h n m:=ET (Ix (.inl rfl) k)
def WF.sl {l:List Oper}{id:Nat}{y:Code}(k:LF P l.toArray (Qx ex R (W P ex R (y::cs) N)) l B h n m):WF P ex R (.seq (.region id l.toArray false) y::cs) N B h n m:=ET (Ej k)
def Md {ops:Array Oper}{C:World→Prop}{d:Nat}{ty:TypeId}{pos:String}{af:Array Edge}{X:Operand}{v:Value}(e:(CL m X,Nat.blt d n.1)=(some v,true)) (b:Tk ((d,v)::m) m') (k:WF P ex R cs N B h n m'):QF P ops C (λa=>∀w,Wd B h w→W P ex R cs N a w) [⟨some d,.assign X,ty,pos,af,none⟩] n m:=Tb e (Jb b k)
def AE {ex:List (Nat×AP)}{R N:AP}{m:SM}{b:Bool}{k:Type}{a d r:k}{X:Operand}{x y:Code}(g:CL m X=some (.bool b)) (E:cond b a d=r) (i:b=true→a=r→WF P ex R (x::cs) N B h n m) (j:b=false→d=r→WF P ex R (y::cs) N B h n m):WF P ex R (.cond X x y::cs) N B h n m:=U2 g (λc=>i c (H7 c E)) (λc=>j c (H8 c E))
end
end Go.Proofs.YtibidnaedddfdaaGreat
