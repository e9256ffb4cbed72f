import Derived.Test.YtedgiljmffngoaaGreatFCore22
namespace Go.Proofs.YtedgiljmffngoaaGreat
set_option linter.all false
open Go.RowKit
def eP {α}(l:List α) (i:Int):Option (List α):=if 0≤i∧i≤l.length∧0<l.length then some (l.take i.toNat) else none
def eQ {α}(l:List α) (i:Int):Option (List α):=if 0≤i∧i<l.length then some (l.drop i.toNat) else none
section
variable {P:Program}{ops:Array Oper}{C:World→Prop}{Q:Act→Prop}{n:FN}{m m':SM}{rest:List Oper}
variable {d:Nat}{ty:TypeId}{pos:String}{af:Array Edge}{X Y Z:Operand}{t:TypeId}{kd:IntKind}{v p:Value}{S:Nat→Prop}{h:AT}
def Sl.ne {α}{r:BB α}{l:List α}(k:Sl S h r v l) (h0:0<l.length):∃(b o cap:Nat),v= .slice (some ⟨b,o,none⟩) l.length cap∧l.length≤cap∧cap≤maxLen∧∀i x,l[i]? =some x→Pt S h r (.pointer (some ⟨b,o+i*r.sz,none⟩)) x:=by
 rcases k with ⟨_,rfl⟩|⟨a,cap,h1,h4,h5,h6⟩
 ·cases h0
 ·have c:=(h6 0 l[0] (by simp [h0])).1;obtain⟨b,o,g⟩:=a;simp only at c;subst c;exact⟨b,o,cap,h1,h4,h5,λi x d=>(h6 i x d).2⟩
def XK {α}{r:BB α}{e:TypeId}{l g:List α}{y:Int}(p:BU m X=some v) (q:BU m Y=some (.int kd y)) (k0:Sl S h r v l) (s:N5 P t e r.sz=true) (a:eP l y=some g) (hd:Nat.blt d n.1=true)
  (k:∀H,Sl S h r H g→QF P ops C Q rest n ((d,H)::m)):QF P ops C Q (⟨some d,.slice t X none (some Y) none,ty,pos,af,none⟩::rest) n m:=by
 unfold eP at a;split at a
 ·rename_i w;obtain⟨D,F,z⟩:=w;cases a;obtain⟨b,o,cap,rfl,G,A,B⟩:=k0.ne z;refine WK p q (j:=y.toNat) (by omega) s (by omega) hd (k _ (.inr ⟨⟨b,o,none⟩,cap,?_,?_,A,λi x c=>⟨rfl,?_⟩⟩))
  ·rw[iL,Nat.min_eq_left (by omega)]
  ·rw[iL];omega
  ·rw[List.getElem?_take] at c;split at c
   ·exact B i x c
   ·cases c
 ·cases a
def XL {α}{r:BB α}{e:TypeId}{l c:List α}{y:Int}(p:BU m X=some v) (q:BU m Y=some (.int kd y)) (k0:Sl S h r v l) (s:N5 P t e r.sz=true) (a:eQ l y=some c) (hd:Nat.blt d n.1=true)
  (k:∀G,Sl S h r G c→QF P ops C Q rest n ((d,G)::m)):QF P ops C Q (⟨some d,.slice t X (some Y) none none,ty,pos,af,none⟩::rest) n m:=by
 unfold eQ at a;split at a
 ·rename_i w;obtain⟨A,B⟩:=w;cases a;obtain⟨b,o,cap,rfl,D,F,z⟩:=k0.ne (by omega);refine aC p q (j:=y.toNat) (by omega) s (by omega) (by omega) hd (k _ (.inr ⟨⟨b,o+y.toNat*r.sz,none⟩,cap-y.toNat,?_,?_,by omega,λi x g=>⟨rfl,?_⟩⟩))
  ·rw[iW]
  ·rw[iW];omega
  ·rw[jN] at g;have:=z _ x g;rw[jK,←Nat.add_assoc] at this;exact this
 ·cases a
end
def GY:BB Value where
 sz:=1
 ag:=false
 rd:=λ_ _ cs x=>cs=[x]∧x.oneCell'=true
 len:=λ⟨h,_⟩=>by rw[h];rfl
 one:=λ⟨h,k⟩ v a=>by rw[h] at a;simp at a;rw[a];exact k
 mono:=λk _ _=>k
def SU {α}(r:BB α) (e:TypeId):List Value→List (List α)→List HP
 |u::a,l::b=>OS r e u l::SU r e a b
 |_,_=>[]
def OO {α}(r:BB α) (e T:TypeId) (v:Value) (ll:List (List α)):HP where
 holds:=λS F h=>∃vs:List Value,vs.length=ll.length∧Sp S (OS GY T v vs::SU r e vs ll) h F
 loc:=λ⟨vs,a,k⟩ s e=>⟨vs,a,Sp.ext k s e λ_ x=>x⟩
section
variable {α:Type}{r:BB α}{e T:TypeId}{v u:Value}{l:List α}{vs:List Value}{ll:List (List α)}{S F:Nat→Prop}{h:AT}{L L2:List HP}
def St.ooOpen (c:St S (OO r e T v ll::L) h):∃vs:List Value,vs.length=ll.length∧St S (OS GY T v vs::P2 (SU r e vs ll)::L) h:=by
 obtain⟨F,⟨vs,i,G,j,d,k⟩,g,l⟩:=c.2;exact⟨vs,i,c.1,G,j,λb a=>g b (d b a),λb=>F b∧¬G b,k,λb a=>⟨g b a.1,a.2⟩,l.mono λb a=>⟨⟨a.1,λx=>a.2 (d b x)⟩,λx=>a.2 x.1⟩⟩
def Oh (g:vs.length=ll.length) (c:St S (OS GY T v vs::P2 (SU r e vs ll)::L) h):St S (OO r e T v ll::L) h:=by
 obtain⟨G,i,j,k,l,d,m⟩:=c.2;exact⟨c.1,λb=>G b∨k b,⟨vs,g,G,i,λ_ x=> .inl x,Sp.mono l λb a=>⟨.inr a,(d b a).2⟩⟩,λb a=>a.elim (j b) λx=>(d b x).1,m.mono λb a=>⟨a.1.1,λx=>x.elim a.1.2 a.2⟩⟩
def SU.pick:∀{vs:List Value}{ll:List (List α)}{i:Nat}{u:Value}{l:List α},vs[i]? =some u→ll[i]? =some l→
  ∃M,OA (SU r e vs ll) (OS r e u l) M∧∀c d,OA (SU r e (vs.set i c) (ll.set i d)) (OS r e c d) M
 |[],_,_,_,_,a,_=>by simp at a
 |_::_,[],_,_,_,_,b=>by simp at b
 |g::j,k::m,0,u,l,a,b=>by
  simp only[jB,hY] at a b;subst a;subst b;exact⟨_,.head,λ_ _=> .head⟩
 |g::j,k::m,i+1,u,l,a,b=>by
  simp only[iX] at a b;obtain⟨M,p,q⟩:=SU.pick a b;exact⟨_,.tail p,λc d=> .tail (q c d)⟩
def PZ {i:Nat}(s:vs[i]? =some u) (t:ll[i]? =some l):∃M,(∀{S:Nat→Prop}{h:AT}{L:List HP},St S (P2 (SU r e vs ll)::L) h→St S (OS r e u l::P2 M::L) h)∧
  ∀d g {S:Nat→Prop} {h:AT} {L:List HP},St S (OS r e d g::P2 M::L) h→St S (P2 (SU r e (vs.set i d) (ll.set i g))::L) h:=by
 obtain⟨M,p,q⟩:=SU.pick (r:=r) (e:=e) s t;refine⟨M,λ{S h L} c=>?_,λd g {S h L} c=>?_⟩
 ·obtain⟨F,v,n,w⟩:=c.2;obtain⟨G,k,j,m⟩:=Sp.pick p v;exact⟨c.1,G,k,λb a=>n b (j b a),λb=>F b∧¬G b,m,λb a=>⟨n b a.1,a.2⟩,w.mono λb a=>⟨⟨a.1,λx=>a.2 (j b x)⟩,λx=>a.2 x.1⟩⟩
 ·obtain⟨G,k,j,y,m,o,z⟩:=c.2;exact⟨c.1,λb=>G b∨y b,LD (q d g) ⟨G,k,λ_ x=> .inl x,Sp.mono m λb a=>⟨.inr a,(o b a).2⟩⟩,λb a=>a.elim (j b) λx=>(o b x).1,z.mono λb a=>⟨a.1.1,λx=>x.elim a.1.2 a.2⟩⟩
def Rr:∀{vs:List Value}{cs:List Value},KW S h GY cs vs→cs=vs
 |[],_,k=>k
 |x::vs,cs,⟨c,i,e,d,g⟩=>by
  have a:c=[x]:=d.1;have b:=Rr g;subst e;subst a;subst b;rfl
def T5 {S2:Nat→Prop}:∀{vs:List Value}{ll:List (List α)},vs.length=ll.length→(∀(i:Nat) (u:Value) (l:List α),vs[i]? =some u→ll[i]? =some l→Sl S2 h r u l)→KW S2 h (BB.sl r) vs ll
 |[],[],_,_=>rfl
 |u::vs,l::ll,c,k=>⟨[u],vs,rfl,⟨u,rfl,k 0 u l rfl rfl⟩,T5 (Nat.succ.inj c) λi d g a b=>k (i+1) d g a b⟩
def Vh {S2:Nat→Prop}:∀{vs:List Value}{ll:List (List α)}{A:Nat→Prop},Sp S (SU r e vs ll) h A→(∀b,S b→S2 b)→(∀b,A b→S2 b)→∀(i:Nat) (u:Value) (l:List α),vs[i]? =some u→ll[i]? =some l→Sl S2 h r u l
 |[],_,_,_,_,_,_,_,_,c,_=>by simp at c
 |_::_,[],_,_,_,_,_,_,_,_,d=>by simp at d
 |n::o,p::q,A,⟨F,j,k,m⟩,s,a,0,u,l,c,d=>by
  simp only[jB,hY] at c d;subst c;subst d;exact OS.sl (HP.loc _ j s λ_ _=>rfl) λb g=>a b (k b g)
 |n::o,p::q,A,⟨F,j,k,m⟩,s,a,i+1,u,l,c,d=>by
  simp only[iX] at c d;exact Vh m s (λb g=>a b g.1) i u l c d
def St.ooPub (a:St S (OO r e T v ll::L) h):∃S',St S' (OS (BB.sl r) T v ll::L) h∧B6 S h S' h:=by
 obtain⟨vs,c,a⟩:=a.ooOpen;obtain⟨F,i,t,d,j⟩:=a.pub (.tail .head);have k:=Vh (S2:=λb=>S b∨F b) i (λ_ x=> .inl x) λ_ x=> .inr x;refine⟨_,?_,j⟩;obtain⟨G,l,m,n⟩:=d.2;refine⟨d.1,G,?_,m,n⟩;rcases l with ⟨o,p,q⟩|⟨g,cap,cur,k1,k2,k3,k4,k5,k6,k7⟩
 ·subst p;have:ll=[]:=List.length_eq_zero_iff.1 c.symm;exact .inl ⟨o,this,q⟩
 ·rw[c] at k1 k4 k7;refine .inr ⟨g,cap,cur,k1,k2,k3,k4,k5,k6,?_⟩;have s:=Rr k7;have:=T5 c k;rw[←s] at this;exact this
def UD:∀{n:Nat}{A:Nat→Prop},Sp S (SU r e (List.replicate n (.slice none 0 0)) (List.replicate n ([]:List α))) h A
 |0,_=>trivial
 |n+1,A=>⟨λ_=>False,.inl ⟨⟨none,rfl⟩,rfl,λ_ x=>x⟩,λ_ x=>x.elim,UD⟩
def St.ooNil {n:Nat}(a:St S (OS GY T v (List.replicate n (.slice none 0 0))::L) h):St S (OO r e T v (List.replicate n ([]:List α))::L) h:=by
 refine Oh (vs:=List.replicate n (.slice none 0 0)) (by simp) ?_;obtain⟨G,c,d,g⟩:=a.2;exact⟨a.1,G,c,d,λ_=>False,UD,λ_ x=>x.elim,g.mono λb i=>⟨i,λx=>x⟩⟩
end
abbrev XH (a:Type):=(Nat→Prop)→AT→Value→a→Prop
def BB.fnr {o p:Type}(P:Program) (AR:SS o) (j:XH p):BB (o→Option p) where
 sz:=1
 ag:=false
 rd:=λS q cs t=>∃(f:FuncId) (a:Array Value),cs=[.func (.func f) #[] a]∧BH P f=true∧∀(S':Nat→Prop) (h':AT),(∀b,S b→S' b)→(∀b,S b→h'[b]? =q[b]?)→∀L,St S' L h'→∀x y vs,AR S' h' vs x→t x=some y→
  B0 P f (vs++a.toList).toArray S' h' (λv c d=>j c d v y∧St c L d)
 len:=λ⟨_,_,q,_⟩=>by rw[q];rfl
 one:=λ⟨_,_,q,_⟩ v i=>by rw[q] at i;simp at i;rw[i];rfl
 mono:=λ⟨f,a,k,l,m⟩ s e=>⟨f,a,k,l,λS' h' s' n=>m S' h' (λb g=>s' b (s b g)) λb g=>(n b (s b g)).trans (e b g)⟩
def Rd.fnr {i j:Type}{P:Program}{AR:SS i}{g:XH j}{S l v}{m:i→Option j}(k:Rd S l (BB.fnr P AR g) v m):
  ∃(f:FuncId) (a:Array Value),v= .func (.func f) #[] a∧BH P f=true∧∀(S':Nat→Prop) (h':AT),(∀b,S b→S' b)→(∀b,S b→h'[b]? =l[b]?)→∀L,St S' L h'→∀x y vs,AR S' h' vs x→m x=some y→
  B0 P f (vs++a.toList).toArray S' h' (λv c d=>g c d v y∧St c L d):=by
 obtain⟨_,rfl,f,a,rfl,l⟩:=k;exact⟨f,a,rfl,l⟩
def MU {k l:Type}{P:Program}{AR:SS k}{g:XH l}{S h}{m:k→Option l}(f:FuncId) (a:Array Value) (i:BH P f=true)
  (j:∀(S':Nat→Prop) (h':AT),(∀b,S b→S' b)→(∀b,S b→h'[b]? =h[b]?)→∀L,St S' L h'→∀x y vs,AR S' h' vs x→m x=some y→B0 P f (vs++a.toList).toArray S' h' (λv c d=>g c d v y∧St c L d)):
  Rd S h (BB.fnr P AR g) (.func (.func f) #[] a) m:=⟨_,rfl,f,a,rfl,i,j⟩
def fL {c d:Type}(r:BB c) (r':BB d):XH (List c×List d):=λS g v y=>∃a b,v= .tuple #[a,b]∧Sl S g r a y.1∧Sl S g r' b y.2
def B0.grow {P f args S h}{b a:Value→(Nat→Prop)→AT→Prop}(k:B0 P f args S h b) (c:∀v S' h',b v S' h'→∃S2,B6 S' h' S2 h'∧a v S2 h'):B0 P f args S h a:=
 λB w d=>(k B w d).mono λ_ _ ⟨v,S',h',g,i,j,l⟩=>let ⟨S2,e,m⟩:=c v S' h' l;⟨v,S2,h',g,i,j.trans e,m⟩
def Ns {s t:Type}{r:BB s}{r':BB t}{e j:TypeId}{P:Program}{f:FuncId}{a:Array Value}{S:Nat→Prop}{u:AT}{L:List HP}{y:List s×List t}
  (k:B0 P f a S u (λv S' h'=>∃b c,v= .tuple #[b,c]∧St S' (OS r e b y.1::OS r' j c y.2::L) h')):
  B0 P f a S u (λv S' h'=>fL r r' S' h' v y∧St S' L h'):=by
 refine k.grow λv S' h' ⟨b,c,l,m⟩=>?_;obtain⟨q,d,n,o⟩:=m.pubs .head;obtain⟨S2,g,i,p⟩:=d.pubs .head;exact⟨S2,n.trans i,⟨b,c,l,o.mono i.sub i.same,p⟩,g⟩
end Go.Proofs.YtedgiljmffngoaaGreat
