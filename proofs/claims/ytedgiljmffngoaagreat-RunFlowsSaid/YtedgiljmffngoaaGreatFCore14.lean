import Derived.Test.YtedgiljmffngoaaGreatFCore13
namespace Go.Proofs.YtedgiljmffngoaaGreat
set_option linter.all false
open Go.RowKit
def VR (ops:Array Oper) (n:Nat) (F:List Nat):Bool:=
 (List.range n).all λi=>F.contains i||(List.range (n+1)).any λj=>decide (i<j)&& !F.contains j&&Region.waitsFor .any ops j i
def K2 (ops:Array Oper) (f:Nat):Bool:=(List.range ops.size).all λj=>j==f||(Region.waitsFor .any ops j f||(Region.waitsFor .any ops f j||match ops[f]?,ops[j]? with
 |some oi,some a=>oi.apart ops a
 |_,_=>false))
def M0 (P:Program) (ops:Array Oper) (n:FN) (m:SM) (h0:AT) (R:AR) (i:Nat) (o:Oper) (b:List (Nat×Nat)):Prop:=
 ∀mt h,CF h0 h→PA R h (λfr=>∀a,Fr n a (fr++(m++mt))→∃v,Yields P ops o v a∧R i v h) b []
section
variable {P:Program}{ops:Array Oper}{Q:Exit→Act→World→Prop}{a:Act}{w:World}
def Sb {n:Nat}{F:List Nat}{a:Array Bool}(J:VR ops n F=true) (K:Region.chainB .any ops n=true) (W:n<ops.size) (m:HeadInv .any ops n a):
  ∀(Y i:Nat),n-i=Y→i<n→i∉F→a.getD i true=false→∀t,n≤t→t∉Region.ready .any ops a:=by
 intro Y
 induction Y using Nat.strongRecOn with
 |_ Y M=>
  intro i hd Q w p t X C;obtain⟨_,D,o,g⟩:=mem_ready.1 C;have q:t<ops.size:=(gR.1 o).1;by_cases x:t=n
  ·subst x;have k:=gE.1 J i (gP.2 Q);simp only[gT,gI,w,iB] at k;obtain⟨j,U,b⟩:=List.any_eq_true.1 k;simp only[gG,hO,gS] at b;have y:j∉F:=λh=>by
    have:=b.1.2;rw[gI.2 h] at this;cases this
   obtain⟨G,s,e,u,v,c⟩:=Region.waitsFor_spec b.2;have H:j≤t:=by have:=gP.1 U;omega
   by_cases z:j=t
   ·subst z;have:G=D:=gC (s.symm.trans o);subst this;have l:=g e u v;rw[c,getD_both p] at l;cases l
   ·cases I:a.getD j false with
    |true=>
     have l:=m.closed j G s I e u v;rw[c,getD_both p] at l;cases l
    |false=>
     have A:j<a.size:=by rw[m.size];omega
     exact M (t-j) (by have:=b.1.1;omega) j rfl (by omega) y (getD_in A I) t (gN _) C
  ·have k:=gE.1 K t (gP.2 q);simp only[gT,hO] at k;rcases k with k|k
   ·omega
   ·obtain⟨V,B,e,u,v,c⟩:=Region.waitsFor_spec k;have:V=D:=gC (B.symm.trans o);subst this;have l:=g e u v;rw[c,getD_both (m.tail (t-1) (by omega) (by omega))] at l;cases l
def WD {B:World}{h0:AT}{kk:Nat}{n:FN}{m:SM}{R:AR}(am:kk≤ops.size) (hb:K3 ops=true)
  (F:List Nat) (ah:kk=ops.size∨(VR ops kk F=true∧Region.chainB .any ops kk=true)) (az:Region.noSelect ops=true) (hQ:∀c a w,¬Q (.panic c) a w)
  (hF:∀f,f∈F→f<kk∧K2 ops f=true∧∃o d K,ops[f]? =some o∧o.dst=some d∧PE ops o K=true∧M0 P ops n m h0 R f o K)
  (aj:W1 ops kk n (m.map (·.1))=true)
  (an:∀i v h h',CF h0 h→CF h h'→R i v h→R i v h')
  (step:∀i o d,i<kk→ops[i]? =some o→o.dst=some d→∃K,PE ops o K=true∧Ri P ops Q B n m h0 R i o d K)
  (a0:∀a w h,Wd B h w→CF h0 h→Fr n a m→(∀i,i<kk→∃d v,Ct ops i=some d∧a.tmps[d]? =some v∧R i v h)→wpList P ops Q (ops.toList.drop kk) a w):
  ∀(s:Nat) (k:Array Bool) (a:Act) (w:World),Oq k=s→HeadInv .any ops kk k→dZ B h0 n m ops kk R k a w→wpAny P .any ops Q s k a w:=by
 intro s
 induction s with
 |zero=>
  intro k a w hu q ai;have t:∀i,k.getD i true=true:=λi=>NG hu;obtain⟨h,g1,g2,M,g4⟩:=ai.ex;have hk:kk=ops.size:=by
   rcases kF am with h|h
   ·have y:=q.tail kk (gN _) h;have h2:=t kk;rw[y] at h2;cases h2
   ·exact h
  have hf:=a0 a w h g1 g2 M λi z=>g4 i z (by
   have h2:=t i;have:i<k.size:=by rw[q.size];omega
   simpa [this] using h2)
  rw[jC (by simp;omega)] at hf;exact⟨Nt λi _=>t i,hf⟩
 |succ s ih=>
  intro k a w hu q ai;obtain⟨h,g1,g2,M,g4⟩:=ai.ex;by_cases t:∀i,i<kk→k.getD i true=true
  ·
   have hf:=a0 a w h g1 g2 M λi z=>g4 i z (by
    have h2:=t i z;have:i<k.size:=by rw[q.size];omega
    simpa [this] using h2)
   have bp:kk<ops.size:=by
    rcases kF am with h|h
    ·exact h
    ·exfalso;have ao:∀b∈k.toList,b=true:=by
      intro b A;obtain⟨i,z,rfl⟩:=List.mem_iff_getElem.1 A;have ab:i<k.size:=by simpa using z
      have:=t i (by have:=q.size;omega);simpa [ab] using this
     have:Oq k=0:=by
      unfold Oq;rw[List.count_eq_zero];intro hm;have:=ao _ hm;cases this
     omega
   rcases ah with hc|⟨_,hc⟩
   ·omega
   ·refine OP hc hb (s+1) kk k a w (gN _) ?_ q.size t (λj U ap=>q.tail j U ap) hf;have:=RP (by rw[q.size];exact am) t (λj U ap=>q.tail j U (by rw[←q.size];exact ap));rw[q.size] at this;omega
  ·have D:∀i o,i<kk→i∈Region.ready .any ops k→ops[i]? =some o→∀K,PE ops o K=true→∀p∈K,∃v,a.tmps[p.2]? =some v∧R p.1 v h:=by
    intro i o G z H K V;obtain⟨aq,o',ac,ak⟩:=mem_ready.1 z;have:o'=o:=gC (ac.symm.trans H);subst this;have al:i<ops.size:=(gR.1 H).1;have ad:∀j∈Js o',∃d v,Ct ops j=some d∧a.tmps[d]? =some v∧R j v h:=by
     intro j U;obtain⟨e,he,rfl⟩:=iJ.1 U;obtain⟨be,a1⟩:=iQ.1 he;have a2:e∈o'.after:=by simpa using be
     have y:=ak e a2 a1;have h4:=gE.1 hb i (gP.2 al);rw[H] at h4;simp only[iU,iI,iV] at h4;have h6:=h4 e a2;simp only[a1,iP,iN,hO] at h6;exact g4 e.on (by omega) y
    intro p hp;have y:=gE.1 V p hp;simp only[gG] at y;obtain⟨d',v,q1,q2,q3⟩:=ad p.1 (by simpa using y.1);have h2:=y.2;rw[q1] at h2;have:p.2=d':=gH (by simpa using h2);exact⟨v,by rw[this];exact q2,q3⟩
   have W:∀i o d,i<kk→i∈Region.ready .any ops k→ops[i]? =some o→o.dst=some d→∀v w' h',Wd B h' w'→CF h h'→R i v h'→wpAny P .any ops Q s (k.setIfInBounds i true) (a.put (some d) v) w':=by
    intro i o d G z H I v w' h' bf ac hr;obtain⟨aq,_,_,_⟩:=mem_ready.1 z;have hd:Ct ops i=some d:=by unfold Ct;rw[H];exact I
    have l:=gE.1 aj i (gP.2 G);rw[hd] at l;simp only[gG,gS,gE,gP,gT] at l;obtain⟨⟨ae,ar⟩,a3⟩:=l;have X:d+1≤n.1:=by simpa [Nat.blt] using ae
    have Y:d<n.1:=X;refine ih _ _ _ (by have:=JL aq;omega) (q.set z G) ⟨h',bf,g2.trans ac,?_,λj U hl=>?_⟩
    ·have hp:=M.put ae v;refine⟨hp.dfr,hp.siz,λi' u ab=>hp.at_ i' u ?_⟩;have J:Nat.beq d i'=false:=by
      cases A:Nat.beq d i' with
      |false=>rfl
      |true=>
       have:=gH A;subst this;have y:=QR ab;rw[←gI] at y;rw[y] at ar;cases ar
     simp only[lk,J,gU];exact ab
    ·by_cases e:i=j
     ·subst e;refine⟨d,v,hd,?_,hr⟩;simp only[Act.put,iA];have:=M.siz;simp [this,Y]
     ·rw[getD_set_ne false e] at hl;obtain⟨dj,vj,q1,q2,q3⟩:=g4 j U hl;refine⟨dj,vj,q1,?_,an _ _ _ _ g2 ac q3⟩;have y:=a3 j U;rw[q1] at y;have J:d≠dj:=by
       rcases y with y|y
       ·exact absurd (gH y) e
       ·intro e';subst e';simp at y
      simp only[Act.put,iA];rw[gL J];exact q2
   by_cases a4:∃f,f∈F∧f∈Region.ready .any ops k
   ·obtain⟨f,bg,af⟩:=a4;obtain⟨a5,au,o,d,K,H,I,V,bh⟩:=hF f bg;obtain⟨fr,hK,Z⟩:=Hu (a:=a) (n:=n) _ _ (bh (Eh a) h g2) (D f o a5 af H K V) ⟨M.dfr,M.siz,λi v z=>by simp [lk] at z⟩;obtain⟨v,hy,hr⟩:=hK a (Z.append (M.append M.full));refine wpAny_first H (Region.noSelect_spec az) (λc a w hq=>absurd hq (hQ c _ w)) s k a w (λj oj U J a6 av=>?_) af hy ?_
    ·have y:=gE.1 au j (gP.2 (gR.1 U).1);simp only[H,U,gT,beq_iff_eq,J,iB] at y;rcases y with y|y
     ·obtain⟨bi,a7,e,he,A,aw⟩:=Region.waitsFor_spec y;have:bi=oj:=gC (a7.symm.trans U);subst this;exact absurd aw (av e he A)
     ·rcases y with y|y
      ·obtain⟨bj,a8,e,he,A,aw⟩:=Region.waitsFor_spec y;obtain⟨_,bk,a9,ax⟩:=mem_ready.1 af;have:bj=bk:=gC (a8.symm.trans a9);subst this;have h5:=ax e he A;rw[aw,getD_both a6] at h5;cases h5
      ·exact y
    ·rw[I];exact W f o d a5 af H I v w h g1 (CF.refl h) hr
   obtain⟨k0,bl,ba,bb⟩:∃k0,k0<kk∧k.getD k0 true=false∧k0∉F:=by
    obtain⟨k1,bq,bm⟩:∃k0,k0<kk∧k.getD k0 true=false:=by
     apply jU;intro av;refine t λi z=>?_;cases hl:k.getD i true with
     |true=>rfl
     |false=>exact absurd ⟨i,z,hl⟩ av
    obtain⟨i0,q1,ag,_⟩:=Gi hb q.size (show k1<ops.size by omega) bm;exact⟨i0,by omega,(mem_ready.1 ag).1,λhf=>a4 ⟨i0,hf,ag⟩⟩
   obtain⟨i0,_,ag,_⟩:=Gi hb q.size (show k0<ops.size by omega) ba;refine⟨λh0=>absurd (h0▸ag) (by simp),λi z=>?_⟩;obtain⟨aq,o,H,ak⟩:=mem_ready.1 z;have al:i<ops.size:=(gR.1 H).1;have G:i<kk:=by
    rcases jL i kk with h|h
    ·exact h
    ·rcases ah with hc|⟨hs,hc⟩
     ·omega
     ·exact absurd z (Sb hs hc (by omega) q _ k0 rfl bl bb ba i h)
   have l:=gE.1 aj i (gP.2 G);cases hd:Ct ops i with
   |none=>rw[hd] at l;cases l
   |some d=>
   rw[hd] at l;simp only[gG,gS,gE,gP,gT] at l;obtain⟨⟨ae,ar⟩,a3⟩:=l;have X:d+1≤n.1:=by simpa [Nat.blt] using ae
   have Y:d<n.1:=X;have I:o.dst=some d:=by unfold Ct at hd;rw[H] at hd;exact hd
   obtain⟨K,V,ay⟩:=step i o d G H I;have aa:=D i o G z H K V;obtain⟨fr,hK,Z⟩:=Hu (a:=a) (n:=n) _ _ (ay (Eh a) h g2) aa ⟨M.dfr,M.siz,λi v z=>by simp [lk] at z⟩;have C:Fr n a (fr++(m++Eh a)):=Z.append (M.append M.full);have bn:∀i u,a.tmps[i]? =some u→lk (fr++(m++Eh a)) i=some u:=by
    intro i u hu;have hl:lk (Eh a) i=some u:=by
     have:i<a.tmps.size:=(gR.1 hu).1;rw[Nw this];simp [iE,hu]
    have bo:∃u',lk (fr++(m++Eh a)) i=some u':=by
     rw[Gd,Gd,hl];cases lk fr i with
     |some x=>exact⟨x,by simp⟩
     |none=>cases lk m i with
      |some x=>exact⟨x,by simp⟩
      |none=>exact⟨u,by simp⟩
    obtain⟨u',bc⟩:=bo;have:=C.at_ i u' bc;rw[hu] at this;rw[bc,←gC this]
   have next:=W i o d G z H I
   have conv:∀a' w',KS B n d (R i) h (fr++(m++Eh a)) a' w'→wpAny P .any ops Q s (k.setIfInBounds i true) a' w':=by
    rintro a' w' ⟨v,h',f1,f2,f3,f4⟩;have:=Fr.same Y C f1 λi u z hu=>by
     have J:Nat.beq d i=false:=by
      cases A:Nat.beq d i with
      |false=>rfl
      |true=>exact absurd (gH A).symm z
     simp only[lk,J,gU];exact bn i u hu
    subst this;exact next v w' h' f2 f3 f4
   unfold wpOp;simp only[H];cases hg:o.guard with
   |none=>
    rw[hg] at hK;rw[gO (by simp [Region.wanted,hg])];exact(Fh hg (hK a w C g1)).imp (Oper.wp_mono conv) id
   |some gb=>
    obtain⟨g,b⟩:=gb;rw[hg] at hK;obtain⟨dg,q1,hK⟩:=hK;rcases hK with ⟨k1,k2⟩|⟨v,k1,k2,k3⟩
    ·have hy:yielded ops a.tmps g=some b:=I8 Z q1 k1;rw[gO (by simp [Region.wanted,hg,hy])];exact(LE (Fh rfl (k2 a w C g1))).imp (Oper.wp_mono conv) id
    ·have hy:yielded ops a.tmps g≠some b:=by rw[I8 Z q1 k1];exact k2
     rw[gL (by simp [Region.wanted,hg,hy]),I];exact next undef w h g1 (CF.refl h) k3
end
def cU (ops:Array Oper) (kk:Nat) (F:List Nat):Bool:=Nat.ble kk ops.size&&(Nat.beq kk ops.size||(VR ops kk F&&Region.chainB .any ops kk))&&K3 ops&&Region.noSelect ops
def Pd (P:Program) (ops:Array Oper) (kk:Nat) (n:FN) (m:SM) (h0:AT) (R:AR):List Nat→Prop
 |[]=>True
 |f::F=>(f<kk∧K2 ops f=true∧∃o b a,ops[f]? =some o∧o.dst=some b∧PE ops o a=true∧M0 P ops n m h0 R f o a)∧Pd P ops kk n m h0 R F
def Pd.at_ {P:Program}{ops:Array Oper}{kk:Nat}{n:FN}{m:SM}{h0:AT}{R:AR}:∀{F:List Nat},Pd P ops kk n m h0 R F→∀f,f∈F→f<kk∧K2 ops f=true∧∃o j b,ops[f]? =some o∧o.dst=some j∧PE ops o b=true∧M0 P ops n m h0 R f o b
 |[],_,f,a=>by cases a
 |g::F,⟨c,i⟩,f,a=>by
  rcases gK.1 a with rfl|a
  ·exact c
  ·exact Pd.at_ i f a
def Pd.cons {P:Program}{ops:Array Oper}{kk:Nat}{n:FN}{m:SM}{h0:AT}{R:AR}{f j:Nat}{o:Oper}{F:List Nat}(a:List (Nat×Nat)) (b:(Nat.blt f kk&&K2 ops f)=true) (g:ops[f]? =some o) (hd:o.dst=some j) (c:PE ops o a=true) (i:M0 P ops n m h0 R f o a) (t:Pd P ops kk n m h0 R F):Pd P ops kk n m h0 R (f::F):=by
 simp only[gG] at b;exact⟨⟨(by simpa [Nat.blt] using b.1:f+1≤kk),b.2,o,j,a,g,hd,c,i⟩,t⟩
def TI {P:Program}{ops:Array Oper}{n:FN}{m:SM}{l i:Nat}{ty:TypeId}{b:String}{c:Array Edge}{X:Operand}{xs:Array Value}{o:Value}{a:Act}(g:Fr n a m) (j:BU m X=some (.tuple xs)) (k:xs[i]? =some o):Yields P ops ⟨some l,.extract X i,ty,b,c,none⟩ o a:=
 .inl ⟨by simp [Region.wanted],λw=>by simp [execOp,g.eval j,Instr.extract,k]⟩
def ME {P:Program}{ops:Array Oper}{n:FN}{m:SM}{j:Nat}{ty:TypeId}{b:String}{c:Array Edge}{X:Operand}{k:Value}{a:Act}(g:Fr n a m) (i:BU m X=some k):Yields P ops ⟨some j,.move X,ty,b,c,none⟩ k a:=
 .inl ⟨by simp [Region.wanted],λw=>by simp [execOp,g.eval i]⟩
section
variable {P:Program}{ex:List (Nat×AP)}{RR N:AP}{cs:List Code}{B:World}{h:AT}{n:FN}{m m0:SM}{S:Nat→Prop}{L:List HP}
def R8 {l:List Oper}{id:Nat}(kk:Nat) (F:List Nat) (R:AR) (pss:List (List (Nat×Nat))) (M:List (Nat×Nat)) (V:P.follows .mixedOrders=true) (Q:cU l.toArray kk F=true) (ms:List Nat) (y:m.map (·.1)=ms) (g:W1 l.toArray kk n ms=true)
  (z:TY l.toArray (l.take kk) pss=true) (A:(M.all λp=>Nat.blt p.1 kk&&(Ct l.toArray p.1).any (Nat.beq p.2 ·))=true) (k:RE m0 m)
  (b:∀i v q u,CF h q→CF q u→R i v q→R i v u)
  (X:Pd P l.toArray kk n m h R F)
  (step:AW P l.toArray (Qx ex RR (W P ex RR cs N)) B n m h R 0 (l.take kk) pss)
  (C:∀h',CF h h'→PA R h' (λfr=>LF P l.toArray (Qx ex RR (W P ex RR cs N)) (l.drop kk) B h' n (fr++m)) M []):WF P ex RR (.region id l.toArray true::cs) N B h n m0:=by
 intro a w D Y;subst y;simp only[cU,gG,gT] at Q;obtain⟨⟨⟨q,u⟩,Z⟩,h4⟩:=Q;have G:kk≤l.toArray.size:=jE q;refine λrd H=>Mb H LI V (WD (kk:=kk) (R:=R) (B:=B) (h0:=h) (n:=n) (m:=m) G Z F (u.imp (λe=>gH e) λx=>x) h4 (λc a w hq=>hq) (λf D=>X.at_ f D) g b (λi o d I ho hd=>?_) (λa w h' g1 g2 J g4=>?_) _ _ _ _ ?_ ⟨by simp,λj oj _ s=>(by rw[getD_replicate_false] at s;cases s),λt _ ht=>getD_in (by simpa using ht) (getD_replicate_false _ _)⟩ ⟨h,Y.drew,CF.refl h,D.sub k,λi _ s=>(by rw[getD_replicate_false] at s;cases s)⟩)
 ·have K:(l.take kk)[i]? =some o:=by rw[iG I];simpa using ho
  have:=AW.at_ step z K hd;rw[hM] at this;exact this
 ·obtain⟨fr,k1,k2⟩:=Hu (a:=a) (n:=n) _ _ (C h' g2) (λp hp=>by
   have e:=gE.1 A p hp;simp only[gG] at e;have e1:p.1<kk:=(by simpa [Nat.blt] using e.1:p.1+1≤kk)
   obtain⟨d,v,q1,q2,q3⟩:=g4 p.1 e1;have U:=e.2;rw[q1] at U;have:p.2=d:=gH (by simpa using U);exact⟨v,by rw[this];exact q2,q3⟩) ⟨J.dfr,J.siz,λi v I=>by simp [lk] at I⟩
  exact k1 a w (k2.append J) g1
 ·unfold Oq;rw[jY];simp
end
end Go.Proofs.YtedgiljmffngoaaGreat
