import Derived.Test.YtibidnaedddfdaaGreatECore13
namespace Go.Proofs.YtibidnaedddfdaaGreat
set_option linter.all false
open Go.RowKit
def ZP (ops:Array Oper) (n:Nat) (F:List Nat):Bool:=
 (List.range n).all λi=>F.contains i||(List.range (n+1)).any λj=>decide (i<j)&& !F.contains j&&Region.waitsFor .any ops j i
def M4 (ops:Array Oper) (f:Nat):Bool:=(List.range ops.size).all λj=>j==f||(Region.waitsFor .any ops j f||(Region.waitsFor .any ops f j||match ops[f]?,ops[j]? with
 |some oi,some a=>oi.apart ops a
 |_,_=>false))
def OY (P:Program) (ops:Array Oper) (n:FN) (m:SM) (h0:AX) (R:AR) (i:Nat) (o:Oper) (b:List (Nat×Nat)):Prop:=
 ∀mt h,Gf h0 h→PA R h (λfr=>∀a,Fr n a (fr++(m++mt))→∃v,Yields P ops o v a∧R i v h) b []
section
variable {P:Program}{ops:Array Oper}{Q:Exit→Act→World→Prop}{a:Act}{w:World}
def VR {n:Nat}{F:List Nat}{a:Array Bool}(J:ZP ops n F=true) (K:Region.chainB .any ops n=true) (W:n<ops.size) (m:HeadInv .any ops n a):
  ∀(d i:Nat),n-i=d→i<n→i∉F→a.getD i true=false→∀t,n≤t→t∉Region.ready .any ops a:=by
 intro d
 induction d using Nat.strongRecOn with
 |_ d M=>
  intro i hd Q w p t X C;obtain⟨_,D,o,g⟩:=mem_ready.1 C;have q:t<ops.size:=(vJ.1 o).1;by_cases x:t=n
  ·subst x;have k:=uQ.1 J i (vF.2 Q);simp only[uZ,uT,w,wK] at k;obtain⟨j,U,b⟩:=List.any_eq_true.1 k;simp only[uL,uY,vE] at b;have y:j∉F:=λh=>by
    have:=b.1.2;rw[uT.2 h] at this;cases this
   obtain⟨G,s,e,u,v,c⟩:=Region.waitsFor_spec b.2;have H:j≤t:=by have:=vF.1 U;omega
   by_cases z:j=t
   ·subst z;have:G=D:=uX (s.symm.trans o);subst this;have l:=g e u v;rw[c,getD_both p] at l;cases l
   ·cases I:a.getD j false with
    |true=>
     have l:=m.closed j G s I e u v;rw[c,getD_both p] at l;cases l
    |false=>
     have A:j<a.size:=by rw[m.size];omega
     exact M (t-j) (by have:=b.1.1;omega) j rfl (by omega) y (getD_in A I) t (uW _) C
  ·have k:=uQ.1 K t (vF.2 q);simp only[uZ,uY] at k;rcases k with k|k
   ·omega
   ·obtain⟨V,B,e,u,v,c⟩:=Region.waitsFor_spec k;have:V=D:=uX (B.symm.trans o);subst this;have l:=g e u v;rw[c,getD_both (m.tail (t-1) (by omega) (by omega))] at l;cases l
def bT {B:World}{h0:AX}{kk:Nat}{n:FN}{m:SM}{R:AR}(am:kk≤ops.size) (hb:NX ops=true)
  (F:List Nat) (ah:kk=ops.size∨(ZP ops kk F=true∧Region.chainB .any ops kk=true)) (az:Region.noSelect ops=true) (hQ:∀c a w,¬Q (.panic c) a w)
  (hF:∀f,f∈F→f<kk∧M4 ops f=true∧∃o d K,ops[f]? =some o∧o.dst=some d∧SH ops o K=true∧OY P ops n m h0 R f o K)
  (aj:dO ops kk n (m.map (·.1))=true)
  (an:∀i v h h',Gf h0 h→Gf h h'→R i v h→R i v h')
  (step:∀i o d,i<kk→ops[i]? =some o→o.dst=some d→∃K,SH ops o K=true∧UQ P ops Q B n m h0 R i o d K)
  (a0:∀a w h,Wd B h w→Gf h0 h→Fr n a m→(∀i,i<kk→∃d v,E3 ops i=some d∧a.tmps[d]? =some v∧R i v h)→wpList P ops Q (ops.toList.drop kk) a w):
  ∀(s:Nat) (k:Array Bool) (a:Act) (w:World),RW k=s→HeadInv .any ops kk k→sC B h0 n m ops kk R k a w→wpAny P .any ops Q s k a w:=by
 intro s
 induction s with
 |zero=>
  intro k a w hu q ai;have t:∀i,k.getD i true=true:=λi=>Qj hu;obtain⟨h,g1,g2,M,g4⟩:=ai.ex;have hk:kk=ops.size:=by
   rcases zG am with h|h
   ·have y:=q.tail kk (uW _) h;have h2:=t kk;rw[y] at h2;cases h2
   ·exact h
  have hf:=a0 a w h g1 g2 M λi z=>g4 i z (by
   have h2:=t i;have:i<k.size:=by rw[q.size];omega
   simpa [this] using h2)
  rw[xU (by simp;omega)] at hf;exact⟨Pg λi _=>t i,hf⟩
 |succ s ih=>
  intro k a w hu q ai;obtain⟨h,g1,g2,M,g4⟩:=ai.ex;by_cases t:∀i,i<kk→k.getD i true=true
  ·
   have hf:=a0 a w h g1 g2 M λi z=>g4 i z (by
    have h2:=t i z;have:i<k.size:=by rw[q.size];omega
    simpa [this] using h2)
   have bp:kk<ops.size:=by
    rcases zG am with h|h
    ·exact h
    ·exfalso;have ao:∀b∈k.toList,b=true:=by
      intro b A;obtain⟨i,z,rfl⟩:=xF.1 A;have ab:i<k.size:=by simpa using z
      have:=t i (by have:=q.size;omega);simpa [ab] using this
     have:RW k=0:=by
      unfold RW;rw[List.count_eq_zero];intro hm;have:=ao _ hm;cases this
     omega
   rcases ah with hc|⟨_,hc⟩
   ·omega
   ·refine QQ hc hb (s+1) kk k a w (uW _) ?_ q.size t (λj U ap=>q.tail j U ap) hf;have:=Ty (by rw[q.size];exact am) t (λj U ap=>q.tail j U (by rw[←q.size];exact ap));rw[q.size] at this;omega
  ·have D:∀i o,i<kk→i∈Region.ready .any ops k→ops[i]? =some o→∀K,SH ops o K=true→∀p∈K,∃v,a.tmps[p.2]? =some v∧R p.1 v h:=by
    intro i o G z H K V;obtain⟨aq,o',ac,ak⟩:=mem_ready.1 z;have:o'=o:=uX (ac.symm.trans H);subst this;have al:i<ops.size:=(vJ.1 H).1;have ad:∀j∈QS o',∃d v,E3 ops j=some d∧a.tmps[d]? =some v∧R j v h:=by
     intro j U;obtain⟨e,he,rfl⟩:=wN.1 U;obtain⟨be,a1⟩:=xW.1 he;have a2:e∈o'.after:=by simpa using be
     have y:=ak e a2 a1;have h4:=uQ.1 hb i (vF.2 al);rw[H] at h4;simp only[xM,vM,xN] at h4;have h6:=h4 e a2;simp only[a1,vL,wH,uY] at h6;exact g4 e.on (by omega) y
    intro p hp;have y:=uQ.1 V p hp;simp only[uL] at y;obtain⟨d',v,q1,q2,q3⟩:=ad p.1 (by simpa using y.1);have h2:=y.2;rw[q1] at h2;have:p.2=d':=uR (by simpa using h2);exact⟨v,by rw[this];exact q2,q3⟩
   have W:∀i o d,i<kk→i∈Region.ready .any ops k→ops[i]? =some o→o.dst=some d→∀v w' h',Wd B h' w'→Gf h h'→R i v h'→wpAny P .any ops Q s (k.setIfInBounds i true) (a.put (some d) v) w':=by
    intro i o d G z H I v w' h' bf ac hr;obtain⟨aq,_,_,_⟩:=mem_ready.1 z;have hd:E3 ops i=some d:=by unfold E3;rw[H];exact I
    have l:=uQ.1 aj i (vF.2 G);rw[hd] at l;simp only[uL,vE,uQ,vF,uZ] at l;obtain⟨⟨ae,ar⟩,a3⟩:=l;have X:d+1≤n.1:=by simpa [Nat.blt] using ae
    have Y:d<n.1:=X;refine ih _ _ _ (by have:=Mm aq;omega) (q.set z G) ⟨h',bf,g2.trans ac,?_,λj U hl=>?_⟩
    ·have hp:=M.put ae v;refine⟨hp.dfr,hp.siz,λi' u ab=>hp.at_ i' u ?_⟩;have J:Nat.beq d i'=false:=by
      cases A:Nat.beq d i' with
      |false=>rfl
      |true=>
       have:=uR A;subst this;have y:=Uj ab;rw[←uT] at y;rw[y] at ar;cases ar
     simp only[lk,J,uH];exact ab
    ·by_cases e:i=j
     ·subst e;refine⟨d,v,hd,?_,hr⟩;simp only[Act.put,wE];have:=M.siz;simp [this,Y]
     ·rw[getD_set_ne false e] at hl;obtain⟨dj,vj,q1,q2,q3⟩:=g4 j U hl;refine⟨dj,vj,q1,?_,an _ _ _ _ g2 ac q3⟩;have y:=a3 j U;rw[q1] at y;have J:d≠dj:=by
       rcases y with y|y
       ·exact absurd (uR y) e
       ·intro e';subst e';simp at y
      simp only[Act.put,wE];rw[uI J];exact q2
   by_cases a4:∃f,f∈F∧f∈Region.ready .any ops k
   ·obtain⟨f,bg,af⟩:=a4;obtain⟨a5,au,o,d,K,H,I,V,bh⟩:=hF f bg;obtain⟨fr,hK,Z⟩:=Kv (a:=a) (n:=n) _ _ (bh (IB a) h g2) (D f o a5 af H K V) ⟨M.dfr,M.siz,λi v z=>by simp [lk] at z⟩;obtain⟨v,hy,hr⟩:=hK a (Z.append (M.append M.full));refine wpAny_first H (Region.noSelect_spec az) (λc a w hq=>absurd hq (hQ c _ w)) s k a w (λj oj U J a6 av=>?_) af hy ?_
    ·have y:=uQ.1 au j (vF.2 (vJ.1 U).1);simp only[H,U,uZ,beq_iff_eq,J,wK] at y;rcases y with y|y
     ·obtain⟨bi,a7,e,he,A,aw⟩:=Region.waitsFor_spec y;have:bi=oj:=uX (a7.symm.trans U);subst this;exact absurd aw (av e he A)
     ·rcases y with y|y
      ·obtain⟨bj,a8,e,he,A,aw⟩:=Region.waitsFor_spec y;obtain⟨_,bk,a9,ax⟩:=mem_ready.1 af;have:bj=bk:=uX (a8.symm.trans a9);subst this;have h5:=ax e he A;rw[aw,getD_both a6] at h5;cases h5
      ·exact y
    ·rw[I];exact W f o d a5 af H I v w h g1 (Gf.refl h) hr
   obtain⟨k0,bl,ba,bb⟩:∃k0,k0<kk∧k.getD k0 true=false∧k0∉F:=by
    obtain⟨k1,bq,bm⟩:∃k0,k0<kk∧k.getD k0 true=false:=by
     apply xO;intro av;refine t λi z=>?_;cases hl:k.getD i true with
     |true=>rfl
     |false=>exact absurd ⟨i,z,hl⟩ av
    obtain⟨i0,q1,ag,_⟩:=Ki hb q.size (show k1<ops.size by omega) bm;exact⟨i0,by omega,(mem_ready.1 ag).1,λhf=>a4 ⟨i0,hf,ag⟩⟩
   obtain⟨i0,_,ag,_⟩:=Ki hb q.size (show k0<ops.size by omega) ba;refine⟨λh0=>absurd (h0▸ag) (by simp),λi z=>?_⟩;obtain⟨aq,o,H,ak⟩:=mem_ready.1 z;have al:i<ops.size:=(vJ.1 H).1;have G:i<kk:=by
    rcases vG i kk with h|h
    ·exact h
    ·rcases ah with hc|⟨hs,hc⟩
     ·omega
     ·exact absurd z (VR hs hc (by omega) q _ k0 rfl bl bb ba i h)
   have l:=uQ.1 aj i (vF.2 G);cases hd:E3 ops i with
   |none=>rw[hd] at l;cases l
   |some d=>
   rw[hd] at l;simp only[uL,vE,uQ,vF,uZ] at l;obtain⟨⟨ae,ar⟩,a3⟩:=l;have X:d+1≤n.1:=by simpa [Nat.blt] using ae
   have Y:d<n.1:=X;have I:o.dst=some d:=by unfold E3 at hd;rw[H] at hd;exact hd
   obtain⟨K,V,ay⟩:=step i o d G H I;have aa:=D i o G z H K V;obtain⟨fr,hK,Z⟩:=Kv (a:=a) (n:=n) _ _ (ay (IB a) h g2) aa ⟨M.dfr,M.siz,λi v z=>by simp [lk] at z⟩;have C:Fr n a (fr++(m++IB a)):=Z.append (M.append M.full);have bn:∀i u,a.tmps[i]? =some u→lk (fr++(m++IB a)) i=some u:=by
    intro i u hu;have hl:lk (IB a) i=some u:=by
     have:i<a.tmps.size:=(vJ.1 hu).1;rw[Ph this];simp [wL,hu]
    have bo:∃u',lk (fr++(m++IB a)) i=some u':=by
     rw[Jf,Jf,hl];cases lk fr i with
     |some x=>exact⟨x,by simp⟩
     |none=>cases lk m i with
      |some x=>exact⟨x,by simp⟩
      |none=>exact⟨u,by simp⟩
    obtain⟨u',bc⟩:=bo;have:=C.at_ i u' bc;rw[hu] at this;rw[bc,←uX this]
   have next:=W i o d G z H I
   have conv:∀a' w',KS B n d (R i) h (fr++(m++IB a)) a' w'→wpAny P .any ops Q s (k.setIfInBounds i true) a' w':=by
    rintro a' w' ⟨v,h',f1,f2,f3,f4⟩;have:=Fr.same Y C f1 λi u z hu=>by
     have J:Nat.beq d i=false:=by
      cases A:Nat.beq d i with
      |false=>rfl
      |true=>exact absurd (uR A).symm z
     simp only[lk,J,uH];exact bn i u hu
    subst this;exact next v w' h' f2 f3 f4
   unfold wpOp;simp only[H];cases hg:o.guard with
   |none=>
    rw[hg] at hK;rw[uJ (by simp [Region.wanted,hg])];exact(Ju hg (hK a w C g1)).imp (Oper.wp_mono conv) id
   |some gb=>
    obtain⟨g,b⟩:=gb;rw[hg] at hK;obtain⟨dg,q1,hK⟩:=hK;rcases hK with ⟨k1,k2⟩|⟨v,k1,k2,k3⟩
    ·have hy:yielded ops a.tmps g=some b:=ME Z q1 k1;rw[uJ (by simp [Region.wanted,hg,hy])];exact(N1 (Ju rfl (k2 a w C g1))).imp (Oper.wp_mono conv) id
    ·have hy:yielded ops a.tmps g≠some b:=by rw[ME Z q1 k1];exact k2
     rw[uI (by simp [Region.wanted,hg,hy]),I];exact next undef w h g1 (Gf.refl h) k3
end
def pQ (ops:Array Oper) (kk:Nat) (F:List Nat):Bool:=Nat.ble kk ops.size&&(Nat.beq kk ops.size||(ZP ops kk F&&Region.chainB .any ops kk))&&NX ops&&Region.noSelect ops
def Rv (P:Program) (ops:Array Oper) (kk:Nat) (n:FN) (m:SM) (h0:AX) (R:AR):List Nat→Prop
 |[]=>True
 |f::F=>(f<kk∧M4 ops f=true∧∃o d a,ops[f]? =some o∧o.dst=some d∧SH ops o a=true∧OY P ops n m h0 R f o a)∧Rv P ops kk n m h0 R F
def Rv.at_ {P:Program}{ops:Array Oper}{kk:Nat}{n:FN}{m:SM}{h0:AX}{R:AR}:∀{F:List Nat},Rv P ops kk n m h0 R F→∀f,f∈F→f<kk∧M4 ops f=true∧∃o d b,ops[f]? =some o∧o.dst=some d∧SH ops o b=true∧OY P ops n m h0 R f o b
 |[],_,f,a=>by cases a
 |j::F,⟨c,i⟩,f,a=>by
  rcases uS.1 a with rfl|a
  ·exact c
  ·exact Rv.at_ i f a
def Rv.cons {P:Program}{ops:Array Oper}{kk:Nat}{n:FN}{m:SM}{h0:AX}{R:AR}{f d:Nat}{o:Oper}{F:List Nat}(a:List (Nat×Nat)) (b:(Nat.blt f kk&&M4 ops f)=true) (g:ops[f]? =some o) (hd:o.dst=some d) (c:SH ops o a=true) (i:OY P ops n m h0 R f o a) (t:Rv P ops kk n m h0 R F):Rv P ops kk n m h0 R (f::F):=by
 simp only[uL] at b;exact⟨⟨(by simpa [Nat.blt] using b.1:f+1≤kk),b.2,o,d,a,g,hd,c,i⟩,t⟩
def Mv {P:Program}{ops:Array Oper}{n:FN}{m:SM}{d i:Nat}{ty:TypeId}{b:String}{c:Array Edge}{X:Operand}{xs:Array Value}{u:Value}{a:Act}(g:Fr n a m) (j:CL m X=some (.tuple xs)) (k:xs[i]? =some u):Yields P ops ⟨some d,.extract X i,ty,b,c,none⟩ u a:=
 .inl ⟨by simp [Region.wanted],λw=>by simp [execOp,g.eval j,Instr.extract,k]⟩
def Kx {P:Program}{ops:Array Oper}{n:FN}{m:SM}{d:Nat}{ty:TypeId}{b:String}{c:Array Edge}{X:Operand}{u:Value}{a:Act}(g:Fr n a m) (i:CL m X=some u):Yields P ops ⟨some d,.move X,ty,b,c,none⟩ u a:=
 .inl ⟨by simp [Region.wanted],λw=>by simp [execOp,g.eval i]⟩
section
variable {P:Program}{ex:List (Nat×AP)}{RR N:AP}{cs:List Code}{B:World}{h:AX}{n:FN}{m m0:SM}{S:Nat→Prop}{L:List HP}
def TX {l:List Oper}{id:Nat}(kk:Nat) (F:List Nat) (R:AR) (pss:List (List (Nat×Nat))) (M:List (Nat×Nat)) (X:P.follows .mixedOrders=true) (Q:pQ l.toArray kk F=true) (U:List Nat) (y:m.map (·.1)=U) (g:dO l.toArray kk n U=true)
  (z:WZ l.toArray (l.take kk) pss=true) (A:(M.all λp=>Nat.blt p.1 kk&&(E3 l.toArray p.1).any (Nat.beq p.2 ·))=true) (k:Tk m0 m)
  (b:∀i v q u,Gf h q→Gf q u→R i v q→R i v u)
  (Y:Rv P l.toArray kk n m h R F)
  (step:BM P l.toArray (Qx ex RR (W P ex RR cs N)) B n m h R 0 (l.take kk) pss)
  (C:∀h',Gf h h'→PA R h' (λfr=>LF P l.toArray (Qx ex RR (W P ex RR cs N)) (l.drop kk) B h' n (fr++m)) M []):WF P ex RR (.region id l.toArray true::cs) N B h n m0:=by
 intro a w D Z;subst y;simp only[pQ,uL,uZ] at Q;obtain⟨⟨⟨q,u⟩,h3⟩,h4⟩:=Q;have G:kk≤l.toArray.size:=yF q;refine λrd H=>O9 H Mx X (bT (kk:=kk) (R:=R) (B:=B) (h0:=h) (n:=n) (m:=m) G h3 F (u.imp (λe=>uR e) λx=>x) h4 (λc a w hq=>hq) (λf D=>Y.at_ f D) g b (λi o d I ho hd=>?_) (λa w h' g1 g2 J g4=>?_) _ _ _ _ ?_ ⟨by simp,λj oj _ s=>(by rw[getD_replicate_false] at s;cases s),λt _ ht=>getD_in (by simpa using ht) (getD_replicate_false _ _)⟩ ⟨h,Z.drew,Gf.refl h,D.sub k,λi _ s=>(by rw[getD_replicate_false] at s;cases s)⟩)
 ·have K:(l.take kk)[i]? =some o:=by rw[wU I];simpa using ho
  have:=BM.at_ step z K hd;rw[vO] at this;exact this
 ·obtain⟨fr,k1,k2⟩:=Kv (a:=a) (n:=n) _ _ (C h' g2) (λp hp=>by
   have e:=uQ.1 A p hp;simp only[uL] at e;have e1:p.1<kk:=(by simpa [Nat.blt] using e.1:p.1+1≤kk)
   obtain⟨d,v,q1,q2,q3⟩:=g4 p.1 e1;have V:=e.2;rw[q1] at V;have:p.2=d:=uR (by simpa using V);exact⟨v,by rw[this];exact q2,q3⟩) ⟨J.dfr,J.siz,λi v I=>by simp [lk] at I⟩
  exact k1 a w (k2.append J) g1
 ·unfold RW;rw[zH];simp
end
end Go.Proofs.YtibidnaedddfdaaGreat
