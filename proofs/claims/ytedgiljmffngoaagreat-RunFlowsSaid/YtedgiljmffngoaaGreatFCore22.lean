import Derived.Test.YtedgiljmffngoaaGreatFCore21
namespace Go.Proofs.YtedgiljmffngoaaGreat
set_option linter.all false
open Go.RowKit
abbrev XR:=(Nat→Prop)→AR
def XO (ops:Array Oper) (As:List Nat) (c:Array Bool) (a:Act):Nat→Prop:=λb=>∃i g j,i∈As∧c.getD i false=true∧Ct ops i=some g∧a.tmps[g]? =some j∧MR j=some b
def dV (a:List Nat) (f:Nat→Option Value) (X:Nat→Prop):Prop:=∀s,s∈a→∀c,f s=some c→∀b,MR c=some b→X b
structure YJ (B:World) (h0:AT) (n:FN) (m:SM) (ops:Array Oper) (ks As:List Nat) (R:XR) (listed:Array Bool) (a:Act) (w:World):Prop where
 ex:∃h,Wd B h w∧CF h0 h∧Fr n a m∧∀i,i∉ks→listed.getD i false=true→∃d v,Ct ops i=some d∧a.tmps[d]? =some v∧R (XO ops As listed a) i v h
 dis:∀i,i∈As→∀j,j∈As→i≠j→listed.getD i false=true→listed.getD j false=true→∀d d' u u',Ct ops i=some d→Ct ops j=some d'→a.tmps[d]? =some u→a.tmps[d']? =some u'→∀b b',MR u=some b→MR u'=some b'→b≠b'
def eE (R:AR) (As:List Nat) (i:Nat) (h:AT) (v:Value) (h':AT):Prop:=R i v h'∧(As.contains i=true→Rh h v)
def Tv (P:Program) (ops:Array Oper) (Q:Exit→Act→World→Prop) (B:World) (n:FN) (m:SM) (h0:AT) (R:XR) (As:List Nat) (i:Nat) (o:Oper) (j:Nat) (c:List (Nat×Nat)):Prop:=
 ∀X mt h,CF h0 h→(∀b,X b→h0.size≤b∧b<h.size)→PA (R X) h (λfr=>match o.guard with
  |none=>LF P ops (Exit.then (KS B n j (eE (R X) As i h) h (fr++(m++mt))) Q) [o] B h n (fr++(m++mt))
  |some (g,b)=>∃a,Ct ops g=some a∧((lk fr a=some (.bool b)∧LF P ops (Exit.then (KS B n j (eE (R X) As i h) h (fr++(m++mt))) Q) [{ o with guard:=none}] B h n (fr++(m++mt)))∨∃v,lk fr a=some v∧yb v≠some b∧R X i undef h)) c []
section
variable {P:Program}{ops:Array Oper}{Q:Exit→Act→World→Prop}
def WC {B:World}{h0:AT}{n:FN}{m:SM}{R:XR}(ks As:List Nat) (ba:∀X i,i∈As→∀v h,R X i v h→∃b,MR v=some b∧h0.size≤b∧b<h.size) (b7:∀i,i∈As→∀X X' v h,R X i v h→R X' i v h) (bn:∀t,t∈ks→t<ops.size) (bo:ks.Nodup) (hb:K3 ops=true)
  (F:List Nat) (bp:ks=[]∨Pe ops ks F=true) (bb:Kx ops ks) (b8:Mn ops ks=true) (bq:Region.noSelect ops=true) (hQ:∀c a w,¬Q (.panic c) a w)
  (b9:∀f,f∈F→f∉As) (hF:∀f,f∈F→(f<ops.size∧f∉ks)∧K2 ops f=true∧∃o d ps,ops[f]? =some o∧o.dst=some d∧PE ops o ps=true∧∀X,M0 P ops n m h0 (R X) f o ps)
  (a3:Sq ops ks n (m.map (·.1))=true)
  (am:∀i v h h' X X',CF h0 h→CF h h'→(∀b,X b→X' b)→(∀b,X' b→X b∨h.size≤b)→R X i v h→R X' i v h')
  (V:∀i,i∈As→i∉ks) (step:∀i o d,i∉ks→ops[i]? =some o→o.dst=some d→∃ps,PE ops o ps=true∧Tv P ops Q B n m h0 R As i o d ps)
  (br:∀a w h X,Wd B h w→CF h0 h→Fr n a m→(∀b,X b→h0.size≤b∧b<h.size)→(∀i,i<ops.size→i∉ks→∃d v,Ct ops i=some d∧a.tmps[d]? =some v∧R X i v h)→Wo (R1 ops As) (λs=>a.tmps[s]?)→dV (R1 ops As) (λs=>a.tmps[s]?) X→wpList P ops Q (ks.filterMap λt=>ops[t]?) a w):
  ∀(C:Nat) (k:Array Bool) (a:Act) (w:World),Oq k=C→Pb ops ks k→YJ B h0 n m ops ks As R k a w→wpAny P .any ops Q C k a w:=by
 intro C;have an:∀(k:Array Bool) (a:Act) (w:World),YJ B h0 n m ops ks As R k a w→(∀i,i<ops.size→i∉ks→k.getD i false=true)→Wo (R1 ops As) (λs=>a.tmps[s]?):=by
  intro k a w ai U s hs s' ca J u u' e e';obtain⟨i,I,hd⟩:=kH.1 hs;obtain⟨j,hj,H⟩:=kH.1 ca;have lt:∀i d,Ct ops i=some d→i<ops.size:=λi d y=>by
   unfold Ct at y;cases K:ops[i]? with
   |none=>rw[K] at y;cases y
   |some oj=>exact(gR.1 K).1
  exact ai.dis i I j hj (λe=>J (by subst e;rw[hd] at H;exact gC H)) (U i (lt _ _ hd) (V i I)) (U j (lt _ _ H) (V j hj)) _ _ _ _ hd H e e'
 have cb:∀i d,Ct ops i=some d→i<ops.size:=λi d y=>by
  unfold Ct at y;cases K:ops[i]? with
  |none=>rw[K] at y;cases y
  |some oj=>exact(gR.1 K).1
 have bs:∀(X:Nat→Prop) (k:Array Bool) (a:Act) (h:AT),(∀i,i∉ks→k.getD i false=true→∃d v,Ct ops i=some d∧a.tmps[d]? =some v∧R X i v h)→∀b,XO ops As k a b→h0.size≤b∧b<h.size:=by
  rintro X k a h g4 b ⟨i,d,u,I,U,hd,hu,aj⟩;obtain⟨d',v,y,M,q3⟩:=g4 i (V i I) U;rw[hd] at y;cases y;rw[hu] at M;cases M;obtain⟨b',e1,e2⟩:=ba _ i I _ _ q3;rw[aj] at e1;cases e1;exact e2
 have a4:∀(k:Array Bool) (a:Act),(∀i,i<ops.size→i∉ks→k.getD i false=true)→dV (R1 ops As) (λs=>a.tmps[s]?) (XO ops As k a):=by
  intro k a U s hs u e b D;obtain⟨i,I,hd⟩:=kH.1 hs;exact⟨i,s,u,I,U i (cb _ _ hd) (V i I),hd,e,D⟩
 induction C with
 |zero=>
  intro k a w hu G ai;have Z:∀i,k.getD i true=true:=λi=>NG hu;obtain⟨h,g1,g2,g3,g4⟩:=ai.ex;have hX:=bs _ _ _ _ g4;have z:∀i,i<ops.size→i∉ks→k.getD i false=true:=λi W l=>by
   have h2:=Z i;have:i<k.size:=by rw[G.size];exact W
   simpa [this] using h2
  have hf:=br a w h _ g1 g2 g3 hX (λi W l=>g4 i l (z i W l)) (an _ _ _ ai z) (a4 _ _ z);exact Gh hb ks 0 k a w hu G.size (λi _ _=>Z i) (λt ht=>⟨bn t ht,G.tail t ht⟩) bb bo hf
 |succ C ih=>
  intro k a w hu G ai;obtain⟨h,g1,g2,g3,g4⟩:=ai.ex;have hX:=bs _ _ _ _ g4;by_cases Z:∀i,i<ops.size→i∉ks→k.getD i true=true
  ·have z:∀i,i<ops.size→i∉ks→k.getD i false=true:=λi W l=>by
    have h2:=Z i W l;have:i<k.size:=by rw[G.size];exact W
    simpa [this] using h2
   have hf:=br a w h _ g1 g2 g3 hX (λi W l=>g4 i l (z i W l)) (an _ _ _ ai z) (a4 _ _ z);exact Gh hb ks (C+1) k a w hu G.size Z (λt ht=>⟨bn t ht,G.tail t ht⟩) bb bo hf
  ·have bt:∀j,k.getD j false=true→j∉ks:=λj hj cc=>by
    have:=getD_both (G.tail j cc);rw[hj] at this;cases this
   have ac:∀i o,i∈Region.ready .any ops k→ops[i]? =some o→∀ps,PE ops o ps=true→∀p∈ps,∃v,a.tmps[p.2]? =some v∧R (XO ops As k a) p.1 v h:=by
    intro i o I ho ps ao p hp;obtain⟨ax,o',ap,a5⟩:=mem_ready.1 I;have:o'=o:=gC (ap.symm.trans ho);subst this;have A:=gE.1 ao p hp;simp only[gG] at A;have hj:p.1∈Js o':=by simpa using A.1
    obtain⟨e,he,cd⟩:=iJ.1 hj;obtain⟨ce,cf⟩:=iQ.1 he;have cg:e∈o'.after:=by simpa using ce
    have h3:=a5 e cg cf;rw[cd] at h3;obtain⟨d',v,y,M,q3⟩:=g4 p.1 (bt _ h3) h3;have h2:=A.2;rw[y] at h2;have:p.2=d':=gH (by simpa using h2);exact⟨v,by rw[this];exact M,q3⟩
   have aq:∀i o d,i∉ks→i∈Region.ready .any ops k→ops[i]? =some o→o.dst=some d→∀v w' h',Wd B h' w'→CF h h'→R (XO ops As k a) i v h'→(i∈As→Rh h v)→wpAny P .any ops Q C (k.setIfInBounds i true) (a.put (some d) v) w':=by
    intro i o d l I ho ad v w' h' ch ap hr ae;obtain⟨ax,oo,ci,_⟩:=mem_ready.1 I;have ar:i<ops.size:=(gR.1 ci).1;have hd:Ct ops i=some d:=by unfold Ct;rw[ho];exact ad
    have q:=gE.1 a3 i (gP.2 ar);rw[hd] at q;simp only[gG,gS,gE,gP,gT,gI,l,iB] at q;obtain⟨⟨ay,bc⟩,be⟩:=q;have au:d+1≤n.1:=by simpa [Nat.blt] using ay
    have ah:d<n.1:=au;have av:(a.put (some d) v).tmps[d]? =some v:=by
     simp only[Act.put,iA];have:=g3.siz;simp [this,ah]
    have af:∀j dj,Ct ops j=some dj→j≠i→j∉ks→(a.put (some d) v).tmps[dj]? =a.tmps[dj]? :=by
     intro j dj y e hj;have bf:j<ops.size:=by
      unfold Ct at y;cases K:ops[j]? with
      |none=>rw[K] at y;cases y
      |some oj=>exact(gR.1 K).1
     have A:=be j bf;rw[y] at A;have J:d≠dj:=by
      rcases A with (A|A)|A
      ·exact absurd A hj
      ·exact absurd (gH A).symm e
      ·intro e';subst e';simp at A
     simp only[Act.put,iA];rw[gL J]
    have a6:∀j,j∈As→j≠i→(k.setIfInBounds i true).getD j false=true→i∈As→∀dj u,Ct ops j=some dj→(a.put (some d) v).tmps[dj]? =some u→∀b b',MR v=some b→MR u=some b'→b≠b':=by
     intro j hj e U az dj u y M b1 b2 z1 z2;rw[getD_set_ne false (λx=>e x.symm)] at U;rw[af j dj y e (V j hj)] at M;obtain⟨cw,vj,p1,p2,p3⟩:=g4 j (V j hj) U;rw[y] at p1;cases p1;rw[M] at p2;cases p2;obtain⟨b,e1,_,e2⟩:=ba _ j hj _ _ p3;obtain⟨b',e3,e4⟩:=ae az;rw[z1] at e3;rw[z2] at e1;cases e3;cases e1;omega
    have bu:∀j,k.getD j false=true→j≠i:=λj U e=>by
     subst e;rw[getD_both ax] at U;cases U
    have up:∀b,XO ops As k a b→XO ops As (k.setIfInBounds i true) (a.put (some d) v) b:=by
     rintro b ⟨i',d',u,Y,ak,H,aa,aj⟩;exact⟨i',d',u,Y,by rw[getD_set_ne false (λx=>bu i' ak x.symm)];exact ak,H,by rw[af i' d' H (bu i' ak) (V i' Y)];exact aa,aj⟩
    have a7:∀b,XO ops As (k.setIfInBounds i true) (a.put (some d) v) b→XO ops As k a b∨(i∈As∧h.size≤b):=by
     rintro b ⟨i',d',u,Y,ak,H,aa,aj⟩;by_cases e:i'=i
     ·subst e;rw[hd] at H;cases H;rw[av] at aa;cases aa;obtain⟨b',e1,e2⟩:=ae Y;rw[aj] at e1;cases e1;exact .inr ⟨Y,e2⟩
     ·rw[getD_set_ne false (λx=>e x.symm)] at ak;rw[af i' d' H e (V i' Y)] at aa;exact .inl ⟨i',d',u,Y,ak,H,aa,aj⟩
    have cj:R (XO ops As (k.setIfInBounds i true) (a.put (some d) v)) i v h':=by
     by_cases az:i∈As
     ·exact b7 i az _ _ _ _ hr
     ·exact am _ _ _ _ _ _ (g2.trans ap) (CF.refl h') up (λb D=>(a7 b D).imp_right λx=>absurd x.1 az) hr
    refine ih _ _ _ (by have:=JL ax;omega) (G.set I l) ⟨⟨h',ch,g2.trans ap,?_,λj hj U=>?_⟩,λi1 a0 j1 a1 a8 bg bh d1 d2 u1 u2 y M q3 q4=>?_⟩
    rotate_left 2
    ·by_cases e:i1=i
     ·subst e;rw[hd] at y;cases y;rw[av] at q3;cases q3;exact a6 j1 a1 (λe=>a8 e.symm) bh a0 d2 u2 M q4
     ·by_cases e':j1=i
      ·subst e';rw[hd] at M;cases M;rw[av] at q4;cases q4;exact λb b' z1 z2 e2=>a6 i1 a0 e bg a1 d1 u1 y q3 b' b z2 z1 e2.symm
      ·rw[af i1 d1 y e (V i1 a0)] at q3;rw[af j1 d2 M e' (V j1 a1)] at q4;rw[getD_set_ne false (λx=>e x.symm)] at bg;rw[getD_set_ne false (λx=>e' x.symm)] at bh;exact ai.dis i1 a0 j1 a1 a8 bg bh d1 d2 u1 u2 y M q3 q4
    ·have hp:=g3.put ay v;refine⟨hp.dfr,hp.siz,λi' u Y=>hp.at_ i' u ?_⟩;have J:Nat.beq d i'=false:=by
      cases D:Nat.beq d i' with
      |false=>rfl
      |true=>
       have:=gH D;subst this;have A:=QR Y;rw[←gI] at A;rw[A] at bc;cases bc
     simp only[lk,J,gU];exact Y
    ·by_cases e:i=j
     ·subst e;refine⟨d,v,hd,?_,cj⟩;simp only[Act.put,iA];have:=g3.siz;simp [this,ah]
     ·rw[getD_set_ne false e] at U;obtain⟨dj,vj,y,M,q3⟩:=g4 j hj U;refine⟨dj,vj,y,?_,am _ _ _ _ _ _ g2 ap up (λb D=>(a7 b D).imp_right (·.2)) q3⟩;have bf:j<ops.size:=by
       unfold Ct at y;cases K:ops[j]? with
       |none=>rw[K] at y;cases y
       |some oj=>exact(gR.1 K).1
      have A:=be j bf;rw[y] at A;have J:d≠dj:=by
       rcases A with (A|A)|A
       ·exact absurd A hj
       ·exact absurd (gH A) e
       ·intro e';subst e';simp at A
      simp only[Act.put,iA];rw[gL J];exact M
   by_cases bv:∃f,f∈F∧f∈Region.ready .any ops k
   ·obtain⟨f,bw,a2⟩:=bv;obtain⟨ck,bi,o,d,ps,ho,ad,ao,cl⟩:=hF f bw;obtain⟨fr,hK,ae⟩:=Hu (a:=a) (n:=n) _ _ (cl (XO ops As k a) (Eh a) h g2) (ac f o a2 ho ps ao) ⟨g3.dfr,g3.siz,λi v I=>by simp [lk] at I⟩;obtain⟨v,hy,hr⟩:=hK a (ae.append (g3.append g3.full));refine wpAny_first ho (Region.noSelect_spec bq) (λc a w hq=>absurd hq (hQ c _ w)) C k a w (λj oj hj J bx bj=>?_) a2 hy ?_
    ·have A:=gE.1 bi j (gP.2 (gR.1 hj).1);simp only[ho,hj,gT,beq_iff_eq,J,iB] at A;rcases A with A|A
     ·obtain⟨cm,bz,e,he,D,bk⟩:=Region.waitsFor_spec A;have:cm=oj:=gC (bz.symm.trans hj);subst this;exact absurd bk (bj e he D)
     ·rcases A with A|A
      ·obtain⟨cn,b0,e,he,D,bk⟩:=Region.waitsFor_spec A;obtain⟨_,co,b3,z⟩:=mem_ready.1 a2;have:cn=co:=gC (b0.symm.trans b3);subst this;have h5:=z e he D;rw[bk,getD_both bx] at h5;cases h5
      ·exact A
    ·rw[ad];exact aq f o d ck.2 a2 ho ad v w h g1 (CF.refl h) hr (λhA=>absurd hA (b9 f bw))
   have b4:∃k0,k0<ops.size∧k0∉ks∧k.getD k0 true=false∧k0∉F:=by
    obtain⟨k1,cu,cp,cq⟩:∃k1,k1<ops.size∧k1∉ks∧k.getD k1 true=false:=by
     apply jU;intro bj;refine Z λi W l=>?_;cases U:k.getD i true with
     |true=>rfl
     |false=>exact absurd ⟨i,W,l,U⟩ bj
    obtain⟨i0,y,M,q3⟩:=Jt (p:=λi=>k.getD i true||ks.contains i) k1 (by simp [cq,cp]);simp only[Bool.or_eq_false_iff] at M;have ag:i0<ops.size:=by omega
    have a9:i0∉ks:=λh=>by rw[gI.2 h] at M;cases M.2
    refine⟨i0,ag,a9,M.1,λhf=>bv ⟨i0,hf,mem_ready.2 ⟨M.1,ops[i0],by simp [ag],λe he b5=>?_⟩⟩⟩;have h4:=gE.1 hb i0 (gP.2 ag);have h5:ops[i0]? =some ops[i0]:=by simp [ag]
    rw[h5] at h4;simp only[iU,iI,iV] at h4;have h6:=h4 e he;simp only[b5,iP,iN,hO] at h6;have h7:=q3 e.on h6;have h9:=gE.1 b8 i0 (gP.2 ag);simp only[gT,gI,a9,iB,h5,iU,iI,iV] at h9;have al:=h9 e he;simp only[b5,iP,iN,gS] at al;rcases al with al|al
    ·cases al
    rw[al,Bool.or_false] at h7;have h8:e.on<k.size:=by rw[G.size];omega
    simp only[iE,jD h8,iI] at h7 ⊢;exact h7
   have ⟨cx,bl,cv,b6,_⟩:=b4;obtain⟨i0,_,cr,_⟩:=Gi hb G.size bl b6;refine⟨λh0=>absurd (h0▸cr) (by simp),λi I=>?_⟩;obtain⟨ax,o,ho,a5⟩:=mem_ready.1 I;have ar:i<ops.size:=(gR.1 ho).1;have l:i∉ks:=λl=>by
    rcases bp with hc|hc
    ·rw[hc] at l;cases l
    ·obtain⟨k0,y,M,q3,q4⟩:=b4;exact NH hc bb G _ k0 rfl y M q4 (getD_in (by rw[G.size];exact y) (by
      cases U:k.getD k0 false with
      |false=>rfl
      |true=>rw[getD_both q3] at U;cases U)) i l I
   have q:=gE.1 a3 i (gP.2 ar);cases hd:Ct ops i with
   |none=>rw[hd] at q;simp only[gI,l,gT,iB] at q;cases q
   |some d=>
   rw[hd] at q;simp only[gG,gS,gE,gP,gT,gI,l,iB] at q;obtain⟨⟨ay,bc⟩,be⟩:=q;have au:d+1≤n.1:=by simpa [Nat.blt] using ay
   have ah:d<n.1:=au;have ad:o.dst=some d:=by unfold Ct at hd;rw[ho] at hd;exact hd
   obtain⟨ps,ao,bm⟩:=step i o d l ho ad;have aw:=ac i o I ho ps ao;obtain⟨fr,hK,ae⟩:=Hu (a:=a) (n:=n) _ _ (bm (XO ops As k a) (Eh a) h g2 hX) aw ⟨g3.dfr,g3.siz,λi v I=>by simp [lk] at I⟩;have ab:Fr n a (fr++(m++Eh a)):=ae.append (g3.append g3.full);have cs:∀i u,a.tmps[i]? =some u→lk (fr++(m++Eh a)) i=some u:=by
    intro i u hu;have U:lk (Eh a) i=some u:=by
     have:i<a.tmps.size:=(gR.1 hu).1;rw[Nw this];simp [iE,hu]
    have ct:∃u',lk (fr++(m++Eh a)) i=some u':=by
     rw[Gd,Gd,U];cases lk fr i with
     |some x=>exact⟨x,by simp⟩
     |none=>cases lk m i with
      |some x=>exact⟨x,by simp⟩
      |none=>exact⟨u,by simp⟩
    obtain⟨u',aa⟩:=ct;have:=ab.at_ i u' aa;rw[hu] at this;rw[aa,←gC this]
   have next:=aq i o d l I ho ad
   have conv:∀a' w',KS B n d (eE (R (XO ops As k a)) As i h) h (fr++(m++Eh a)) a' w'→wpAny P .any ops Q C (k.setIfInBounds i true) a' w':=by
    rintro a' w' ⟨v,h',f1,f2,f3,f4⟩;have:=Fr.same ah ab f1 λi u I hu=>by
     have J:Nat.beq d i=false:=by
      cases D:Nat.beq d i with
      |false=>rfl
      |true=>exact absurd (gH D).symm I
     simp only[lk,J,gU];exact cs i u hu
    subst this;exact next v w' h' f2 f3 f4.1 (λhA=>f4.2 (gI.2 hA))
   unfold wpOp;simp only[ho];cases hg:o.guard with
   |none=>
    rw[hg] at hK;rw[gO (by simp [Region.wanted,hg])];exact(Fh hg (hK a w ab g1)).imp (Oper.wp_mono conv) id
   |some gb=>
    obtain⟨g,b⟩:=gb;rw[hg] at hK;obtain⟨dg,y,hK⟩:=hK;rcases hK with ⟨k1,k2⟩|⟨v,k1,k2,k3⟩
    ·have hy:yielded ops a.tmps g=some b:=I8 ae y k1;rw[gO (by simp [Region.wanted,hg,hy])];exact(LE (Fh rfl (k2 a w ab g1))).imp (Oper.wp_mono conv) id
    ·have hy:yielded ops a.tmps g≠some b:=by rw[I8 ae y k1];exact k2
     rw[gL (by simp [Region.wanted,hg,hy]),ad];exact next undef w h g1 (CF.refl h) k3 (λhA=>by obtain⟨b,e,_⟩:=ba _ i hA _ _ k3;cases e)
end
def PD (P:Program) (ops:Array Oper) (ks:List Nat) (n:FN) (m:SM) (h0:AT) (R:XR):List Nat→Prop
 |[]=>True
 |f::F=>((f<ops.size∧f∉ks)∧K2 ops f=true∧∃o b a,ops[f]? =some o∧o.dst=some b∧PE ops o a=true∧∀X,M0 P ops n m h0 (R X) f o a)∧PD P ops ks n m h0 R F
def PD.at_ {P:Program}{ops:Array Oper}{ks:List Nat}{n:FN}{m:SM}{h0:AT}{R:XR}:∀{F:List Nat},PD P ops ks n m h0 R F→∀f,f∈F→(f<ops.size∧f∉ks)∧K2 ops f=true∧∃o j b,ops[f]? =some o∧o.dst=some j∧PE ops o b=true∧∀X,M0 P ops n m h0 (R X) f o b
 |[],_,f,a=>by cases a
 |g::F,⟨c,i⟩,f,a=>by
  rcases gK.1 a with rfl|a
  ·exact c
  ·exact PD.at_ i f a
def PD.cons {P:Program}{ops:Array Oper}{ks:List Nat}{n:FN}{m:SM}{h0:AT}{R:XR}{f j:Nat}{o:Oper}{F:List Nat}(b:List (Nat×Nat)) (a:(Nat.blt f ops.size&& !ks.contains f&&K2 ops f)=true) (g:ops[f]? =some o) (hd:o.dst=some j) (c:PE ops o b=true) (i:∀X,M0 P ops n m h0 (R X) f o b) (t:PD P ops ks n m h0 R F):PD P ops ks n m h0 R (f::F):=by
 simp only[gG,gS] at a;exact⟨⟨⟨(by simpa [Nat.blt] using a.1.1:f+1≤ops.size),λh=>by rw[gI.2 h] at a;cases a.1.2⟩,a.2,o,j,b,g,hd,c,i⟩,t⟩
def Dr (P:Program) (ops:Array Oper) (Q:Exit→Act→World→Prop) (B:World) (n:FN) (m:SM) (h0:AT) (R:XR) (ks As:List Nat):Nat→List Oper→List (List (Nat×Nat))→Prop
 |i,o::l,a::pss=>(i∈ks∨match o.dst with|some b=>Tv P ops Q B n m h0 R As i o b a|none=>False)∧Dr P ops Q B n m h0 R ks As (i+1) l pss
 |_,_,_=>True
section
variable {P:Program}{ops:Array Oper}{Q:Exit→Act→World→Prop}{B:World}{n:FN}{m:SM}{h0:AT}{R:XR}{ks As:List Nat}
def Dr.at_:∀{l:List Oper}{pss:List (List (Nat×Nat))}{k i:Nat}{o:Oper}{u:Nat},Dr P ops Q B n m h0 R ks As k l pss→l.length=pss.length→k+i∉ks→l[i]? =some o→o.dst=some u→∃a,pss[i]? =some a∧Tv P ops Q B n m h0 R As (k+i) o u a
 |[],_,_,_,_,_,_,_,_,h,_=>by simp at h
 |_::_,[],_,_,_,_,_,c,_,_,_=>by simp at c
 |p::l,a::pss,k,0,o,u,g,c,j,b,hd=>by
  simp only[jB,hY] at b;subst b;simp only[Dr,hd] at g;exact⟨a,rfl,g.1.resolve_left j⟩
 |p::l,a::pss,k,i+1,o,u,g,c,j,b,hd=>by
  simp only[iX] at b;obtain⟨q,s,t⟩:=Dr.at_ (l:=l) (pss:=pss) (k:=k+1) (i:=i) g.2 (by simpa using c) (by rw[show k+1+i=k+(i+1) by omega];exact j) b hd;rw[show k+(i+1)=k+1+i by omega];exact⟨q,by simpa using s,t⟩
def Dr.cons {i:Nat}{o:Oper}{l:List Oper}{c:List (Nat×Nat)}{pss:List (List (Nat×Nat))}{G:Nat}(hd:o.dst=some G) (g:As.contains i=false) (j:o.guard=none)
  (h:∀X mt h,CF h0 h→(∀b,X b→h0.size≤b∧b<h.size)→PA (R X) h (λfr=>LF P ops (Exit.then (KS B n G (R X i) h (fr++(m++mt))) Q) [o] B h n (fr++(m++mt))) c []) (t:Dr P ops Q B n m h0 R ks As (i+1) l pss):Dr P ops Q B n m h0 R ks As i (o::l) (c::pss):=by
 simp only[Dr,hd];refine⟨.inr λX mt p s u=>PA.imp (λfr k=>?_) _ _ (h X mt p s u),t⟩;rw[j];refine λa w x y=>FG (λe a w q=>?_) _ a w (k a w x y);cases e<;>first|exact q|skip
 obtain⟨v,z,A,C,D,F⟩:=q;exact⟨v,z,A,C,D,F,λh=>by rw[g] at h;cases h⟩
def Dr.al {i:Nat}{l:List Oper}{pss:List (List (Nat×Nat))}{w T:Nat}{cs:List Value}{ty:TypeId}{a:String}{g:Array Edge}(j:∀X,R X i=U8 h0 T cs) (k:Cx P T=some cs) (hd:Nat.blt w n.1=true) (t:Dr P ops Q B n m h0 R ks As (i+1) l pss):Dr P ops Q B n m h0 R ks As i (⟨some w,.alloc T,ty,a,g,none⟩::l) ([]::pss):=by
 refine⟨.inr ?_,t⟩;intro X mt h o _;show LF P ops (Exit.then (KS B n w (eE (R X) As i h) h _) Q) _ B h n _
 refine Wg (CF.refl h) k hd λv h' p r'=>AL p ?_;obtain⟨b,e,c,q,s⟩:=r';have u:R X i v h':=by rw[j];exact⟨b,e,iK o.siz c,q,s⟩
 exact⟨u,λ_=>⟨b,by rw[e];rfl,c⟩⟩
def Dr.skip {i:Nat}{o:Oper}{l:List Oper}{a:List (Nat×Nat)}{pss:List (List (Nat×Nat))}(h:ks.contains i=true) (t:Dr P ops Q B n m h0 R ks As (i+1) l pss):Dr P ops Q B n m h0 R ks As i (o::l) (a::pss):=
 ⟨.inl (gI.1 h),t⟩
end
def Xd (h0:AT) (R:XR) (i:Nat):Prop:=∃r,(∀X,R X i=r)∧∀v h,r v h→∃b,MR v=some b∧h0.size≤b∧b<h.size
def UI {h0:AT}{R:XR}:∀i,i∈([]:List Nat)→Xd h0 R i:=λi a=>by cases a
def WE {R:XR}{h:AT}{a T:Nat}{cs:List Value}{l:List Nat}(e:∀X,R X a=U8 h T cs) (t:∀i,i∈l→Xd h R i):∀i,i∈a::l→Xd h R i:=λi c=>by
 rcases gK.1 c with rfl|c
 ·exact⟨_,e,λv h' ⟨b,d,g,j,_⟩=>⟨b,by rw[d];rfl,g,j⟩⟩
 ·exact t i c
section
variable {P:Program}{ex:List (Nat×AP)}{RR N:AP}{cs:List Code}{B:World}{h:AT}{n:FN}{m m0:SM}{S:Nat→Prop}{L:List HP}
def UK {l:List Oper}{id:Nat}(ks F As:List Nat) (R:XR) (pss:List (List (Nat×Nat))) (fs:List (Nat×Nat)) {ls:List Oper}(hm:P.follows .mixedOrders=true) (hc:U0 l.toArray ks F=true) (ms:List Nat) (aa:m.map (·.1)=ms) (H:Sq l.toArray ks n ms=true)
  (A:QQ l.toArray ks l pss=true) (ab:(fs.all λp=>Nat.blt p.1 l.length&& !ks.contains p.1&&(Ct l.toArray p.1).any (Nat.beq p.2 ·))=true) (ac:(ks.filterMap λt=>l[t]?)=ls) (I:RE m0 m)
  (C:∀i v D Y X Z,CF h D→CF D Y→(∀b,X b→Z b)→(∀b,Z b→X b∨D.size≤b)→R X i v D→R Z i v Y)
  (ad:(As.all λi=> !ks.contains i&& !F.contains i)=true) (J:∀i,i∈As→Xd h R i)
  (hF:PD P l.toArray ks n m h R F)
  (step:Dr P l.toArray (Qx ex RR (W P ex RR cs N)) B n m h R ks As 0 l pss)
  (ae:∀h' X,CF h h'→(∀b,X b→h.size≤b∧b<h'.size)→PA (R X) h' (λfr=>Wo (R1 l.toArray As) (lk fr)→dV (R1 l.toArray As) (lk fr) X→LF P l.toArray (Qx ex RR (W P ex RR cs N)) ls B h' n (fr++m)) fs []):WF P ex RR (.region id l.toArray true::cs) N B h n m0:=by
 intro a w K hw;subst aa;simp only[U0,gG,gT,hO] at hc;obtain⟨⟨⟨⟨⟨⟨D,Y⟩,h3⟩,h4⟩,h5⟩,h6⟩,h7⟩:=hc;simp only[QQ,gG] at A;have M:l.length=pss.length:=gH A.1;have q:∀i,i∈As→i∉ks∧i∉F:=λi g=>by
  have:=gE.1 ad i g;simp only[gG,gS] at this;exact⟨λh=>(by rw[gI.2 h] at this;cases this.1),λh=>(by rw[gI.2 h] at this;cases this.2)⟩
 refine λrd af=>Mb af LI hm (WC (R:=R) (B:=B) (h0:=h) (n:=n) (m:=m) ks As (λX i g v h' Q=>by obtain⟨r,U,e2⟩:=J i g;rw[U] at Q;exact e2 v h' Q) (λi g X Z v h' Q=>by obtain⟨r,U,_⟩:=J i g;rw[U] at Q ⊢;exact Q) (λt ht=>by have:=gE.1 D t ht;simp [Nat.blt] at this ⊢;omega) Y h6 F (h3.imp (λe=>by cases ks with|nil=>rfl|cons _ _=>simp at e) λx=>x) (Iy h4) h5 h7 (λc a w hq=>hq) (λf K hA=>(q f hA).2 K) (λf K=>hF.at_ f K) H C (λi g=>(q i g).1) (λi o d g ho hd=>?_) (λa w h' X g1 g2 g3 gX g4 g5 g6=>?_) _ _ _ _ ?_ ⟨by simp,λj oj _ y=>(by rw[getD_replicate_false] at y;cases y),λt ht=>getD_in (by have:=gE.1 D t ht;simp [Nat.blt] at this ⊢;omega) (getD_replicate_false _ _)⟩ ⟨⟨h,hw.drew,CF.refl h,K.sub I,λi _ y=>(by rw[getD_replicate_false] at y;cases y)⟩,λi _ j _ _ y=>(by rw[getD_replicate_false] at y;cases y)⟩)
 ·have G:l[i]? =some o:=by simpa using ho
  obtain⟨ps,q1,q2⟩:=Dr.at_ (k:=0) step M (by rw[hM];exact g) G hd;rw[hM] at q2;refine⟨ps,?_,q2⟩;have ai:i<l.length:=(hJ.1 G).1;have hz:((o,ps),i)∈(l.zip pss).zipIdx:=by
   rw[kI];exact⟨i,by rw[kJ,(kK (z:=(o,ps))).2 ⟨G,q1⟩];simp⟩
  have:=gE.1 A.2 _ hz;simp only[gT,gI,g,iB] at this;exact this
 ·obtain⟨fr,k1,k2⟩:=Hu (a:=a) (n:=n) _ _ (ae h' X g2 gX) (λp hp=>by
   have e:=gE.1 ab p hp;simp only[gG,gS] at e;have U:p.1<l.toArray.size:=by have:=e.1.1;simp [Nat.blt] at this ⊢;omega
   obtain⟨d,v,q1,q2,q3⟩:=g4 p.1 U (λh=>by rw[gI.2 h] at e;cases e.1.2);have e2:=e.2;rw[q1] at e2;have:p.2=d:=gH (by simpa using e2);exact⟨v,by rw[this];exact q2,q3⟩) ⟨g3.dfr,g3.siz,λi v g=>by simp [lk] at g⟩
  have V:(ks.filterMap λt=>l.toArray[t]?)=ls:=by rw[←ac];congr 1;funext t;simp
  rw[V];exact k1 (λs hs s' ag ah u u' e e'=>g5 s hs s' ag ah u u' (k2.at_ _ _ e) (k2.at_ _ _ e')) (λs hs u e=>g6 s hs u (k2.at_ _ _ e)) a w (k2.append g3) g1
 ·unfold Oq;rw[jY];simp
end
def SX (S:Nat→Prop) (h0 h:AT) (X:Nat→Prop):Nat→Prop:=λb=>SN S h0 h b∧¬X b
def SX.mono {S:Nat→Prop}{h0 h h':AT}{X c:Nat→Prop}(d:∀b,S b→b<h0.size) (g:CF h0 h) (j:CF h h') (m:∀b,X b→c b) (k:∀b,c b→X b∨h.size≤b):B6 (SX S h0 h X) h (SX S h0 h' c) h':=by
 have e:=SN.mono d g j;refine⟨λb a=>⟨e.sub b a.1,λl=>?_⟩,λb a=>e.same b a.1,e.siz⟩;rcases k b l with i|i
 ·exact a.2 i
 ·have:b<h.size:=a.1.elim (λx=>gJ (d b x) g.siz) (·.2);omega
def SX.lt {S:Nat→Prop}{h0 h:AT}{X:Nat→Prop}(a:∀b,S b→b<h0.size) (o:CF h0 h):∀b,SX S h0 h X b→b<h.size:=λb c=>c.1.elim (λx=>gJ (a b x) o.siz) (·.2)
def La {S:Nat→Prop}{L:List HP}{h0 h:AT}{X:Nat→Prop}(a:St S L h0) (o:CF h0 h):St (SX S h0 h X) [] h:=⟨SX.lt a.1 o,trivial⟩
def SX.ext {S:Nat→Prop}{h0 h:AT}{X:Nat→Prop}(a:∀b,S b→b<h0.size) (o:CF h0 h) (c:∀b,X b→h0.size≤b∧b<h.size):B6 S h0 (SX S h0 h X) h:=
 ⟨λb x=>⟨.inl x,λd=>by have:=a b x;have:=(c b d).1;omega⟩,λb g=>o.same b (a b g),o.siz⟩
def SX.done {S S2:Nat→Prop}{h0 h a:AT}{X:Nat→Prop}(o:CF h0 h) (j:∀b,X b→h0.size≤b∧b<h.size) (e:B6 (SX S h0 h X) h S2 a) (i:St S2 [dW (SX S h0 h X) h] a):CF h a∧B6 S2 a (SX S h0 a X) a:=by
 obtain⟨F,⟨k,l⟩,m,_⟩:=i.2;refine⟨⟨e.siz,λb c=>?_⟩,λb c=>?_,λ_ _=>rfl,gN _⟩
 ·rcases Classical.em (SX S h0 h X b) with g|g
  ·exact e.same b g
  ·exact l b ⟨c,g⟩
 ·rcases jL b h.size with g|g
  ·rcases Classical.em (SX S h0 h X b) with d|d
   ·exact⟨d.1.imp_right λx=>⟨x.1,i.1 b c⟩,d.2⟩
   ·exact absurd c (m b ((k b).2 ⟨g,d⟩)).2
  ·exact⟨.inr ⟨iK o.siz g,i.1 b c⟩,λn=>by have:=(j b n).2;omega⟩
def Wq (S X:Nat→Prop) (h a:AT) (c:List Nat) (L:List HP):Prop:=(∀b,S b→b<h.size)∧CF h a∧(∀b,b∈c→(h.size≤b∧b<a.size)∧X b)∧Sp (SX S h a X) L a (λb=>(b<h.size∧¬S b)∨b∈c)
def Wq.nil {S X:Nat→Prop}{L:List HP}{h d:AT}(a:St S L h) (o:CF h d) (i:∀b,X b→h.size≤b∧b<d.size):Wq S X h d [] L:=
 ⟨a.1,o,λb j=>(by cases j),Sp.ext a.2 (λb x=>(SX.ext a.1 o i).sub b x) (λc g=>o.same c (g.elim (a.1 c) (·.1))) λc g=> .inl g⟩
def Wq.cons {S X:Nat→Prop}{L:List HP}{h d:AT}{g:List Nat}{b T:Nat}{cs:List Value}(k:Wq S X h d g L) (i:h.size≤b) (j:b<d.size) (l:d[b]? =some (.cells cs.toArray T (0,0))) (m:b∉g) (n:X b):Wq S X h d (b::g) (Bx b T cs::L):=by
 obtain⟨o,p,q,s⟩:=k;refine⟨o,p,λc a=>?_,λc=>c=b,⟨λ_=>iM,l⟩,λc a=>by subst a;exact .inr (gY ..),s.mono λc a=>⟨a.imp_right (hE _),λe=>?_⟩⟩
 ·rcases gK.1 a with rfl|a
  ·exact⟨⟨i,j⟩,n⟩
  ·exact q c a
 ·subst e;rcases a with a|a
  ·have:=a.1;omega
  ·exact m a
def Wq.st {S X:Nat→Prop}{L:List HP}{h b:AT}{j:List Nat}(k:Wq S X h b j L):St (SX S h b X) L b:=by
 obtain⟨l,g,i,m⟩:=k;refine⟨SX.lt l g,m.mono λc a=>?_⟩;rcases a with a|a
 ·exact⟨gJ a.1 g.siz,λd=>d.1.elim a.2 λx=>by omega⟩
 ·exact⟨(i c a).1.2,λd=>d.2 (i c a).2⟩
def dV.at_ {a:List Nat}{f:Nat→Option Value}{X:Nat→Prop}(k:dV a f X) {s b:Nat}{c:Value}(h:a.contains s=true) (e:f s=some c) (z:MR c=some b):X b:=k s (gI.1 h) c e b z
end Go.Proofs.YtedgiljmffngoaaGreat
