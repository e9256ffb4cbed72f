import Derived.Test.YtabonambpbofgaaGreatNCore26
namespace Go.Proofs.YtabonambpbofgaaGreat
set_option linter.all false
open Go.RowKit
abbrev FR:=(Nat→Value)→(Nat→Prop)→(Nat→Prop)→AR
def vJ (R:FR) (a:Nat→Value) (X:Nat→Prop):AR:=λi v h=>v=a i∧∃F:Nat→Prop,(∀b,F b→X b)∧R a X F i v h
abbrev UX (fp:Nat→Nat→Prop):Nat→Prop:=λb=>∃j,fp j b
def Aaa (B:World) (h0:AS) (n:FN) (m:SM) (ops:Array Oper) (ks:List Nat) (R:FR) (c:Array Bool) (a:Act) (w:World):Prop:=
 ∃(fp:Nat→Nat→Prop) (g:Nat→Value) (h:AS),Wd B h w∧EY h0 h∧Fr n a m∧(∀i b,fp i b→h0.size≤b∧b<h.size)∧(∀i j b,fp i b→fp j b→i=j)∧(∀i,c.getD i false=false→∀b,¬fp i b)∧
  ∀i,i∉ks→c.getD i false=true→∃d,IQ ops i=some d∧a.tmps[d]? =some (g i)∧R g (UX fp) (fp i) i (g i) h
def oX (R:FR) (a:Nat→Value) (X:Nat→Prop) (i:Nat) (h:AS) (v:Value) (h':AS):Prop:=∃F:Nat→Prop,(∀b,F b→h.size≤b∧b<h'.size)∧R a (λb=>X b∨F b) F i v h'
def Vq (P:Program) (ops:Array Oper) (Q:Exit→Act→World→Prop) (B:World) (n:FN) (m:SM) (h0:AS) (R:FR) (i:Nat) (o:Oper) (d:Nat) (j:List (Nat×Nat)):Prop:=
 ∀a X mt h,EY h0 h→(∀b,X b→h0.size≤b∧b<h.size)→PA (vJ R a X) h (λfr=>match o.guard with
  |none=>LF P ops (Exit.then (KS B n d (oX R a X i h) h (fr++(m++mt))) Q) [o] B h n (fr++(m++mt))
  |some (g,b)=>∃c,IQ ops g=some c∧((lk fr c=some (.bool b)∧LF P ops (Exit.then (KS B n d (oX R a X i h) h (fr++(m++mt))) Q) [{ o with guard:=none}] B h n (fr++(m++mt)))∨∃v,lk fr c=some v∧yb v≠some b∧oX R a X i h undef h)) j []
def Xu (P:Program) (ops:Array Oper) (n:FN) (m:SM) (h0:AS) (R:FR) (f:Nat) (o:Oper) (c:List (Nat×Nat)):Prop:=
 ∀b X mt h,EY h0 h→PA (vJ R b X) h (λfr=>∀a,Fr n a (fr++(m++mt))→∃v,Yields P ops o v a∧R b X (λ_=>False) f v h) c []
def zpB (ops:Array Oper) (a:List (Nat×List Nat)):Bool:=a.all λz=>match ops[z.1]? with
 |some o=>z.2.all λk=>(NE o).contains k
 |none=>false
section
variable {P:Program}{ops:Array Oper}{Q:Exit→Act→World→Prop}
def Wu {B:World}{h0:AS}{n:FN}{m:SM}{R:FR}(ks:List Nat) (ba:∀t,t∈ks→t<ops.size) (bb:ks.Nodup) (hb:RM ops=true)
  (F:List Nat) (bc:ks=[]∨TC ops ks F=true) (a0:PI ops ks) (bx:Ps ops ks=true) (be:Region.noSelect ops=true) (hQ:∀c a w,¬Q (.panic c) a w)
  (hF:∀f,f∈F→(f<ops.size∧f∉ks)∧NI ops f=true∧∃o d ps,ops[f]? =some o∧o.dst=some d∧TN ops o ps=true∧Xu P ops n m h0 R f o ps)
  (ax:U5 ops ks n (m.map (·.1))=true)
  (a1:∀G i v h h' X X' F,EY h0 h→EY h h'→(∀b,F b→h0.size≤b∧b<h.size)→(∀b,X b→X' b)→(∀b,X' b→X b∨h.size≤b)→R G X F i v h→R G X' F i v h')
  (bf:∀G bg X F i v h,(∀o,ops[i]? =some o→∀k,k∈NE o→G k=bg k)→R G X F i v h→R bg X F i v h)
  (step:∀i o d,i∉ks→ops[i]? =some o→o.dst=some d→∃ps,TN ops o ps=true∧Vq P ops Q B n m h0 R i o d ps)
  (bh:∀a w h fp G,Wd B h w→EY h0 h→Fr n a m→(∀i b,fp i b→h0.size≤b∧b<h.size)→(∀i j b,fp i b→fp j b→i=j)→(∀i,i<ops.size→i∉ks→∃d,IQ ops i=some d∧a.tmps[d]? =some (G i)∧R G (UX fp) (fp i) i (G i) h)→wpList P ops Q (ks.filterMap λt=>ops[t]?) a w):
  ∀(D:Nat) (l:Array Bool) (a:Act) (w:World),XB l=D→SZ ops ks l→Aaa B h0 n m ops ks R l a w→wpAny P .any ops Q D l a w:=by
 intro D
 induction D with
 |zero=>
  intro l a w hu C ai;have M:∀i,l.getD i true=true:=λi=>V0 hu;obtain⟨fp,G,h,g1,g2,g3,hX,dj,aj,g4⟩:=ai;have H:∀i,i<ops.size→i∉ks→l.getD i false=true:=λi I s=>by
   have h2:=M i;have:i<l.size:=by rw[C.size];exact I
   simpa [this] using h2
  have hf:=bh a w h fp G g1 g2 g3 hX dj (λi I s=>g4 i s (H i I s));exact MK hb ks 0 l a w hu C.size (λi _ _=>M i) (λt ht=>⟨ba t ht,C.tail t ht⟩) a0 bb hf
 |succ D ih=>
  intro l a w hu C ai;obtain⟨fp,G,h,g1,g2,g3,hX,dj,aj,g4⟩:=ai;have bz:∀b,UX fp b→h0.size≤b∧b<h.size:=λb ⟨j,A⟩=>hX j b A;by_cases M:∀i,i<ops.size→i∉ks→l.getD i true=true
  ·have H:∀i,i<ops.size→i∉ks→l.getD i false=true:=λi I s=>by
    have h2:=M i I s;have:i<l.size:=by rw[C.size];exact I
    simpa [this] using h2
   have hf:=bh a w h fp G g1 g2 g3 hX dj (λi I s=>g4 i s (H i I s));exact MK hb ks (D+1) l a w hu C.size M (λt ht=>⟨ba t ht,C.tail t ht⟩) a0 bb hf
  ·have bi:∀j,l.getD j false=true→j∉ks:=λj A b0=>by
    have:=getD_both (C.tail j b0);rw[A] at this;cases this
   have aa:∀i o,i∈Region.ready .any ops l→ops[i]? =some o→∀ps,TN ops o ps=true→∀p∈ps,∃v,a.tmps[p.2]? =some v∧vJ R G (UX fp) p.1 v h:=by
    intro i o hi ho ps ak p hp;obtain⟨ag,o',J,ae⟩:=mem_ready.1 hi;have:o'=o:=Acg (J.symm.trans ho);subst this;have q:=Acm.1 ak p hp;simp only[Acj] at q;have A:p.1∈NE o':=by simpa using q.1
    obtain⟨e,he,al⟩:=Adb.1 A;obtain⟨am,an⟩:=Ads.1 he;have b1:e∈o'.after:=by simpa using am
    have h3:=ae e b1 an;rw[al] at h3;obtain⟨d',V,q2,q3⟩:=g4 p.1 (bi _ h3) h3;have h2:=q.2;rw[V] at h2;have:p.2=d':=Aco (by simpa using h2);exact⟨G p.1,by rw[this];exact q2,rfl,fp p.1,λb hb=>⟨p.1,hb⟩,q3⟩
   have ao:∀i o d,i∉ks→i∈Region.ready .any ops l→ops[i]? =some o→o.dst=some d→∀v w' h',Wd B h' w'→EY h h'→oX R G (UX fp) i h v h'→wpAny P .any ops Q D (l.setIfInBounds i true) (a.put (some d) v) w':=by
    intro i o d s hi ho ab v w' h' b2 J b3;obtain⟨FN,ap,hr⟩:=b3;obtain⟨ag,oo,b4,_⟩:=mem_ready.1 hi;have ac:i<ops.size:=(Ade.1 b4).1;have hd:IQ ops i=some d:=by unfold IQ;rw[ho];exact ab
    have z:=Acm.1 ax i (Adf.2 ac);rw[hd] at z;simp only[Acj,Ada,Acm,Adf,Ac5,Acp,s,Ad1] at z;obtain⟨⟨av,a2⟩,a3⟩:=z;have aq:d+1≤n.1:=by simpa [Nat.blt] using av
    have af:d<n.1:=aq;have cm:(a.put (some d) v).tmps[d]? =some v:=by
     simp only[Act.put,Ad6];have:=g3.siz;simp [this,af]
    have cn:∀j dj,IQ ops j=some dj→j≠i→j∉ks→(a.put (some d) v).tmps[dj]? =a.tmps[dj]? :=by
     intro j dj V e A;have a4:j<ops.size:=by
      unfold IQ at V;cases K:ops[j]? with
      |none=>rw[K] at V;cases V
      |some oj=>exact(Ade.1 K).1
     have q:=a3 j a4;rw[V] at q;have W:d≠dj:=by
      rcases q with (q|q)|q
      ·exact absurd q A
      ·exact absurd (Aco q).symm e
      ·intro e';subst e';simp at q
     simp only[Act.put,Ad6];rw[Ace W]
    have b5:∀b,¬fp i b:=aj i (getD_in (by rw[C.size];exact ac) (by
     cases U:l.getD i false with
     |false=>rfl
     |true=>rw[getD_both ag] at U;cases U) |> λ_=>(by
     cases U:l.getD i false with
     |false=>rfl
     |true=>rw[getD_both ag] at U;cases U))
    have b6:∀b,(UX (λj b=>(j=i∧FN b)∨fp j b) b)↔(UX fp b∨FN b):=λb=>by
     constructor
     ·rintro⟨j,A|A⟩
      ·exact .inr A.2
      ·exact .inl ⟨j,A⟩
     ·rintro(⟨j,A⟩|Y)
      ·exact⟨j,.inr A⟩
      ·exact⟨i,.inl ⟨rfl,Y⟩⟩
    have ay:UX (λj b=>(j=i∧FN b)∨fp j b)=λb=>UX fp b∨FN b:=funext λb=>propext (b6 b);have bj:∀j,j≠i→(λk=>if k=i then v else G k) j=G j:=λj e=>Ace e;have bk:∀(j:Nat) (oj:Oper),ops[j]? =some oj→(∀k,k∈NE oj→l.getD k false=true)→∀k,k∈NE oj→G k=(λk=>if k=i then v else G k) k:=λj oj _ hp k hk=>by
     have:k≠i:=λe=>by
      subst e;have q:=hp _ hk;rw[getD_both ag] at q;cases q
     exact(bj k this).symm
    have b7:∀(j:Nat) (oj:Oper),l.getD j false=true→ops[j]? =some oj→∀k,k∈NE oj→l.getD k false=true:=λj oj b8 K k hk=>by
     obtain⟨e,he,al⟩:=Adb.1 hk;obtain⟨am,an⟩:=Ads.1 he;have:=C.closed j oj K b8 e (by simpa using am) an;rw[al] at this;exact this
    have b9:∀(o':Oper),ops[i]? =some o'→∀k,k∈NE o'→l.getD k false=true:=λo' J k hk=>by
     obtain⟨_,o2,ca,ae⟩:=mem_ready.1 hi;have:o2=o':=Acg (ca.symm.trans J);subst this;obtain⟨e,he,al⟩:=Adb.1 hk;obtain⟨am,an⟩:=Ads.1 he;have:=ae e (by simpa using am) an;rw[al] at this;exact this
    have bl:(λb=>(i=i∧FN b)∨fp i b)=FN:=funext λb=>propext ⟨λx=>x.elim (·.2) λy=>absurd y (b5 b),λx=> .inl ⟨rfl,x⟩⟩;refine ih _ _ _ (by have:=Pj ag;omega) (C.set hi s) ⟨λj b=>(j=i∧FN b)∨fp j b,λk=>if k=i then v else G k,h',b2,g2.trans J,?_,λj b A=>?_,λj j' b q h2=>?_,λj U b A=>?_,λj A U=>?_⟩
    rotate_left 1
    ·rcases A with A|A
     ·exact⟨Adq g2.siz (ap b A.2).1,(ap b A.2).2⟩
     ·exact⟨(hX j b A).1,Acv (hX j b A).2 J.siz⟩
    ·rcases q with q|q<;>rcases h2 with h2|h2
     ·rw[q.1,h2.1]
     ·have:=(ap b q.2).1;have:=(hX _ b h2).2;omega
     ·have:=(ap b h2.2).1;have:=(hX _ b q).2;omega
     ·exact dj _ _ b q h2
    ·by_cases e:i=j
     ·subst e;have:i<l.size:=by rw[C.size];exact ac
      simp [this] at U
     ·rcases A with A|A
      ·exact e A.1.symm
      ·rw[getD_set_ne false e] at U;exact aj j U b A
    rotate_left 1
    ·have hp:=g3.put av v;refine⟨hp.dfr,hp.siz,λi' u bm=>hp.at_ i' u ?_⟩;have W:Nat.beq d i'=false:=by
      cases Y:Nat.beq d i' with
      |false=>rfl
      |true=>
       have:=Aco Y;subst this;have q:=dH bm;rw[←Acp] at q;rw[q] at a2;cases a2
     simp only[lk,W,Acd];exact bm
    ·by_cases e:i=j
     ·subst e;refine⟨d,hd,?_,?_⟩
      rotate_left 1
      ·rw[ay];show R _ _ (λb=>(i=i∧FN b)∨fp i b) i (if i=i then v else G i) h'
       rw[bl,Acf rfl];exact bf _ _ _ _ _ _ _ (λo' J=>bk i o' J (b9 o' J)) hr
      rw[show (λk=>if k=i then v else G k) i=v from Acf rfl];simp only[Act.put,Ad6];have:=g3.siz;simp [this,af]
     ·rw[getD_set_ne false e] at U;obtain⟨dj,V,q2,q3⟩:=g4 j A U;have bn:(λb=>(j=i∧FN b)∨fp j b)=fp j:=funext λb=>propext ⟨λx=>x.elim (λy=>absurd y.1.symm e) id,.inr⟩;refine⟨dj,V,?_,?_⟩
      rotate_left 1
      ·rw[ay];show R _ _ (λb=>(j=i∧FN b)∨fp j b) j (if j=i then v else G j) h'
       rw[bn,Ace λx=>e x.symm];exact bf _ _ _ _ _ _ _ (λoj K=>bk j oj K (b7 j oj U K)) (a1 _ _ _ _ _ _ _ _ g2 J (hX j) (λb x=> .inl x) (λb x=>x.imp_right λy=>(ap b y).1) q3)
      rw[bj j λx=>e x.symm];have a4:j<ops.size:=by
       unfold IQ at V;cases K:ops[j]? with
       |none=>rw[K] at V;cases V
       |some oj=>exact(Ade.1 K).1
      have q:=a3 j a4;rw[V] at q;have W:d≠dj:=by
       rcases q with (q|q)|q
       ·exact absurd q A
       ·exact absurd (Aco q) e
       ·intro e';subst e';simp at q
      simp only[Act.put,Ad6];rw[Ace W];exact q2
   by_cases bo:∃f,f∈F∧f∈Region.ready .any ops l
   ·obtain⟨f,cb,aw⟩:=bo;obtain⟨cc,a5,o,d,ps,ho,ab,ak,cd⟩:=hF f cb;obtain⟨fr,hK,ar⟩:=NP (a:=a) (n:=n) _ _ (cd G (UX fp) (Lw a) h g2) (aa f o aw ho ps ak) ⟨g3.dfr,g3.siz,λi v hi=>by simp [lk] at hi⟩;obtain⟨v,hy,hr⟩:=hK a (ar.append (g3.append g3.full));refine wpAny_first ho (Region.noSelect_spec be) (λc a w hq=>absurd hq (hQ c _ w)) D l a w (λj oj A W bp a6=>?_) aw hy ?_
    ·have q:=Acm.1 a5 j (Adf.2 (Ade.1 A).1);simp only[ho,A,Ac5,beq_iff_eq,W,Ad1] at q;rcases q with q|q
     ·obtain⟨ce,bq,e,he,Y,a7⟩:=Region.waitsFor_spec q;have:ce=oj:=Acg (bq.symm.trans A);subst this;exact absurd a7 (a6 e he Y)
     ·rcases q with q|q
      ·obtain⟨cf,br,e,he,Y,a7⟩:=Region.waitsFor_spec q;obtain⟨_,cg,bs,H⟩:=mem_ready.1 aw;have:cf=cg:=Acg (br.symm.trans bs);subst this;have h5:=H e he Y;rw[a7,getD_both bp] at h5;cases h5
      ·exact q
    ·rw[ab];exact ao f o d cc.2 aw ho ab v w h g1 (EY.refl h) ⟨λ_=>False,λ_ x=>x.elim,by have e:(λb=>UX fp b∨False)=UX fp:=funext λb=>propext (or_iff_left id);rw[e];exact hr⟩
   have bt:∃k0,k0<ops.size∧k0∉ks∧l.getD k0 true=false∧k0∉F:=by
    obtain⟨k1,co,ch,ci⟩:∃k1,k1<ops.size∧k1∉ks∧l.getD k1 true=false:=by
     apply Afc;intro a6;refine M λi I s=>?_;cases U:l.getD i true with
     |true=>rfl
     |false=>exact absurd ⟨i,I,s,U⟩ a6
    obtain⟨i0,V,q2,q3⟩:=Mv (p:=λi=>l.getD i true||ks.contains i) k1 (by simp [ci,ch]);simp only[Ac9] at q2;have ad:i0<ops.size:=by omega
    have az:i0∉ks:=λh=>by rw[Acp.2 h] at q2;cases q2.2
    refine⟨i0,ad,az,q2.1,λhf=>bo ⟨i0,hf,mem_ready.2 ⟨q2.1,ops[i0],by simp [ad],λe he bu=>?_⟩⟩⟩;have h4:=Acm.1 hb i0 (Adf.2 ad);have h5:ops[i0]? =some ops[i0]:=by simp [ad]
    rw[h5] at h4;simp only[Aed,Ad0,Ae9] at h4;have h6:=h4 e he;simp only[bu,Adg,Ae2,Ac1] at h6;have h7:=q3 e.on h6;have h9:=Acm.1 bx i0 (Adf.2 ad);simp only[Ac5,Acp,az,Ad1,h5,Aed,Ad0,Ae9] at h9;have ah:=h9 e he;simp only[bu,Adg,Ae2,Ada] at ah;rcases ah with ah|ah
    ·cases ah
    rw[ah,Bool.or_false] at h7;have h8:e.on<l.size:=by rw[C.size];omega
    simp only[Aea,Aey h8,Ad0] at h7 ⊢;exact h7
   have ⟨cq,a8,cp,bv,_⟩:=bt;obtain⟨i0,_,cj,_⟩:=O7 hb C.size a8 bv;refine⟨λh0=>absurd (h0▸cj) (by simp),λi hi=>?_⟩;obtain⟨ag,o,ho,ae⟩:=mem_ready.1 hi;have ac:i<ops.size:=(Ade.1 ho).1;have s:i∉ks:=λs=>by
    rcases bc with hc|hc
    ·rw[hc] at s;cases s
    ·obtain⟨k0,V,q2,q3,q4⟩:=bt;exact R0 hc a0 C _ k0 rfl V q2 q4 (getD_in (by rw[C.size];exact V) (by
      cases U:l.getD k0 false with
      |false=>rfl
      |true=>rw[getD_both q3] at U;cases U)) i s hi
   have z:=Acm.1 ax i (Adf.2 ac);cases hd:IQ ops i with
   |none=>rw[hd] at z;simp only[Acp,s,Ac5,Ad1] at z;cases z
   |some d=>
   rw[hd] at z;simp only[Acj,Ada,Acm,Adf,Ac5,Acp,s,Ad1] at z;obtain⟨⟨av,a2⟩,a3⟩:=z;have aq:d+1≤n.1:=by simpa [Nat.blt] using av
   have af:d<n.1:=aq;have ab:o.dst=some d:=by unfold IQ at hd;rw[ho] at hd;exact hd
   obtain⟨ps,ak,a9⟩:=step i o d s ho ab;have au:=aa i o hi ho ps ak;obtain⟨fr,hK,ar⟩:=NP (a:=a) (n:=n) _ _ (a9 G (UX fp) (Lw a) h g2 bz) au ⟨g3.dfr,g3.siz,λi v hi=>by simp [lk] at hi⟩;have Z:Fr n a (fr++(m++Lw a)):=ar.append (g3.append g3.full);have ck:∀i u,a.tmps[i]? =some u→lk (fr++(m++Lw a)) i=some u:=by
    intro i u hu;have U:lk (Lw a) i=some u:=by
     have:i<a.tmps.size:=(Ade.1 hu).1;rw[U9 this];simp [Aea,hu]
    have cl:∃u',lk (fr++(m++Lw a)) i=some u':=by
     rw[M4,M4,U];cases lk fr i with
     |some x=>exact⟨x,by simp⟩
     |none=>cases lk m i with
      |some x=>exact⟨x,by simp⟩
      |none=>exact⟨u,by simp⟩
    obtain⟨u',bw⟩:=cl;have:=Z.at_ i u' bw;rw[hu] at this;rw[bw,←Acg this]
   have next:=ao i o d s hi ho ab
   have conv:∀a' w',KS B n d (oX R G (UX fp) i h) h (fr++(m++Lw a)) a' w'→wpAny P .any ops Q D (l.setIfInBounds i true) a' w':=by
    rintro a' w' ⟨v,h',f1,f2,f3,f4⟩;have:=Fr.same af Z f1 λi u hi hu=>by
     have W:Nat.beq d i=false:=by
      cases Y:Nat.beq d i with
      |false=>rfl
      |true=>exact absurd (Aco Y).symm hi
     simp only[lk,W,Acd];exact ck i u hu
    subst this;exact next v w' h' f2 f3 f4
   unfold wpOp;simp only[ho];cases hg:o.guard with
   |none=>
    rw[hg] at hK;rw[Acf (by simp [Region.wanted,hg])];exact(Jz hg (hK a w Z g1)).imp (Oper.wp_mono conv) id
   |some gb=>
    obtain⟨g,b⟩:=gb;rw[hg] at hK;obtain⟨dg,V,hK⟩:=hK;rcases hK with ⟨k1,k2⟩|⟨v,k1,k2,k3⟩
    ·have hy:yielded ops a.tmps g=some b:=Qi ar V k1;rw[Acf (by simp [Region.wanted,hg,hy])];exact(QM (Jz rfl (k2 a w Z g1))).imp (Oper.wp_mono conv) id
    ·have hy:yielded ops a.tmps g≠some b:=by rw[Qi ar V k1];exact k2
     rw[Ace (by simp [Region.wanted,hg,hy]),ab];exact next undef w h g1 (EY.refl h) k3
end
def SH (P:Program) (ops:Array Oper) (ks:List Nat) (n:FN) (m:SM) (h0:AS) (R:FR):List Nat→Prop
 |[]=>True
 |f::F=>((f<ops.size∧f∉ks)∧NI ops f=true∧∃o d a,ops[f]? =some o∧o.dst=some d∧TN ops o a=true∧Xu P ops n m h0 R f o a)∧SH P ops ks n m h0 R F
def SH.at_ {P:Program}{ops:Array Oper}{ks:List Nat}{n:FN}{m:SM}{h0:AS}{R:FR}:∀{F:List Nat},SH P ops ks n m h0 R F→∀f,f∈F→(f<ops.size∧f∉ks)∧NI ops f=true∧∃o d b,ops[f]? =some o∧o.dst=some d∧TN ops o b=true∧Xu P ops n m h0 R f o b
 |[],_,f,a=>by cases a
 |g::F,⟨c,h2⟩,f,a=>by
  rcases Acl.1 a with rfl|a
  ·exact c
  ·exact SH.at_ h2 f a
def SH.cons {P:Program}{ops:Array Oper}{ks:List Nat}{n:FN}{m:SM}{h0:AS}{R:FR}{f d:Nat}{o:Oper}{F:List Nat}(c:List (Nat×Nat)) (b:(Nat.blt f ops.size&& !ks.contains f&&NI ops f)=true) (j:ops[f]? =some o) (hd:o.dst=some d) (g:TN ops o c=true)
  (k:∀i X mt h,EY h0 h→PA (vJ R i X) h (λfr=>∀a,Fr n a (fr++(m++mt))→∃v,Yields P ops o v a∧R i X (λ_=>False) f v h) c []) (t:SH P ops ks n m h0 R F):SH P ops ks n m h0 R (f::F):=by
 simp only[Acj,Ada] at b;exact⟨⟨⟨(by simpa [Nat.blt] using b.1.1:f+1≤ops.size),λh=>by rw[Acp.2 h] at b;cases b.1.2⟩,b.2,o,d,c,j,hd,g,k⟩,t⟩
def DD (P:Program) (ops:Array Oper) (Q:Exit→Act→World→Prop) (B:World) (n:FN) (m:SM) (h0:AS) (R:FR) (ks:List Nat):Nat→List Oper→List (List (Nat×Nat))→Prop
 |i,o::l,a::pss=>(i∈ks∨match o.dst with|some d=>Vq P ops Q B n m h0 R i o d a|none=>False)∧DD P ops Q B n m h0 R ks (i+1) l pss
 |_,_,_=>True
section
variable {P:Program}{ops:Array Oper}{Q:Exit→Act→World→Prop}{B:World}{n:FN}{m:SM}{h0:AS}{R:FR}{ks:List Nat}
def DD.at_:∀{l:List Oper}{pss:List (List (Nat×Nat))}{k i:Nat}{o:Oper}{d:Nat},DD P ops Q B n m h0 R ks k l pss→l.length=pss.length→k+i∉ks→l[i]? =some o→o.dst=some d→∃a,pss[i]? =some a∧Vq P ops Q B n m h0 R (k+i) o d a
 |[],_,_,_,_,_,_,_,_,h,_=>by simp at h
 |_::_,[],_,_,_,_,_,c,_,_,_=>by simp at c
 |p::l,a::pss,k,0,o,d,g,c,j,b,hd=>by
  simp only[Aem,Adh] at b;subst b;simp only[DD,hd] at g;exact⟨a,rfl,g.1.resolve_left j⟩
 |p::l,a::pss,k,i+1,o,d,g,c,j,b,hd=>by
  simp only[Aej] at b;obtain⟨q,s,t⟩:=DD.at_ (l:=l) (pss:=pss) (k:=k+1) (i:=i) g.2 (by simpa using c) (by rw[show k+1+i=k+(i+1) by omega];exact j) b hd;rw[show k+(i+1)=k+1+i by omega];exact⟨q,by simpa using s,t⟩
def DD.cons {i:Nat}{o:Oper}{l:List Oper}{g:List (Nat×Nat)}{pss:List (List (Nat×Nat))}{d:Nat}(hd:o.dst=some d) (j:o.guard=none)
  (h:∀c X mt h,EY h0 h→(∀b,X b→h0.size≤b∧b<h.size)→PA (vJ R c X) h (λfr=>LF P ops (Exit.then (KS B n d (R c X (λ_=>False) i) h (fr++(m++mt))) Q) [o] B h n (fr++(m++mt))) g []) (t:DD P ops Q B n m h0 R ks (i+1) l pss):DD P ops Q B n m h0 R ks i (o::l) (g::pss):=by
 simp only[DD,hd];refine⟨.inr λc X mt p s u=>PA.imp (λfr k=>?_) _ _ (h c X mt p s u),t⟩;rw[j];refine λa w y z=>H0 (λe a w q=>?_) _ a w (k a w y z);cases e<;>first|exact q|skip
 obtain⟨v,h2,A,C,D,F⟩:=q;exact⟨v,h2,A,C,D,λ_=>False,λ_ x=>x.elim,by have e:(λb=>X b∨False)=X:=funext λb=>propext (or_iff_left id);rw[e];exact F⟩
def Pa {i:Nat}{o:Oper}{l:List Oper}{c:List (Nat×Nat)}{pss:List (List (Nat×Nat))}{d:Nat}(hd:o.dst=some d) (g:o.guard=none)
  (h:∀a X mt h,EY h0 h→(∀b,X b→h0.size≤b∧b<h.size)→PA (vJ R a X) h (λfr=>LF P ops (Exit.then (KS B n d (oX R a X i h) h (fr++(m++mt))) Q) [o] B h n (fr++(m++mt))) c []) (t:DD P ops Q B n m h0 R ks (i+1) l pss):DD P ops Q B n m h0 R ks i (o::l) (c::pss):=by
 simp only[DD,hd];refine⟨.inr λa X mt j p q=>PA.imp (λfr k=>?_) _ _ (h a X mt j p q),t⟩;rw[g];exact k
def DD.skip {i:Nat}{o:Oper}{l:List Oper}{a:List (Nat×Nat)}{pss:List (List (Nat×Nat))}(h:ks.contains i=true) (t:DD P ops Q B n m h0 R ks (i+1) l pss):DD P ops Q B n m h0 R ks i (o::l) (a::pss):=
 ⟨.inl (Acp.1 h),t⟩
end
section
variable {P:Program}{ex:List (Nat×AP)}{RR N:AP}{cs:List Code}{B:World}{h:AS}{n:FN}{m m0:SM}{S:Nat→Prop}{L:List HP}
def VU {l:List Oper}{id:Nat}(ks F:List Nat) (zs:List (Nat×List Nat)) (Q:zpB l.toArray zs=true) (R:FR) (pss:List (List (Nat×Nat))) (fs:List (Nat×Nat)) {U:List Oper}(hm:P.follows .mixedOrders=true) (hc:Wn l.toArray ks F=true) (ms:List Nat) (V:m.map (·.1)=ms) (C:U5 l.toArray ks n ms=true)
  (u:U3 l.toArray ks l pss=true) (Y:(fs.all λp=>Nat.blt p.1 l.length&& !ks.contains p.1&&(IQ l.toArray p.1).any (Nat.beq p.2 ·))=true) (Z:(ks.filterMap λt=>l[t]?)=U) (D:Un m0 m)
  (y:∀q i v g h2 X X' F,EY h g→EY g h2→(∀b,F b→h.size≤b∧b<g.size)→(∀b,X b→X' b)→(∀b,X' b→X b∨g.size≤b)→R q X F i v g→R q X' F i v h2)
  (aa:∀q s X F i v g,(∀z,z∈zs→z.1=i→∀k,k∈z.2→q k=s k)→R q X F i v g→R s X F i v g)
  (hF:SH P l.toArray ks n m h R F)
  (step:DD P l.toArray (Qx ex RR (W P ex RR cs N)) B n m h R ks 0 l pss)
  (ab:∀h' (fp:Nat→Nat→Prop) (q:Nat→Value),EY h h'→(∀i b,fp i b→h.size≤b∧b<h'.size)→(∀i j b,fp i b→fp j b→i=j)→PA (λi v h2=>v=q i∧R q (UX fp) (fp i) i v h2) h' (λfr=>LF P l.toArray (Qx ex RR (W P ex RR cs N)) U B h' n (fr++m)) fs []):WF P ex RR (.region id l.toArray true::cs) N B h n m0:=by
 intro a w hf hw;subst V;simp only[Wn,Acj,Ac5,Ac1] at hc;obtain⟨⟨⟨⟨⟨⟨g,h2⟩,h3⟩,h4⟩,h5⟩,h6⟩,h7⟩:=hc;simp only[U3,Acj] at u;have G:l.length=pss.length:=Aco u.1;refine λrd ac=>QR ac Nk hm (Wu (R:=R) (B:=B) (h0:=h) (n:=n) (m:=m) ks (λt ht=>by have:=Acm.1 g t ht;simp [Nat.blt] at this ⊢;omega) h2 h6 F (h3.imp (λe=>by cases ks with|nil=>rfl|cons _ _=>simp at e) λx=>x) (M6 h4) h5 h7 (λc a w hq=>hq) (λf hf=>hF.at_ f hf) C y (λq s X F i v g hp hr=>aa q s X F i v g (λz ad e k hk=>?_) hr) (λi o d K H hd=>?_) (λa w h' fp q g1 g2 g3 gX gD g4=>?_) _ _ _ _ ?_ ⟨by simp,λj oj _ I=>(by rw[getD_replicate_false] at I;cases I),λt ht=>getD_in (by have:=Acm.1 g t ht;simp [Nat.blt] at this ⊢;omega) (getD_replicate_false _ _)⟩ ⟨λ_ _=>False,λ_=>undef,h,hw.drew,EY.refl h,hf.sub D,λ_ _ x=>x.elim,λ_ _ _ x=>x.elim,λ_ _ _ x=>x,λi _ I=>(by rw[getD_replicate_false] at I;cases I)⟩)
 ·have g:=Acm.1 Q z ad;subst e;cases H:l.toArray[z.1]? with
  |none=>rw[H] at g;cases g
  |some o=>
   rw[H] at g;exact hp o H k (Acp.1 (Acm.1 g k hk))
 ·have A:l[i]? =some o:=by simpa using H
  obtain⟨ps,q1,M⟩:=DD.at_ (k:=0) step G (by rw[Adj];exact K) A hd;rw[Adj] at M;refine⟨ps,?_,M⟩;have ae:i<l.length:=(Acq.1 A).1;have Q:((o,ps),i)∈(l.zip pss).zipIdx:=by
   rw[Aek];exact⟨i,by rw[List.getElem?_zipIdx,(Af8 (z:=(o,ps))).2 ⟨A,q1⟩];simp⟩
  have:=Acm.1 u.2 _ Q;simp only[Ac5,Acp,K,Ad1] at this;exact this
 ·obtain⟨fr,k1,k2⟩:=NP (a:=a) (n:=n) _ _ (ab h' fp q g2 gX gD) (λp hp=>by
   have e:=Acm.1 Y p hp;simp only[Acj,Ada] at e;have e1:p.1<l.toArray.size:=by have:=e.1.1;simp [Nat.blt] at this ⊢;omega
   obtain⟨d,q1,M,q3⟩:=g4 p.1 e1 (λh=>by rw[Acp.2 h] at e;cases e.1.2);have e2:=e.2;rw[q1] at e2;have:p.2=d:=Aco (by simpa using e2);exact⟨q p.1,by rw[this];exact M,rfl,q3⟩) ⟨g3.dfr,g3.siz,λi v K=>by simp [lk] at K⟩
  have J:(ks.filterMap λt=>l.toArray[t]?)=U:=by rw[←Z];congr 1;funext t;simp
  rw[J];exact k1 a w (k2.append g3) g1
 ·unfold XB;rw[Array.toList_replicate];simp
end
def nI:Value→Nat→Value
 | .tuple xs,i=>xs.getD i undef
 |_,_=>undef
abbrev OW (S:Nat→Prop) (h0:AS) (X F:Nat→Prop) (M:List HP) (h:AS):Prop:=Sp (SX S h0 h X) M h F
def OW.mono {S X a F:Nat→Prop}{h0 h h':AS}{M:List HP}(c:∀b,S b→b<h0.size) (d:EY h0 h) (g:EY h h') (i:∀b,F b→h0.size≤b∧b<h.size) (u:∀b,X b→a b) (j:∀b,a b→X b∨h.size≤b) (k:OW S h0 X F M h):OW S h0 a F M h':=
 Sp.ext k (SX.mono c d g u j).sub (λb l=>g.same b (l.elim (SX.lt c d b) λx=>(i b x).2)) λ_ x=>x
def SX.fz {S:Nat→Prop}{L:List HP}{h0 h:AS}{X:Nat→Prop}(a:St S L h0) (o:EY h0 h):St (SX S h0 h X) [zX (SX S h0 h X) h] h:=(Mm (X:=X) a o).fz
def OW.done {S S2:Nat→Prop}{h0 h h2:AS}{X:Nat→Prop}{M:List HP}(u:∀b,S b→b<h0.size) (o:EY h0 h) (p:∀b,X b→h0.size≤b∧b<h.size) (e:CJ (SX S h0 h X) h S2 h2) (k:St S2 (zX (SX S h0 h X) h::M) h2):
  ∃F:Nat→Prop,(∀b,F b→h.size≤b∧b<h2.size)∧EY h h2∧CJ S2 h2 (SX S h0 h2 λb=>X b∨F b) h2∧OW S h0 (λb=>X b∨F b) F M h2:=by
 obtain⟨l,⟨m,q⟩,s,t⟩:=k.2;have d:∀b,((b<h2.size∧¬S2 b)∧¬l b)→h.size≤b∧b<h2.size:=λb a=>by
  refine⟨Nat.le_of_not_lt λc=>?_,a.1.1⟩;rcases Classical.em (SX S h0 h X b) with g|g
  ·exact a.1.2 (e.sub b g)
  ·exact a.2 ((m b).2 ⟨c,g⟩)
 have n:CJ S2 h2 (SX S h0 h2 λb=>X b∨((b<h2.size∧¬S2 b)∧¬l b)) h2:=by
  refine⟨λb a=>?_,λ_ _=>rfl,Acr _⟩;have c:=k.1 b a;rcases Acy b h.size with g|g
  ·rcases Classical.em (SX S h0 h X b) with i|i
   ·exact⟨i.1.imp_right λx=>⟨x.1,c⟩,λj=>j.elim i.2 λx=>x.1.2 a⟩
   ·exact absurd a (s b ((m b).2 ⟨g,i⟩)).2
  ·exact⟨.inr ⟨Adq o.siz g,c⟩,λj=>j.elim (λx=>by have:=(p b x).2;omega) λx=>x.1.2 a⟩
 refine⟨_,d,⟨e.siz,λb a=>?_⟩,n,?_⟩
 ·rcases Classical.em (SX S h0 h X b) with g|g
  ·exact e.same b g
  ·exact q b ⟨a,g⟩
 ·exact Sp.ext t n.sub (λ_ _=>rfl) λ_ x=>x
def Xv (S:Nat→Prop) (fp:Nat→Nat→Prop) (h h2:AS) (js:List Nat) (L:List HP):Prop:=(∀b,S b→b<h.size)∧EY h h2∧(∀i b,fp i b→h.size≤b∧b<h2.size)∧Sp (SX S h h2 (UX fp)) L h2 (λb=>(b<h.size∧¬S b)∨∃j,j∈js∧fp j b)
section
variable {S:Nat→Prop}{L M:List HP}{h h2:AS}{fp:Nat→Nat→Prop}{js:List Nat}{j:Nat}
def iY (a:∀i b,fp i b→h.size≤b∧b<h2.size):∀b,UX fp b→h.size≤b∧b<h2.size:=λb ⟨j,x⟩=>a j b x
def Xv.nil (a:St S L h) (o:EY h h2) (g:∀i b,fp i b→h.size≤b∧b<h2.size):Xv S fp h h2 [] L:=
 ⟨a.1,o,g,Sp.ext a.2 (λb x=>(SX.ext a.1 o (iY g)).sub b x) (λc d=>o.same c (d.elim (a.1 c) (·.1))) λc d=> .inl d⟩
def Y0 {S:Nat→Prop}{h:AS}{L:List HP}:∀{M:List HP}{c d A:Nat→Prop},Sp S M h c→Sp S L h d→(∀b,c b→A b)→(∀b,d b→A b)→(∀b,c b→¬d b)→Sp S (M++L) h A
 |[],c,d,A,_,h2,_,g,_=>h2.mono g
 |H::M,c,d,A,⟨F,l,i,m⟩,h2,j,g,k=>
  ⟨F,l,λb a=>j b (i b a),Y0 m h2 (λb a=>⟨j b a.1,a.2⟩) (λb a=>⟨g b a,λn=>k b (i b n) a⟩) λb a=>k b a.1⟩
def Xv.cons (k:Xv S fp h h2 js L) (m:∀i j b,fp i b→fp j b→i=j) (d:js.contains j=false) (q:OW S h (UX fp) (fp j) M h2):Xv S fp h h2 (j::js) (M++L):=by
 obtain⟨n,o,g,p⟩:=k;refine⟨n,o,g,Y0 q p (λb a=> .inr ⟨j,Ac4 ..,a⟩) (λb a=>a.imp_right λ⟨i,c,x⟩=>⟨i,Adi _ c,x⟩) λb a l=>?_⟩;rcases l with l|⟨i,c,x⟩
 ·have:=(g j b a).1;omega
 ·have:=m _ _ _ a x;subst this;rw[Acp.2 c] at d;cases d
def Xv.st (k:Xv S fp h h2 js L):St (SX S h h2 (UX fp)) L h2:=by
 obtain⟨g,d,j,l⟩:=k;refine⟨SX.lt g d,l.mono λc a=>?_⟩;rcases a with a|⟨i,_,a⟩
 ·exact⟨Acv a.1 d.siz,λb=>b.1.elim a.2 λx=>by omega⟩
 ·exact⟨(j i c a).2,λb=>b.2 ⟨i,a⟩⟩
end
end Go.Proofs.YtabonambpbofgaaGreat
