import Derived.Test.YtabonambpbofgaaGreatQCore26
import Derived.OrdersHeld
import Derived.Test.YtabonambpbofgaaGreatQCore10
namespace Go.Proofs.YtabonambpbofgaaGreat
set_option linter.all false
open Go.RowKit
variable {m:SM}{n:FN}{h h' h0 h2:AV}{B w:World}{d g j off s:Nat}{pss:List (List (Nat×Nat))}{a c:List (Nat×Nat)}{o:Oper}{U:List Oper}{L M:List HP}{A F S S2:Nat->Prop}{u:Value}{V X Y:Operand}{cap y:Int}{H:IntKind}{ag b:Bool}{vs:List Value}{xs:Array Value}{af:Array Edge}{C:World->Prop}{ops:Array Oper}{N:AP}{P:Program}
abbrev FR:=(Nat->Value)->(Nat->Prop)->(Nat->Prop)->AR
def Aa7(R:FR)(a:Nat->Value)(X:Nat->Prop):AR:=λi v h=>v=a i/\∃F:Nat->Prop,(∀b,F b->X b)/\R a X F i v h
abbrev UX(fp:Nat->Nat->Prop):Nat->Prop:=λb=>∃j,fp j b
def Aej(B:World)(h0:AV)(n:FN)(m:SM)(ops:Array Oper)(ks:List Nat)(R:FR)(c:Array Bool)(a:Act)(w:World):Prop:=
 ∃(fp:Nat->Nat->Prop)(g:Nat->Value)(h:AV),Wd B h w/\Ef h0 h/\Fr n a m/\(∀i b,fp i b->h0.size<=b/\b<h.size)/\(∀i j b,fp i b->fp j b->i=j)/\(∀i,c.getD i false=false->∀b,¬fp i b)/\
  ∀i,i∉ks->c.getD i false=true->∃d,Io ops i=some d/\a.tmps[d]? =some (g i)/\R g (UX fp) (fp i) i (g i) h
def uE(R:FR)(a:Nat->Value)(X:Nat->Prop)(i:Nat)(h:AV)(v:Value)(h':AV):Prop:=∃F:Nat->Prop,(∀b,F b->h.size<=b/\b<h'.size)/\R a (λb=>X b\/F b) F i v h'
def XV(P:Program)(ops:Array Oper)(Q:Exit->Act->World->Prop)(B:World)(n:FN)(m:SM)(h0:AV)(R:FR)(i:Nat)(o:Oper)(d:Nat)(j:List (Nat×Nat)):Prop:=
 ∀a X mt h,Ef h0 h->(∀b,X b->h0.size<=b/\b<h.size)->PA (Aa7 R a X) h (λfr=>match o.guard with
  |none=>LF P ops (Exit.then (KS B n d (uE R a X i h) h (fr++(m++mt))) Q) [o] B h n (fr++(m++mt))
  |some (g,b)=>∃c,Io ops g=some c/\((lk fr c=some (.bool b)/\LF P ops (Exit.then (KS B n d (uE R a X i h) h (fr++(m++mt))) Q) [{ o with guard:=none}] B h n (fr++(m++mt)))\/∃v,lk fr c=some v/\yb v≠some b/\uE R a X i h undef h)) j []
def Zf(P:Program)(ops:Array Oper)(n:FN)(m:SM)(h0:AV)(R:FR)(f:Nat)(o:Oper)(c:List (Nat×Nat)):Prop:=
 ∀b X mt h,Ef h0 h->PA (Aa7 R b X) h (λfr=>∀a,Fr n a (fr++(m++mt))->∃v,Yields P ops o v a/\R b X (λ_=>False) f v h) c []
def zpB(ops:Array Oper)(a:List (Nat×List Nat)):Bool:=a.all λz=>match ops[z.1]? with
 |some o=>z.2.all λk=>(N1 o).contains k
 |none=>false
section
variable{P:Program}{ops:Array Oper}{Q:Exit->Act->World->Prop}
def Yc{R:FR}(ks:List Nat)(ba:∀t,t∈ks->t<ops.size)(bb:ks.Nodup)(hb:SY ops=true)
  (F:List Nat) (bc:ks=[]\/UT ops ks F=true) (a0:QC ops ks) (bx:Qq ops ks=true) (be:Region.noSelect ops=true) (hQ:∀c a w,¬Q (.panic c) a w)
  (hF:∀f,f∈F->(f<ops.size/\f∉ks)/\N5 ops f=true/\∃o d ps,ops[f]? =some o/\o.dst=some d/\Uf ops o ps=true/\Zf P ops n m h0 R f o ps)
  (ax:Wj ops ks n (m.map (·.1))=true)
  (a1:∀G i v h h' X X' F,Ef h0 h->Ef h h'->(∀b,F b->h0.size<=b/\b<h.size)->(∀b,X b->X' b)->(∀b,X' b->X b\/h.size<=b)->R G X F i v h->R G X' F i v h')
  (bf:∀G bg X F i v h,(∀o,ops[i]? =some o->∀k,k∈N1 o->G k=bg k)->R G X F i v h->R bg X F i v h)
  (step:∀i o d,i∉ks->ops[i]? =some o->o.dst=some d->∃ps,Uf ops o ps=true/\XV P ops Q B n m h0 R i o d ps)
  (bh:∀a w h fp G,Wd B h w->Ef h0 h->Fr n a m->(∀i b,fp i b->h0.size<=b/\b<h.size)->(∀i j b,fp i b->fp j b->i=j)->(∀i,i<ops.size->i∉ks->∃d,Io ops i=some d/\a.tmps[d]? =some (G i)/\R G (UX fp) (fp i) i (G i) h)->wpList P ops Q (ks.filterMap λt=>ops[t]?) a w):
  ∀(D:Nat)(l:Array Bool)(a:Act)(w:World),Yu l=D->Ty ops ks l->Aej B h0 n m ops ks R l a w->wpAny P .any ops Q D l a w:=by
 intro D
 induction D with
 |zero=>
  intro l a w hu C ai;have M:∀i,l.getD i true=true:=λi=>Xg hu;obtain⟨fp,G,h,g1,g2,g3,hX,dj,aj,g4⟩:=ai;have H:∀i,i<ops.size->i∉ks->l.getD i false=true:=λi I s=>by
   have h2:=M i;have:i<l.size:=by rw[C.size];exact I
   simpa[this]using h2
  have hf:=bh a w h fp G g1 g2 g3 hX dj (λi I s=>g4 i s (H i I s));exact NE hb ks 0 l a w hu C.size (λi _ _=>M i) (λt ht=>⟨ba t ht,C.tail t ht⟩) a0 bb hf
 |succ D ih=>
  intro l a w hu C ai;obtain⟨fp,G,h,g1,g2,g3,hX,dj,aj,g4⟩:=ai;have bz:∀b,UX fp b->h0.size<=b/\b<h.size:=λb ⟨j,A⟩=>hX j b A;by_cases M:∀i,i<ops.size->i∉ks->l.getD i true=true
  ·have H:∀i,i<ops.size->i∉ks->l.getD i false=true:=λi I s=>by
    have h2:=M i I s;have:i<l.size:=by rw[C.size];exact I
    simpa[this]using h2
   have hf:=bh a w h fp G g1 g2 g3 hX dj (λi I s=>g4 i s (H i I s));exact NE hb ks (D+1) l a w hu C.size M (λt ht=>⟨ba t ht,C.tail t ht⟩) a0 bb hf
  ·have bi:∀j,l.getD j false=true->j∉ks:=λj A b0=>by
    have:=getD_both (C.tail j b0);rw[A]at this;cases this
   have aa:∀i o,i∈Region.ready .any ops l->ops[i]? =some o->∀ps,Uf ops o ps=true->∀p∈ps,∃v,a.tmps[p.2]? =some v/\Aa7 R G (UX fp) p.1 v h:=by
    intro i o hi ho ps ak p hp;obtain⟨ag,o',J,ae⟩:=mem_ready.1 hi;have:o'=o:=Ags (J.symm.trans ho);subst this;have q:=Agz.1 ak p hp;simp only[Agu]at q;have A:p.1∈N1 o':=by simpa using q.1
    obtain⟨e,he,al⟩:=Ahr.1 A;obtain⟨am,an⟩:=Ah7.1 he;have b1:e∈o'.after:=by simpa using am
    have h3:=ae e b1 an;rw[al]at h3;obtain⟨d',V,q2,q3⟩:=g4 p.1 (bi _ h3) h3;have h2:=q.2;rw[V]at h2;have:p.2=d':=Ag1 (by simpa using h2);exact⟨G p.1,by rw[this];exact q2,rfl,fp p.1,λb hb=>⟨p.1,hb⟩,q3⟩
   have ao:∀i o d,i∉ks->i∈Region.ready .any ops l->ops[i]? =some o->o.dst=some d->∀v w' h',Wd B h' w'->Ef h h'->uE R G (UX fp) i h v h'->wpAny P .any ops Q D (l.setIfInBounds i true) (a.put (some d) v) w':=by
    intro i o d s hi ho ab v w' h' b2 J b3;obtain⟨FN,ap,hr⟩:=b3;obtain⟨ag,oo,b4,_⟩:=mem_ready.1 hi;have ac:i<ops.size:=(Ahu.1 b4).1;have hd:Io ops i=some d:=by unfold Io;rw[ho];exact ab
    have z:=Agz.1 ax i (Ahy.2 ac);rw[hd]at z;simp only[Agu,Ahn,Agz,Ahy,Ahg,Ag2,s,Aid]at z;obtain⟨⟨av,a2⟩,a3⟩:=z;have aq:d+1<=n.1:=by simpa[Nat.blt]using av
    have af:d<n.1:=aq;have cm:(a.put (some d) v).tmps[d]? =some v:=by
     simp only[Act.put,Aii];have:=g3.siz;simp[this,af]
    have cn:∀j dj,Io ops j=some dj->j≠i->j∉ks->(a.put (some d) v).tmps[dj]? =a.tmps[dj]? :=by
     intro j dj V e A;have a4:j<ops.size:=by
      unfold Io at V;cases K:ops[j]? with
      |none=>rw[K]at V;cases V
      |some oj=>exact(Ahu.1 K).1
     have q:=a3 j a4;rw[V]at q;have W:d≠dj:=by
      rcases q with(q|q)|q
      ·exact absurd q A
      ·exact absurd (Ag1 q).symm e
      ·intro e';subst e';simp at q
     simp only[Act.put,Aii];rw[Agn W]
    have b5:∀b,¬fp i b:=aj i (getD_in (by rw[C.size];exact ac) (by
     cases U:l.getD i false with
     |false=>rfl
     |true=>rw[getD_both ag]at U;cases U) |> λ_=>(by
     cases U:l.getD i false with
     |false=>rfl
     |true=>rw[getD_both ag]at U;cases U))
    have b6:∀b,(UX (λj b=>(j=i/\FN b)\/fp j b) b)↔(UX fp b\/FN b):=λb=>by
     constructor
     ·rintro⟨j,A|A⟩
      ·exact .inr A.2
      ·exact .inl ⟨j,A⟩
     ·rintro(⟨j,A⟩|Y)
      ·exact⟨j,.inr A⟩
      ·exact⟨i,.inl ⟨rfl,Y⟩⟩
    have ay:UX (λj b=>(j=i/\FN b)\/fp j b)=λb=>UX fp b\/FN b:=funext λb=>propext (b6 b);have bj:∀j,j≠i->(λk=>if k=i then v else G k) j=G j:=λj e=>Agn e;have bk:∀(j:Nat)(oj:Oper),ops[j]? =some oj->(∀k,k∈N1 oj->l.getD k false=true)->∀k,k∈N1 oj->G k=(λk=>if k=i then v else G k) k:=λj oj _ hp k hk=>by
     have:k≠i:=λe=>by
      subst e;have q:=hp _ hk;rw[getD_both ag]at q;cases q
     exact(bj k this).symm
    have b7:∀(j:Nat)(oj:Oper),l.getD j false=true->ops[j]? =some oj->∀k,k∈N1 oj->l.getD k false=true:=λj oj b8 K k hk=>by
     obtain⟨e,he,al⟩:=Ahr.1 hk;obtain⟨am,an⟩:=Ah7.1 he;have:=C.closed j oj K b8 e (by simpa using am) an;rw[al]at this;exact this
    have b9:∀(o':Oper),ops[i]? =some o'->∀k,k∈N1 o'->l.getD k false=true:=λo' J k hk=>by
     obtain⟨_,o2,ca,ae⟩:=mem_ready.1 hi;have:o2=o':=Ags (ca.symm.trans J);subst this;obtain⟨e,he,al⟩:=Ahr.1 hk;obtain⟨am,an⟩:=Ah7.1 he;have:=ae e (by simpa using am) an;rw[al]at this;exact this
    have bl:(λb=>(i=i/\FN b)\/fp i b)=FN:=funext λb=>propext ⟨λx=>x.elim (·.2) λy=>absurd y (b5 b),λx=> .inl ⟨rfl,x⟩⟩;refine ih _ _ _ (by have:=Qi ag;omega) (C.set hi s) ⟨λj b=>(j=i/\FN b)\/fp j b,λk=>if k=i then v else G k,h',b2,g2.trans J,?_,λj b A=>?_,λj j' b q h2=>?_,λj U b A=>?_,λj A U=>?_⟩
    rotate_left 1
    ·rcases A with A|A
     ·exact⟨Ah2 g2.siz (ap b A.2).1,(ap b A.2).2⟩
     ·exact⟨(hX j b A).1,Ag6 (hX j b A).2 J.siz⟩
    ·rcases q with q|q<;>rcases h2 with h2|h2
     ·rw[q.1,h2.1]
     ·have:=(ap b q.2).1;have:=(hX _ b h2).2;omega
     ·have:=(ap b h2.2).1;have:=(hX _ b q).2;omega
     ·exact dj _ _ b q h2
    ·by_cases e:i=j
     ·subst e;have:i<l.size:=by rw[C.size];exact ac
      simp[this]at U
     ·rcases A with A|A
      ·exact e A.1.symm
      ·rw[getD_set_ne false e]at U;exact aj j U b A
    rotate_left 1
    ·have hp:=g3.put av v;refine⟨hp.dfr,hp.siz,λi' u bm=>hp.at_ i' u ?_⟩;have W:Nat.beq d i'=false:=by
      cases Y:Nat.beq d i' with
      |false=>rfl
      |true=>
       have:=Ag1 Y;subst this;have q:=jV bm;rw[<-Ag2]at q;rw[q]at a2;cases a2
     simp only[lk,W,Agq];exact bm
    ·by_cases e:i=j
     ·subst e;refine⟨d,hd,?_,?_⟩
      rotate_left 1
      ·rw[ay];show R _ _ (λb=>(i=i/\FN b)\/fp i b) i (if i=i then v else G i) h'
       rw[bl,Agp rfl];exact bf _ _ _ _ _ _ _ (λo' J=>bk i o' J (b9 o' J)) hr
      rw[show(λk=>if k=i then v else G k) i=v from Agp rfl];simp only[Act.put,Aii];have:=g3.siz;simp[this,af]
     ·rw[getD_set_ne false e]at U;obtain⟨dj,V,q2,q3⟩:=g4 j A U;have bn:(λb=>(j=i/\FN b)\/fp j b)=fp j:=funext λb=>propext ⟨λx=>x.elim (λy=>absurd y.1.symm e) id,.inr⟩;refine⟨dj,V,?_,?_⟩
      rotate_left 1
      ·rw[ay];show R _ _ (λb=>(j=i/\FN b)\/fp j b) j (if j=i then v else G j) h'
       rw[bn,Agn λx=>e x.symm];exact bf _ _ _ _ _ _ _ (λoj K=>bk j oj K (b7 j oj U K)) (a1 _ _ _ _ _ _ _ _ g2 J (hX j) (λb x=> .inl x) (λb x=>x.imp_right λy=>(ap b y).1) q3)
      rw[bj j λx=>e x.symm];have a4:j<ops.size:=by
       unfold Io at V;cases K:ops[j]? with
       |none=>rw[K]at V;cases V
       |some oj=>exact(Ahu.1 K).1
      have q:=a3 j a4;rw[V]at q;have W:d≠dj:=by
       rcases q with(q|q)|q
       ·exact absurd q A
       ·exact absurd (Ag1 q) e
       ·intro e';subst e';simp at q
      simp only[Act.put,Aii];rw[Agn W];exact q2
   by_cases bo:∃f,f∈F/\f∈Region.ready .any ops l
   ·obtain⟨f,cb,aw⟩:=bo;obtain⟨cc,a5,o,d,ps,ho,ab,ak,cd⟩:=hF f cb;obtain⟨fr,hK,ar⟩:=OB (a:=a) (n:=n) _ _ (cd G (UX fp) (Mp a) h g2) (aa f o aw ho ps ak) ⟨g3.dfr,g3.siz,λi v hi=>by simp[lk]at hi⟩;obtain⟨v,hy,hr⟩:=hK a (ar.append (g3.append g3.full));refine wpAny_first ho (Region.noSelect_spec be) (λc a w hq=>absurd hq (hQ c _ w)) D l a w (λj oj A W bp a6=>?_) aw hy ?_
    ·have q:=Agz.1 a5 j (Ahy.2 (Ahu.1 A).1);simp only[ho,A,Ahg,beq_iff_eq,W,Aid]at q;rcases q with q|q
     ·obtain⟨ce,bq,e,he,Y,a7⟩:=Region.waitsFor_spec q;have:ce=oj:=Ags (bq.symm.trans A);subst this;exact absurd a7 (a6 e he Y)
     ·rcases q with q|q
      ·obtain⟨cf,br,e,he,Y,a7⟩:=Region.waitsFor_spec q;obtain⟨_,cg,bs,H⟩:=mem_ready.1 aw;have:cf=cg:=Ags (br.symm.trans bs);subst this;have h5:=H e he Y;rw[a7,getD_both bp]at h5;cases h5
      ·exact q
    ·rw[ab];exact ao f o d cc.2 aw ho ab v w h g1 (Ef.refl h) ⟨λ_=>False,λ_ x=>x.elim,by have e:(λb=>UX fp b\/False)=UX fp:=funext λb=>propext (or_iff_left id);rw[e];exact hr⟩
   have bt:∃k0,k0<ops.size/\k0∉ks/\l.getD k0 true=false/\k0∉F:=by
    obtain⟨k1,co,ch,ci⟩:∃k1,k1<ops.size/\k1∉ks/\l.getD k1 true=false:=by
     apply Ajl;intro a6;refine M λi I s=>?_;cases U:l.getD i true with
     |true=>rfl
     |false=>exact absurd ⟨i,I,s,U⟩ a6
    obtain⟨i0,V,q2,q3⟩:=Nl (p:=λi=>l.getD i true||ks.contains i) k1 (by simp[ci,ch]);simp only[Ahk]at q2;have ad:i0<ops.size:=Ω
    have az:i0∉ks:=λh=>by rw[Ag2.2 h]at q2;cases q2.2
    refine⟨i0,ad,az,q2.1,λhf=>bo ⟨i0,hf,mem_ready.2 ⟨q2.1,ops[i0],by simp[ad],λe he bu=>?_⟩⟩⟩;have h4:=Agz.1 hb i0 (Ahy.2 ad);have h5:ops[i0]? =some ops[i0]:=by simp[ad]
    rw[h5]at h4;simp only[Aix,Aic,Ajj]at h4;have h6:=h4 e he;simp only[bu,Ahm,Ajc,Ahb]at h6;have h7:=q3 e.on h6;have h9:=Agz.1 bx i0 (Ahy.2 ad);simp only[Ahg,Ag2,az,Aid,h5,Aix,Aic,Ajj]at h9;have ah:=h9 e he;simp only[bu,Ahm,Ajc,Ahn]at ah;rcases ah with ah|ah
    ·cases ah
    rw[ah,Bool.or_false]at h7;have h8:e.on<l.size:=by rw[C.size];omega
    simp only[Aik,Ai8 h8,Aic]at h7 ⊢;exact h7
   have ⟨cq,a8,cp,bv,_⟩:=bt;obtain⟨i0,_,cj,_⟩:=P3 hb C.size a8 bv;refine⟨λh0=>absurd (h0▸cj) (by simp),λi hi=>?_⟩;obtain⟨ag,o,ho,ae⟩:=mem_ready.1 hi;have ac:i<ops.size:=(Ahu.1 ho).1;have s:i∉ks:=λs=>by
    rcases bc with hc|hc
    ·rw[hc]at s;cases s
    ·obtain⟨k0,V,q2,q3,q4⟩:=bt;exact TS hc a0 C _ k0 rfl V q2 q4 (getD_in (by rw[C.size];exact V) (by
      cases U:l.getD k0 false with
      |false=>rfl
      |true=>rw[getD_both q3]at U;cases U)) i s hi
   have z:=Agz.1 ax i (Ahy.2 ac);cases hd:Io ops i with
   |none=>rw[hd]at z;simp only[Ag2,s,Ahg,Aid]at z;cases z
   |some d=>
   rw[hd]at z;simp only[Agu,Ahn,Agz,Ahy,Ahg,Ag2,s,Aid]at z;obtain⟨⟨av,a2⟩,a3⟩:=z;have aq:d+1<=n.1:=by simpa[Nat.blt]using av
   have af:d<n.1:=aq;have ab:o.dst=some d:=by unfold Io at hd;rw[ho]at hd;exact hd
   obtain⟨ps,ak,a9⟩:=step i o d s ho ab;have au:=aa i o hi ho ps ak;obtain⟨fr,hK,ar⟩:=OB (a:=a) (n:=n) _ _ (a9 G (UX fp) (Mp a) h g2 bz) au ⟨g3.dfr,g3.siz,λi v hi=>by simp[lk]at hi⟩;have Z:Fr n a (fr++(m++Mp a)):=ar.append (g3.append g3.full);have ck:∀i u,a.tmps[i]? =some u->lk (fr++(m++Mp a)) i=some u:=by
    intro i u hu;have U:lk (Mp a) i=some u:=by
     have:i<a.tmps.size:=(Ahu.1 hu).1;rw[Wo this];simp[Aik,hu]
    have cl:∃u',lk (fr++(m++Mp a)) i=some u':=by
     rw[Np,Np,U];cases lk fr i with
     |some x=>exact⟨x,by simp⟩
     |none=>cases lk m i with
      |some x=>exact⟨x,by simp⟩
      |none=>exact⟨u,by simp⟩
    obtain⟨u',bw⟩:=cl;have:=Z.at_ i u' bw;rw[hu]at this;rw[bw,<-Ags this]
   have next:=ao i o d s hi ho ab
   have conv:∀a' w',KS B n d (uE R G (UX fp) i h) h (fr++(m++Mp a)) a' w'->wpAny P .any ops Q D (l.setIfInBounds i true) a' w':=by
    rintro a' w' ⟨v,h',f1,f2,f3,f4⟩;have:=Fr.same af Z f1 λi u hi hu=>by
     have W:Nat.beq d i=false:=by
      cases Y:Nat.beq d i with
      |false=>rfl
      |true=>exact absurd (Ag1 Y).symm hi
     simp only[lk,W,Agq];exact ck i u hu
    subst this;exact next v w' h' f2 f3 f4
   unfold wpOp;simp only[ho];cases hg:o.guard with
   |none=>
    rw[hg]at hK;rw[Agp (by simp[Region.wanted,hg])];exact(KV hg (hK a w Z g1)).imp (Oper.wp_mono conv) id
   |some gb=>
    obtain⟨g,b⟩:=gb;rw[hg]at hK;obtain⟨dg,V,hK⟩:=hK;rcases hK with⟨k1,k2⟩|⟨v,k1,k2,k3⟩
    ·have hy:yielded ops a.tmps g=some b:=Rv ar V k1;rw[Agp (by simp[Region.wanted,hg,hy])];exact(RQ (KV rfl (k2 a w Z g1))).imp (Oper.wp_mono conv) id
    ·have hy:yielded ops a.tmps g≠some b:=by rw[Rv ar V k1];exact k2
     rw[Agn (by simp[Region.wanted,hg,hy]),ab];exact next undef w h g1 (Ef.refl h) k3
end
def Tj(P:Program)(ops:Array Oper)(ks:List Nat)(n:FN)(m:SM)(h0:AV)(R:FR):List Nat->Prop
 |[]=>True
 |f::F=>((f<ops.size/\f∉ks)/\N5 ops f=true/\∃o d a,ops[f]? =some o/\o.dst=some d/\Uf ops o a=true/\Zf P ops n m h0 R f o a)/\Tj P ops ks n m h0 R F
def Tj.at_{P:Program}{ops:Array Oper}{ks:List Nat}{n:FN}{m:SM}{h0:AV}{R:FR}:∀{F:List Nat},Tj P ops ks n m h0 R F->∀f,f∈F->(f<ops.size/\f∉ks)/\N5 ops f=true/\∃o d b,ops[f]? =some o/\o.dst=some d/\Uf ops o b=true/\Zf P ops n m h0 R f o b
 |[],_,f,a=>by cases a
 |g::F,⟨c,h2⟩,f,a=>by
  rcases Agv.1 a with rfl|a
  ·exact c
  ·exact Tj.at_ h2 f a
def Tj.cons{P:Program}{ops:Array Oper}{ks:List Nat}{n:FN}{m:SM}{h0:AV}{R:FR}{f d:Nat}{o:Oper}{F:List Nat}(c:List (Nat×Nat))(b:(Nat.blt f ops.size&& !ks.contains f&&N5 ops f)=true)(j:ops[f]? =some o)(hd:o.dst=some d)(g:Uf ops o c=true)
  (k:∀i X mt h,Ef h0 h->PA (Aa7 R i X) h (λfr=>∀a,Fr n a (fr++(m++mt))->∃v,Yields P ops o v a/\R i X (λ_=>False) f v h) c []) (t:Tj P ops ks n m h0 R F):Tj P ops ks n m h0 R (f::F):=by
 simp only[Agu,Ahn]at b;exact⟨⟨⟨(by simpa[Nat.blt]using b.1.1:f+1<=ops.size),λh=>by rw[Ag2.2 h]at b;cases b.1.2⟩,b.2,o,d,c,j,hd,g,k⟩,t⟩
def DH(P:Program)(ops:Array Oper)(Q:Exit->Act->World->Prop)(B:World)(n:FN)(m:SM)(h0:AV)(R:FR)(ks:List Nat):Nat->List Oper->List (List (Nat×Nat))->Prop
 |i,o::l,a::pss=>(i∈ks\/match o.dst with|some d=>XV P ops Q B n m h0 R i o d a|none=>False)/\DH P ops Q B n m h0 R ks (i+1) l pss
 |_,_,_=>True
section
variable{P:Program}{ops:Array Oper}{Q:Exit->Act->World->Prop}{B:World}{n:FN}{m:SM}{h0:AV}{R:FR}{ks:List Nat}
def DH.at_:∀{l:List Oper}{pss:List (List (Nat×Nat))}{k i:Nat}{o:Oper}{d:Nat},DH P ops Q B n m h0 R ks k l pss->l.length=pss.length->k+i∉ks->l[i]? =some o->o.dst=some d->∃a,pss[i]? =some a/\XV P ops Q B n m h0 R (k+i) o d a
 |[],_,_,_,_,_,_,_,_,h,_=>by simp at h
 |_::_,[],_,_,_,_,_,c,_,_,_=>by simp at c
 |p::l,a::pss,k,0,o,d,g,c,j,b,hd=>by
  simp only[Aiw,Ahv]at b;subst b;simp only[DH,hd]at g;exact⟨a,rfl,g.1.resolve_left j⟩
 |p::l,a::pss,k,i+1,o,d,g,c,j,b,hd=>by
  simp only[Air]at b;obtain⟨q,s,t⟩:=DH.at_ (l:=l) (pss:=pss) (k:=k+1) (i:=i) g.2 (by simpa using c) (by rw[show k+1+i=k+(i+1)from Ω];exact j) b hd;rw[show k+(i+1)=k+1+i from Ω];exact⟨q,by simpa using s,t⟩
def DH.cons{i:Nat}{o:Oper}{l:List Oper}{g:List (Nat×Nat)}{pss:List (List (Nat×Nat))}{d:Nat}(hd:o.dst=some d)(j:o.guard=none)
  (h:∀c X mt h,Ef h0 h->(∀b,X b->h0.size<=b/\b<h.size)->PA (Aa7 R c X) h (λfr=>LF P ops (Exit.then (KS B n d (R c X (λ_=>False) i) h (fr++(m++mt))) Q) [o] B h n (fr++(m++mt))) g []) (t:DH P ops Q B n m h0 R ks (i+1) l pss):DH P ops Q B n m h0 R ks i (o::l) (g::pss):=by
 simp only[DH,hd];refine⟨.inr λc X mt p s u=>PA.imp (λfr k=>?_) _ _ (h c X mt p s u),t⟩;rw[j];refine λa w y z=>IM (λe a w q=>?_) _ a w (k a w y z);cases e<;>first|exact q|skip
 obtain⟨v,h2,A,C,D,F⟩:=q;exact⟨v,h2,A,C,D,λ_=>False,λ_ x=>x.elim,by have e:(λb=>X b\/False)=X:=funext λb=>propext (or_iff_left id);rw[e];exact F⟩
def QU{i:Nat}{l:List Oper}(hd:o.dst=some d)(g:o.guard=none)
  (h:∀a X mt h,Ef h0 h->(∀b,X b->h0.size<=b/\b<h.size)->PA (Aa7 R a X) h (λfr=>LF P ops (Exit.then (KS B n d (uE R a X i h) h (fr++(m++mt))) Q) [o] B h n (fr++(m++mt))) c []) (t:DH P ops Q B n m h0 R ks (i+1) l pss):DH P ops Q B n m h0 R ks i (o::l) (c::pss):=by
 simp only[DH,hd];refine⟨.inr λa X mt j p q=>PA.imp (λfr k=>?_) _ _ (h a X mt j p q),t⟩;rw[g];exact k
def DH.skip{i:Nat}{l:List Oper}(h:ks.contains i=true)(t:DH P ops Q B n m h0 R ks (i+1) l pss):DH P ops Q B n m h0 R ks i (o::l) (a::pss):=
 ⟨.inl (Ag2.1 h),t⟩
end
section
variable{P:Program}{ex:List (Nat×AP)}{RR N:AP}{cs:List Code}{B:World}{h:AV}{n:FN}{m m0:SM}{S:Nat->Prop}{L:List HP}
def W7{l:List Oper}{id:Nat}(ks F:List Nat)(zs:List (Nat×List Nat))(Q:zpB l.toArray zs=true)(R:FR)(pss:List (List (Nat×Nat)))(fs:List (Nat×Nat))(hm:P.follows .mixedOrders=true)(hc:YW l.toArray ks F=true)(ms:List Nat)(V:m.map (·.1)=ms)(C:Wj l.toArray ks n ms=true)
  (u:Wg l.toArray ks l pss=true) (Y:(fs.all λp=>Nat.blt p.1 l.length&& !ks.contains p.1&&(Io l.toArray p.1).any (Nat.beq p.2 ·))=true) (Z:(ks.filterMap λt=>l[t]?)=U) (D:VZ m0 m)
  (y:∀q i v g h2 X X' F,Ef h g->Ef g h2->(∀b,F b->h.size<=b/\b<g.size)->(∀b,X b->X' b)->(∀b,X' b->X b\/g.size<=b)->R q X F i v g->R q X' F i v h2)
  (aa:∀q s X F i v g,(∀z,z∈zs->z.1=i->∀k,k∈z.2->q k=s k)->R q X F i v g->R s X F i v g)
  (hF:Tj P l.toArray ks n m h R F)
  (step:DH P l.toArray (Qx ex RR (W P ex RR cs N)) B n m h R ks 0 l pss)
  (ab:∀h' (fp:Nat->Nat->Prop) (q:Nat->Value),Ef h h'->(∀i b,fp i b->h.size<=b/\b<h'.size)->(∀i j b,fp i b->fp j b->i=j)->PA (λi v h2=>v=q i/\R q (UX fp) (fp i) i v h2) h' (λfr=>LF P l.toArray (Qx ex RR (W P ex RR cs N)) U B h' n (fr++m)) fs []):WF P ex RR (.region id l.toArray true::cs) N B h n m0:=by
 intro a w hf hw;subst V;simp only[YW,Agu,Ahg,Ahb]at hc;obtain⟨⟨⟨⟨⟨⟨g,h2⟩,h3⟩,h4⟩,h5⟩,h6⟩,h7⟩:=hc;simp only[Wg,Agu]at u;have G:l.length=pss.length:=Ag1 u.1;refine λrd ac=>RZ ac OY hm (Yc (R:=R) (B:=B) (h0:=h) (n:=n) (m:=m) ks (λt ht=>by have:=Agz.1 g t ht;simp[Nat.blt]at this ⊢;omega) h2 h6 F (h3.imp (λe=>by cases ks with|nil=>rfl|cons _ _=>simp at e) λx=>x) (Nr h4) h5 h7 (λc a w hq=>hq) (λf hf=>hF.at_ f hf) C y (λq s X F i v g hp hr=>aa q s X F i v g (λz ad e k hk=>?_) hr) (λi o d K H hd=>?_) (λa w h' fp q g1 g2 g3 gX gD g4=>?_) _ _ _ _ ?_ ⟨by simp,λj oj _ I=>(by rw[getD_replicate_false]at I;cases I),λt ht=>getD_in (by have:=Agz.1 g t ht;simp[Nat.blt]at this ⊢;omega) (getD_replicate_false _ _)⟩ ⟨λ_ _=>False,λ_=>undef,h,hw.drew,Ef.refl h,hf.sub D,λ_ _ x=>x.elim,λ_ _ _ x=>x.elim,λ_ _ _ x=>x,λi _ I=>(by rw[getD_replicate_false]at I;cases I)⟩)
 ·have g:=Agz.1 Q z ad;subst e;cases H:l.toArray[z.1]? with
  |none=>rw[H]at g;cases g
  |some o=>
   rw[H]at g;exact hp o H k (Ag2.1 (Agz.1 g k hk))
 ·have A:l[i]? =some o:=by simpa using H
  obtain⟨ps,q1,M⟩:=DH.at_ (k:=0) step G (by rw[Ahw];exact K) A hd;rw[Ahw]at M;refine⟨ps,?_,M⟩;have ae:i<l.length:=(Ag0.1 A).1;have Q:((o,ps),i)∈(l.zip pss).zipIdx:=by
   rw[Aio];exact⟨i,by rw[List.getElem?_zipIdx,(Aki (z:=(o,ps))).2 ⟨A,q1⟩];simp⟩
  have:=Agz.1 u.2 _ Q;simp only[Ahg,Ag2,K,Aid]at this;exact this
 ·obtain⟨fr,k1,k2⟩:=OB (a:=a) (n:=n) _ _ (ab h' fp q g2 gX gD) (λp hp=>by
   have e:=Agz.1 Y p hp;simp only[Agu,Ahn]at e;have e1:p.1<l.toArray.size:=by have:=e.1.1;simp[Nat.blt]at this ⊢;omega
   obtain⟨d,q1,M,q3⟩:=g4 p.1 e1 (λh=>by rw[Ag2.2 h]at e;cases e.1.2);have e2:=e.2;rw[q1]at e2;have:p.2=d:=Ag1 (by simpa using e2);exact⟨q p.1,by rw[this];exact M,rfl,q3⟩) ⟨g3.dfr,g3.siz,λi v K=>by simp[lk]at K⟩
  have J:(ks.filterMap λt=>l.toArray[t]?)=U:=by rw[<-Z];congr 1;funext t;simp
  rw[J];exact k1 a w (k2.append g3) g1
 ·unfold Yu;rw[Array.toList_replicate];simp
end
def sQ:Value->Nat->Value
 | .tuple xs,i=>xs.getD i undef
 |_,_=>undef
abbrev OW(S:Nat->Prop)(h0:AV)(X F:Nat->Prop)(M:List HP)(h:AV):Prop:=Sp (SX S h0 h X) M h F
def OW.mono{X a:Nat->Prop}(c:∀b,S b->b<h0.size)(d:Ef h0 h)(g:Ef h h')(i:∀b,F b->h0.size<=b/\b<h.size)(u:∀b,X b->a b)(j:∀b,a b->X b\/h.size<=b)(k:OW S h0 X F M h):OW S h0 a F M h':=
 Sp.ext k (SX.mono c d g u j).sub (λb l=>g.same b (l.elim (SX.lt c d b) λx=>(i b x).2)) λ_ x=>x
def SX.fz{X:Nat->Prop}(a:St S L h0)(o:Ef h0 h):St (SX S h0 h X) [Aeg (SX S h0 h X) h] h:=(Nb (X:=X) a o).fz
def OW.done{X:Nat->Prop}(u:∀b,S b->b<h0.size)(o:Ef h0 h)(p:∀b,X b->h0.size<=b/\b<h.size)(e:CO (SX S h0 h X) h S2 h2)(k:St S2 (Aeg (SX S h0 h X) h::M) h2):
  ∃F:Nat->Prop,(∀b,F b->h.size<=b/\b<h2.size)/\Ef h h2/\CO S2 h2 (SX S h0 h2 λb=>X b\/F b) h2/\OW S h0 (λb=>X b\/F b) F M h2:=by
 obtain⟨l,⟨m,q⟩,s,t⟩:=k.2;have d:∀b,((b<h2.size/\¬S2 b)/\¬l b)->h.size<=b/\b<h2.size:=λb a=>by
  refine⟨Nat.le_of_not_lt λc=>?_,a.1.1⟩;rcases Classical.em (SX S h0 h X b)with g|g
  ·exact a.1.2 (e.sub b g)
  ·exact a.2 ((m b).2 ⟨c,g⟩)
 have n:CO S2 h2 (SX S h0 h2 λb=>X b\/((b<h2.size/\¬S2 b)/\¬l b)) h2:=by
  refine⟨λb a=>?_,λ_ _=>rfl,Ag5 _⟩;have c:=k.1 b a;rcases Ag7 b h.size with g|g
  ·rcases Classical.em (SX S h0 h X b)with i|i
   ·exact⟨i.1.imp_right λx=>⟨x.1,c⟩,λj=>j.elim i.2 λx=>x.1.2 a⟩
   ·exact absurd a (s b ((m b).2 ⟨g,i⟩)).2
  ·exact⟨.inr ⟨Ah2 o.siz g,c⟩,λj=>j.elim (λx=>by have:=(p b x).2;omega) λx=>x.1.2 a⟩
 refine⟨_,d,⟨e.siz,λb a=>?_⟩,n,?_⟩
 ·rcases Classical.em (SX S h0 h X b)with g|g
  ·exact e.same b g
  ·exact q b ⟨a,g⟩
 ·exact Sp.ext t n.sub (λ_ _=>rfl) λ_ x=>x
def Zg(S:Nat->Prop)(fp:Nat->Nat->Prop)(h h2:AV)(js:List Nat)(L:List HP):Prop:=(∀b,S b->b<h.size)/\Ef h h2/\(∀i b,fp i b->h.size<=b/\b<h2.size)/\Sp (SX S h h2 (UX fp)) L h2 (λb=>(b<h.size/\¬S b)\/∃j,j∈js/\fp j b)
section
variable{S:Nat->Prop}{L M:List HP}{h h2:AV}{fp:Nat->Nat->Prop}{js:List Nat}{j:Nat}
def nZ(a:∀i b,fp i b->h.size<=b/\b<h2.size):∀b,UX fp b->h.size<=b/\b<h2.size:=λb ⟨j,x⟩=>a j b x
def Zg.nil(a:St S L h)(o:Ef h h2)(g:∀i b,fp i b->h.size<=b/\b<h2.size):Zg S fp h h2 [] L:=
 ⟨a.1,o,g,Sp.ext a.2 (λb x=>(SX.ext a.1 o (nZ g)).sub b x) (λc d=>o.same c (d.elim (a.1 c) (·.1))) λc d=> .inl d⟩
def bM{S:Nat->Prop}{h:AV}{L:List HP}:∀{M:List HP}{c d A:Nat->Prop},Sp S M h c->Sp S L h d->(∀b,c b->A b)->(∀b,d b->A b)->(∀b,c b->¬d b)->Sp S (M++L) h A
 |[],c,d,A,_,h2,_,g,_=>h2.mono g
 |H::M,c,d,A,⟨F,l,i,m⟩,h2,j,g,k=>
  ⟨F,l,λb a=>j b (i b a),bM m h2 (λb a=>⟨j b a.1,a.2⟩) (λb a=>⟨g b a,λn=>k b (i b n) a⟩) λb a=>k b a.1⟩
def Zg.cons(k:Zg S fp h h2 js L)(m:∀i j b,fp i b->fp j b->i=j)(d:js.contains j=false)(q:OW S h (UX fp) (fp j) M h2):Zg S fp h h2 (j::js) (M++L):=by
 obtain⟨n,o,g,p⟩:=k;refine⟨n,o,g,bM q p (λb a=> .inr ⟨j,Ahf ..,a⟩) (λb a=>a.imp_right λ⟨i,c,x⟩=>⟨i,Aht _ c,x⟩) λb a l=>?_⟩;rcases l with l|⟨i,c,x⟩
 ·have:=(g j b a).1;omega
 ·have:=m _ _ _ a x;subst this;rw[Ag2.2 c]at d;cases d
def Zg.st(k:Zg S fp h h2 js L):St (SX S h h2 (UX fp)) L h2:=by
 obtain⟨g,d,j,l⟩:=k;refine⟨SX.lt g d,l.mono λc a=>?_⟩;rcases a with a|⟨i,_,a⟩
 ·exact⟨Ag6 a.1 d.siz,λb=>b.1.elim a.2 λx=>Ω⟩
 ·exact⟨(j i c a).2,λb=>b.2 ⟨i,a⟩⟩
end
section
variable{α:Type}{r:A9 α}{e T:TypeId}{v u:Value}{l:List α}{vs:List Value}{ll:List (List α)}{S F:Nat->Prop}{h:AV}{L L2:List HP}
def St.one{H:HP}(a:St S L h)(b:H∈L):St S [H] h:=by
 obtain⟨F,k,c⟩:=a.get b;exact⟨a.1,F,k,c,trivial⟩
def St.oolen(a:St S L h)(b:OO r e T v ll∈L):∃c cap,v= .slice c ll.length cap/\ll.length<=maxLen:=by
 obtain⟨vs,d,k⟩:=(a.one b).ooOpen;have:=k.oslen (Ahf ..);rwa [d]at this
def IN(h:AV)(q u:Value):Prop:=∃a:Addr,q= .pointer (some a)/\KE h a=some u
def Agj(u:Value)(k:Nat)(q:Value):Prop:=∃a n c,u= .slice (some a) n c/\q= .pointer (some (a.add k))
def jE{i:Nat}(k:OS JU T v vs |>.holds S F h)(b:vs[i]? =some u){q:Value}(l:EP v i q):IN h q u:=by
 obtain⟨g,n,c,m,rfl⟩:=l;rcases k with⟨⟨s,d⟩,k2,_⟩|⟨g',cap,cur,d,k2,k3,k4,k5,k6,k7⟩
 ·subst k2;simp at b
 ·rw[m]at d;injection d with a _ _
  injection a with a
  injection a with a _ _
  subst a;have o:=Wc k7;have p:i<vs.length:=(Ag0.1 b).1;refine⟨_,rfl,?_⟩;simp only[KE,k3,Ajs,Ail,Aim];have j:(cur.toList.take (vs.length*JU.sz))[i]? =some u:=by rw[o];exact b
  rw[Aif (by show i<vs.length*1;omega)]at j;simpa using j
def St.ooAt(A:St S L h)(B:OO r e T v ll∈L){i:Nat}(w:ll[i]? =some l){q:Value}(x:EP v i q):
  ∃u,IN h q u/\Sl (λb=>b<h.size) h r u l/\O4 (λb=>b<h.size) h q [u]:=by
 obtain⟨vs,C,k⟩:=(A.one B).ooOpen;have d:i<vs.length:=by rw[C];exact(Ag0.1 w).1
 have y:vs[i]? =some vs[i]:=by simp[d]
 obtain⟨F,z,s⟩:=k.get (Ahf ..);have m:=jE z y x;obtain⟨M,D,_⟩:=TJ (r:=r) (e:=e) y w;have G:St S (RC (XX r e vs ll)::[OS JU T v vs]) h:=k.sel [1,0] 0 rfl;have H:=D G;refine⟨vs[i],m,H.oslAll (Ahf ..),?_⟩;obtain⟨g,n,c,I,rfl⟩:=x;obtain⟨a,o,J⟩:=m;injection o with o
 injection o with o
 subst o;rcases z with⟨⟨Q,t⟩,q2,_⟩|⟨g',cap,cur,t,q2,_⟩
 ·rw[q2]at d;exact absurd d (Nat.not_lt_zero _)
 ·rw[I]at t;injection t with p _ _
  injection p with p
  injection p with p _ _
  subst p;refine⟨⟨g,i,none⟩,rfl,rfl,(s g ((q2 g).2 rfl)).1,λj K=>?_⟩;simp only[List.length_singleton]at K;have:j=0:=Ω
  subst this;exact J
def OW.oslen{X:Nat->Prop}(k:OW S h0 X F M h)(a:OS r T v l∈M):∃b cap,v= .slice b l.length cap/\l.length<=maxLen:=by
 obtain⟨F,k,_⟩:=Sp.get a k;exact OS.len k
def OW.oolen{X:Nat->Prop}(k:OW S h0 X F M h)(a:OO r e T v ll∈M):∃b cap,v= .slice b ll.length cap/\ll.length<=maxLen:=by
 obtain⟨F,⟨vs,c,d,k,_⟩,_⟩:=Sp.get a k;rw[<-c];exact OS.len k
def QY{a:Type}:∀{l:List a}{i:Nat}{x:a},l[i]? =some x->l.set i x=l
 |[],_,_,h=>by simp at h
 |y::l,0,x,h=>by simp at h;rw[h];rfl
 |y::l,i+1,x,h=>by
  simp only[Air]at h;rw[List.set_cons_succ,QY h]
end
section
variable{P:Program}{ops:Array Oper}{C:World->Prop}{Q:Act->Prop}{Q2:Exit->Act->World->Prop}{n:FN}{m m':SM}{rest:List Oper}
variable{d:Nat}{ty:TypeId}{pos:String}{af:Array Edge}{X Y:Operand}{t:TypeId}{v p:Value}{B:World}{h:AV}{S:Nat->Prop}{L L2:List HP}
def Se{α}{r:A9 α}{ll:List (List α)}{c T e:Nat}{i:Int}{x:List α}(g:St S L h)(j:OO r c T v ll∈L)(l:B5 m X=some v)(o:B5 m Y=some (.int .i64 i))(p:Q4 P t e 1=true)(s:Go.Proofs.YtabonambpbofgaaGreat.ix ll i=some x)(hd:Nat.blt d n.1=true)
  (k:∀q,EP v (i.toNat*(A9.sl r).sz+0) q->QF P ops C Q rest n ((d,q)::m)):QF P ops C Q (⟨some d,.indexAddr t X Y,ty,pos,af,none⟩::rest) n m:=by
 obtain⟨vs,u,ks⟩:=(g.one j).ooOpen;obtain⟨h0,w⟩:=FQ s;have a:i.toNat<vs.length:=by rw[u];exact(Ag0.1 w).1
 have b:Go.Proofs.YtabonambpbofgaaGreat.ix vs i=some vs[i.toNat]:=by unfold Go.Proofs.YtabonambpbofgaaGreat.ix;rw[Agn Ω];simp[a]
 exact BU (r:=JU) ks (Ahf ..) l o p b hd k
def nE{α}{r:A9 α}{ll:List (List α)}{e0 T aty e sz}(b:St S L h)(c:OO r e0 T v ll∈L)(g:B5 m X=some v)(i:Q4 P t e sz=true)(hd:Nat.blt d n.1=true)
  (k:ll.length<=maxLen->QF P ops C Q rest n ((d,.int .i64 ll.length)::m)):QF P ops C Q (⟨some d,.call ⟨.builtin .len,#[X],#[t]⟩,aty,pos,af,none⟩::rest) n m:=by
 obtain⟨j,cap,rfl,a⟩:=b.oolen c;exact Qs g i hd (k a)
def XH{α}{r:A9 α}{ll:List (List α)}{T:Nat}{i:Int}{l:List α}{q:Value}(w:CK C h)(x:St S L h)(y:OO r s T v ll∈L)(z:B5 m X=some q)(A:Go.Proofs.YtabonambpbofgaaGreat.ix ll i=some l)(B:EP v (i.toNat*(A9.sl r).sz+0) q)(D:LD P t 1 false=true)(hd:Nat.blt d n.1=true)
  (k:∀u,IN h q u->Sl (λb=>b<h.size) h r u l->QF P ops C Q rest n ((d,u)::m)):QF P ops C Q (⟨some d,.load t X,ty,pos,af,none⟩::rest) n m:=by
 have g:EP v i.toNat q:=by have:=B;rwa [show i.toNat*(A9.sl r).sz+0=i.toNat from Aih _]at this
 obtain⟨u,F,o,G⟩:=x.ooAt y (FQ A).2 g;obtain⟨p,cap,H⟩:∃p cap,u= .slice p l.length cap:=by
  rcases o with⟨c,j⟩|⟨a,cap,c,_⟩
  ·exact⟨none,0,by rw[c,j];rfl⟩
  ·exact⟨_,cap,c⟩
 have I:OJ (λb=>b<h.size) S h JU q u:=⟨[u],G,rfl,by rw[H];rfl⟩
 refine Lh (r:=JU) w (λb J=>J) z I D (λ_=>rfl) hd λK M=>?_;obtain⟨cs,c,j,U⟩:=M;subst j;have:K=u:=c;subst this;exact k _ F o
def bX{α}{r:A9 α}{l:List α}{e:Nat}{i:Int}{x:α}(y:B5 m X=some u)(z:B5 m Y=some (.int .i64 i))(k0:Sl A h r u l)(B:Q4 P t e r.sz=true)(D:Go.Proofs.YtabonambpbofgaaGreat.ix l i=some x)(hd:Nat.blt d n.1=true)
  (k:∀q,Pt A h r q x->Agj u (i.toNat*r.sz) q->QF P ops C Q rest n ((d,q)::m)):QF P ops C Q (⟨some d,.indexAddr t X Y,ty,pos,af,none⟩::rest) n m:=by
 obtain⟨h0,v⟩:=FQ D;have c:i.toNat<l.length:=(Ag0.1 v).1;rcases k0 with⟨_,F⟩|⟨a,cap,e1,e3,e4,e5⟩
 ·subst F;simp at c
 ·subst e1;obtain⟨g,p⟩:=e5 _ _ v;have j:a.add (i.toNat*r.sz)=⟨a.block,a.off+i.toNat*r.sz,none⟩:=by
   obtain⟨b,o,G⟩:=a;simp only at g;subst g;unfold Addr.add;split<;>simp_all
  intro H s;refine GH s hd (λw _=>by simp[execOp,s.eval y,s.eval z,NF (P:=P) (w:=w) (cap:=cap) (a:=a) B h0 c]) (k _ (by rw[j];exact p) ⟨a,_,_,rfl,rfl⟩)
def cG{α}{r:A9 α}{ll:List (List α)}{a T:Nat}{i:Int}{l b:List α}{q:Value}(I:B5 m X=some q)(J:B5 m Y=some u)(K:EP v (i.toNat*(A9.sl r).sz+0) q)(Q:ix ll i=some l)(U:LD P t 1 false=true)
  (F:St S (OS r a u b::OO r a T v ll::L) h) (k:∀h',St S (OO r a T v (upd ll i b)::L) h'->CO S h S h'->LF P ops Q2 rest B h' n m):LF P ops Q2 (⟨none,.store t X Y,ty,pos,af,none⟩::rest) B h n m:=by
 obtain⟨h0,G⟩:=FQ Q;have j:St S (OO r a T v ll::OS r a u b::L) h:=F.pick (.tail .head);obtain⟨vs,H,ks⟩:=j.ooOpen;have c:i.toNat<vs.length:=by rw[H];exact(Ag0.1 G).1
 have o:ix vs i=some vs[i.toNat]:=by unfold ix;rw[Agn Ω];simp[c]
 have V:vs[i.toNat]? =some vs[i.toNat]:=by simp[c]
 obtain⟨ad,cap,p,_⟩:=F.oslen (Ahf ..);have d:u.oneCell'=true:=by rw[p];rfl
 obtain⟨M,W,t2⟩:=TJ (r:=r) (e:=a) V G;refine Ei (r:=JU) (r':=JU) (i:=i) (x:=vs[i.toNat]) (g:=λ_ y=>y) (off:=0) (y:=u) I J ⟨[u],rfl,rfl,d⟩ K o NQ.id U (λ_=>rfl) ks .head λh' s Z=>k h' ?_ Z;have w:St S (RC (XX r a vs ll)::OS JU T v (upd vs i u)::OS r a u b::L) h':=s.pick (.tail .head);have z:=W w;have A:St S (OS r a u b::RC M::OS JU T v (upd vs i u)::L) h':=by
  have:=z.drop .head;exact(this.pick (.tail (.tail .head)))
 have C:=t2 u b A;have D:St S (OS JU T v (upd vs i u)::RC (XX r a (vs.set i.toNat u) (ll.set i.toNat b))::L) h':=C.pick (.tail .head);exact Rr (by simp[upd,H]) D
def rY{α}{r:A9 α}{ll:List (List α)}{o T:Nat}{i j:Int}{l:List α}{x y:α}{q A Z:Value}(hx:B5 m X=some A)(hy:B5 m Y=some Z)(C:Rd S h r Z y)(ep:EP v (i.toNat*(A9.sl r).sz+0) q)(D:IN h q u)(G:Agj u (j.toNat*r.sz) A)
  (hi:ix ll i=some l) (z:ix l j=some x) (ht:LD P t r.sz r.ag=true) (h1:r.ag=false->r.sz=1)
  (hs:St S (OO r o T v ll::L) h) (k:∀h',St S (OO r o T v (upd ll i (upd l j y))::L) h'->CO S h S h'->LF P ops Q2 rest B h' n m):LF P ops Q2 (⟨none,.store t X Y,ty,pos,af,none⟩::rest) B h n m:=by
 obtain⟨h0,p⟩:=FQ hi;obtain⟨vs,hl,ks⟩:=hs.ooOpen;have H:i.toNat<vs.length:=by rw[hl];exact(Ag0.1 p).1
 have I:vs[i.toNat]? =some vs[i.toNat]:=by simp[H]
 have J:EP v i.toNat q:=by have:=ep;rwa [show i.toNat*(A9.sl r).sz+0=i.toNat from Aih _]at this
 obtain⟨F,k1,aa⟩:=ks.get (Ahf ..);have he:vs[i.toNat]=u:=by
  obtain⟨a,a1,a2⟩:=jE k1 I J;obtain⟨a',d,b2⟩:=D;rw[a1]at d;injection d with d
  injection d with d
  subst d;rw[a2]at b2;exact Ags b2
 obtain⟨M,t1,t2⟩:=TJ (r:=r) (e:=o) I p;have K:St S (RC (XX r o vs ll)::OS JU T v vs::L) h:=ks.pick (.tail .head);have b:=t1 K;rw[he]at b;have Q:EP u (j.toNat*r.sz+0) A:=by
  obtain⟨F3,s,_⟩:=b.get (Ahf ..);obtain⟨a,nn,c,e1,e2⟩:=G;rcases s with⟨⟨ad,s⟩,z2,_⟩|⟨g,cap,cur,s,_⟩
  ·subst z2;unfold ix at z;split at z<;>simp at z
  ·rw[e1]at s;injection s with U _ _
   injection U with U
   subst U;refine⟨g,nn,c,e1,?_⟩;rw[e2,U4,Ahw];rfl
 refine Ei (r:=r) (r':=r) (i:=j) (x:=x) (g:=λ_ y=>y) (off:=0) (y:=y) hx hy C Q z NQ.id ht h1 b .head λh' V e'=>k h' ?_ e';have W:=t2 u (upd l j y) V;have w:St S (OS JU T v vs::RC (XX r o (vs.set i.toNat u) (ll.set i.toNat (upd l j y)))::L) h':=W.pick (.tail .head);rw[QY (he▸I)]at w;exact Rr (by simp[upd,hl]) w
def rZ{α}(r:A9 α)(i:Nat){T e a:Nat}{len:Int}{j l:IntKind}{U:Operand}(o:OI P T=some (e,1,a,[.slice none 0 0]))
  (p:B5 m U=some (.int j len)) (q:B5 m V=some (.int l cap)) (c:ME len cap a=true) (b:Nat.blt 0 a=true) (hd:Nat.blt d n.1=true) (s:St S L h)
  (k:∀v h',St S (OO r i e v (List.replicate len.toNat ([]:List α))::L) h'->CO S h S h'->LF P ops Q2 rest B h' n ((d,v)::m)):LF P ops Q2 (⟨some d,.makeSlice T U V,ty,pos,af,none⟩::rest) B h n m:=
 L4 (r:=JU) (zx:= .slice none 0 0) o rfl ⟨rfl,rfl⟩ p q c b hd s λv h' g t=>k v h' g.ooNil t
end
def St.zs{α}(b:St S L h)(r:A9 α)(T:TypeId)(a:Option Addr):St S (OS r T (.slice a 0 0) ([]:List α)::L) h:=
 (b.add (Ag5 _) (λ_ _=>rfl) ⟨λ_=>False,Or.inl ⟨⟨a,rfl⟩,rfl,λ_ x=>x⟩,λ_ x=>x.elim⟩).1
section
variable{P:Program}{ops:Array Oper}{C:World->Prop}{Q:Act->Prop}{Q2:Exit->Act->World->Prop}{n:FN}{m m':SM}{rest:List Oper}
variable{d:Nat}{ty:TypeId}{pos:String}{af:Array Edge}{X Y Z:Operand}{t:TypeId}{kd kd2:IntKind}{v p:Value}{S:Nat->Prop}{h:AV}{B:World}{L:List HP}
def rG{α}{r:A9 α}{e:TypeId}{l:List α}(j:B5 m X=some v)(o:B5 m Y=some (.int kd 0))(p:B5 m Z=some (.int kd2 0))(k0:Sl S h r v l)(q:Q4 P t e r.sz=true)(hd:Nat.blt d n.1=true)
  (k:∀b,QF P ops C Q rest n ((d,.slice b 0 0)::m)):QF P ops C Q (⟨some d,.slice t X none (some Y) (some Z),ty,pos,af,none⟩::rest) n m:=λa c=>by
 obtain⟨i,s⟩:=Om q;obtain⟨b,len,cap,rfl⟩:∃b len cap,v= .slice b len cap:=by
  rcases k0 with⟨g,_⟩|⟨a,cap,g,_⟩
  ·exact⟨none,0,0,g⟩
  ·exact⟨_,_,_,g⟩
 refine GH c hd (λw _=>?_) (k b);simp[execOp,c.eval j,c.eval o,c.eval p,run_sliceAt_slice _ _ _ _ _ _ i,run_slice_hm w t b len cap i kd kd2 0 0 Ω Ω Ω,s,sliced]
def Aaj{e sz:Nat}(g:B5 m X=some (.slice none 0 0))(i:B5 m Y=some (.int kd 0))(j:Q4 P t e sz=true)(hd:Nat.blt d n.1=true)
  (k:QF P ops C Q rest n ((d,.slice none 0 0)::m)):QF P ops C Q (⟨some d,.slice t X none (some Y) none,ty,pos,af,none⟩::rest) n m:=λa b=>by
 obtain⟨c,l⟩:=Om j;refine GH b hd (λw _=>?_) k;simp[execOp,b.eval g,b.eval i,run_sliceAt_slice _ _ _ _ _ _ c,run_slice_h w t none 0 0 c kd 0 Ω Ω,l,sliced]
def rF{e sz:Nat}(g:B5 m X=some (.slice none 0 0))(i:B5 m Y=some (.int kd 0))(j:B5 m Z=some (.int kd2 0))(l:Q4 P t e sz=true)(hd:Nat.blt d n.1=true)
  (k:QF P ops C Q rest n ((d,.slice none 0 0)::m)):QF P ops C Q (⟨some d,.slice t X none (some Y) (some Z),ty,pos,af,none⟩::rest) n m:=λa b=>by
 obtain⟨c,o⟩:=Om l;refine GH b hd (λw _=>?_) k;simp[execOp,b.eval g,b.eval i,b.eval j,run_sliceAt_slice _ _ _ _ _ _ c,run_slice_hm w t none 0 0 c kd kd2 0 0 Ω Ω Ω,o,sliced]
def sA{t e sz:Nat}{z:List Value}{kq:IntKind}(I:B5 m X=some (.slice none 0 0))(J:B5 m Y=some (.int kq y))(M:OI P t=some (e,sz,g,z))(Q:P.underlying s=some (.int H))
  (h0:0<y) (u:HN y.toNat g=true) (v:Nat.blt 0 g=true) (hd:Nat.blt d n.1=true) (U:St S L h)
  (k:∀b c' cs' h',y.toNat<=c'->c'<=maxLen->cs'.length=c'*sz->St S (Bx b e cs'::L) h'->CO S h S h'->LF P ops Q2 rest B h' n ((d,.slice (some ⟨b,0,none⟩) y.toNat c')::m)):
  LF P ops Q2 (⟨some d,.call ⟨.builtin .append,#[X,Y],#[t,s]⟩,ty,pos,af,none⟩::rest) B h n m:=by
 intro a w x o;obtain⟨j,rfl⟩:∃j:Nat,y=j:=⟨y.toNat,Ω⟩
 have u:=(Oq u).le;simp only[Ahl]at u k;have p:0<g:=(by simpa[Nat.blt]using v:1<=g)
 obtain⟨i,l,V,W,Z,u4,u5,u6,u7,u8⟩:=NP M;have aa:j<=j*g:=Nat.le_mul_of_pos_right _ p;have q:=Lib.run_append_nil_zeros (P:=P) w t s ty e i l kq H V Q W Z j Ω Ω Ω (by rw[u5];omega);refine wpList_plain rfl λK hK=>?_;unfold Oper.wp;have A:(execOp a.eval ⟨some d,.call ⟨.builtin .append,#[X,Y],#[t,s]⟩,ty,pos,af,none⟩).run P w= .ok (.value (.slice (some ⟨w.heap.size,0,none⟩) j (grownCap w j 0 e)))
   (w.drew.alloc (.cells (Builtin.zeroCells l.cells j++Builtin.zeroCells l.cells (grownCap w j 0 e-j)) e)):=by
  simp[execOp,resolve,invoke,builtin,x.eval I,x.eval J,q]
 rw[A];have C:=grownCap_ge w j 0 e;have D:=grownCap_le_maxLen w j 0 e (by unfold maxLen;omega);have F:l.cells.size=sz:=by rw[u6];simpa using u7
 have c:=U.push e (Builtin.zeroCells l.cells j++Builtin.zeroCells l.cells (grownCap w j 0 e-j)).toList;rw[Array.toArray_toList]at c;have G:=(show Wd B h w.drew from⟨o.heap,o.os,o.tape,o.out⟩).alloc (.cells (Builtin.zeroCells l.cells j++Builtin.zeroCells l.cells (grownCap w j 0 e-j)) e);have hz:w.heap.size=h.size:=by rw[o.heap]
 rw[hz];refine hK _ _ (k _ _ _ _ C D ?_ c.1 c.2 _ _ (x.put hd _) G);simp only[Array.length_toList,Array.size_append,size_zeroCells,F,<-Aib];congr 1;omega
def OC{e:Nat}(g:o.guard=some (j,b))(i:(ops[j]?).bind (·.dst)=some e)(l:lk m e=some (.bool b))(k:LF P ops Q2 ({ o with guard:=none}::rest) B h n m):LF P ops Q2 (o::rest) B h n m:=by
 intro a w d p;have q:Region.wanted o (yielded ops a.tmps)=true:=by
  have:=d.at_ e _ l;simp[Region.wanted,g,yielded,i,this]
 have c:=k a w d p;unfold wpList at c ⊢;rw[Agp (by simp[Region.wanted])]at c;rw[Agp q];exact c
def Agh{l:List Oper}{c:Bool}(a:b=c)(k:QF P ops C Q l n ((d,.bool c)::m)):QF P ops C Q l n ((d,.bool b)::m):=a▸k
def Gx{l:List Oper}{c:Bool}(a:b=c)(k:LF P ops Q2 l B h n ((d,.bool c)::m)):LF P ops Q2 l B h n ((d,.bool b)::m):=a▸k
def Aai{b len cap e sz:Nat}(a:B5 m X=some (.slice (some ⟨b,0,none⟩) len cap))(c:B5 m Y=some (.int kd 0))(g:Q4 P t e sz=true)(hd:Nat.blt d n.1=true)
  (k:QF P ops C Q rest n ((d,.slice (some ⟨b,0,none⟩) 0 cap)::m)):QF P ops C Q (⟨some d,.slice t X none (some Y) none,ty,pos,af,none⟩::rest) n m:=
 ZZ a c (j:=0) rfl g (Agr _) hd k
def Afi(P:Program)(t:TypeId):Bool:=match P.underlying t with|some (.slice _)=>true|_=>false
def rJ(g:B5 m X=some v)(b:Afi P t=true)(hd:Nat.blt d n.1=true)(k:QF P ops C Q rest n ((d,.iface t v)::m)):QF P ops C Q (⟨some d,.makeInterface t X,ty,pos,af,none⟩::rest) n m:=λa c=>by
 unfold Afi at b;split at b
 ·rename_i e i;refine GH c hd (λw _=>?_) k;simp[execOp,c.eval g,Instr.makeInterface,run_underlying i]
 ·cases b
end
def jD{α}{r:A9 α}{cs:List Value}:M6 S h r (cs.take (([]:List α).length*r.sz)) ([]:List α):=by
 show cs.take (0*r.sz)=[]
 rw[Nat.zero_mul];rfl
section
variable{P:Program}{ex:List (Nat×AP)}{RR N:AP}{cs:List Code}{B:World}{h:AV}{n:FN}{m m':SM}{S:Nat->Prop}{L:List HP}{C:World->Prop}{l:List Oper}{fuel:Nat}{listed:Array Bool}
variable{d:Nat}{ty:TypeId}{pos:String}{af:Array Edge}{X Y:Operand}{t:TypeId}{v:Value}
def HF(P:Program)(l:List Oper)(Q:Exit->Act->World->Prop)(C:World->Prop)(fuel:Nat)(listed:Array Bool)(B:World)(h:AV)(n:FN)(m:SM):Prop:=
 ∀a w,Fr n a m->Wd B h w->wpAnyH P .any l.toArray Q C fuel listed a w
abbrev QW(P:Program)(ex:List (Nat×AP))(RR:AP)(cs:List Code)(N:AP):Exit->Act->World->Prop:=Qx ex RR (W P ex RR cs N)
def V2(l:List Oper)(listed:Array Bool)(i:Nat):Bool:=Region.noSelect l.toArray&&Region.free .any l.toArray listed i&&(Region.ready .any l.toArray listed).contains i
def WI{id:Nat}(C:World->Prop)(c:P.follows .mixedOrders=true)(k:HF P l (QW P ex RR cs N) C l.toArray.size (Array.replicate l.toArray.size false) B h n m):WF P ex RR (.region id l.toArray true::cs) N B h n m:=
 λa w d g i b=>RZ b OY c (wpAny_of_held _ _ _ _ (k a _ d g.drew))
def Qa{o:Op}(i:Nat)(q:l[i]? =some ⟨some d,o,ty,pos,af,none⟩)(c:V2 l listed i=true)(s:∀w,Wd B h w->C w)(hd:Nat.blt d n.1=true)
  (b:∀a w,Fr n a m->C w->(execOp a.eval ⟨some d,o,ty,pos,af,none⟩).run P w= .ok (.value v) w) (k:HF P l (QW P ex RR cs N) C fuel (listed.setIfInBounds i true) B h n ((d,v)::m)):HF P l (QW P ex RR cs N) C (fuel+1) listed B h n m:=by
 intro a w j p;simp only[V2,Agu]at c;exact wpAnyH_take (oi:=⟨some d,o,ty,pos,af,none⟩) (v:=v) (by simpa using q) c.1.1 c.1.2 c.2 (λ_ _ _ t=>t.elim) (.inl ⟨by simp[Region.wanted],λw' g=>b a w' j g⟩) (s w p) (k _ _ (j.put hd v) p)
def RJ(i:Nat)(b:l[i]? =some ⟨some d,.move X,ty,pos,af,none⟩)(c:V2 l listed i=true)(g:∀w,Wd B h w->C w)(j:B5 m X=some v)(hd:Nat.blt d n.1=true)(k:HF P l (QW P ex RR cs N) C fuel (listed.setIfInBounds i true) B h n ((d,v)::m)):HF P l (QW P ex RR cs N) C (fuel+1) listed B h n m:=
 Qa i b c g hd (λa w o _=>by simp[execOp,o.eval j]) k
def nO(i:Nat)(b:l[i]? =some ⟨some d,.assign X,ty,pos,af,none⟩)(c:V2 l listed i=true)(g:∀w,Wd B h w->C w)(j:B5 m X=some v)(hd:Nat.blt d n.1=true)(k:HF P l (QW P ex RR cs N) C fuel (listed.setIfInBounds i true) B h n ((d,v)::m)):HF P l (QW P ex RR cs N) C (fuel+1) listed B h n m:=
 Qa i b c g hd (λa w o _=>by simp[execOp,o.eval j]) k
def XP(i:Nat){b o:Nat}(p:l[i]? =some ⟨some d,.fieldAddr t X j,ty,pos,af,none⟩)(c:V2 l listed i=true)(q:∀w,Wd B h w->C w)(s:B5 m X=some (.pointer (some ⟨b,o,none⟩)))(u:eJ P t j off=true)(hd:Nat.blt d n.1=true)(k:HF P l (QW P ex RR cs N) C fuel (listed.setIfInBounds i true) B h n ((d,.pointer (some ⟨b,o+off,none⟩))::m)):HF P l (QW P ex RR cs N) C (fuel+1) listed B h n m:=
 have g:(⟨b,o,none⟩:Addr).add off=⟨b,o+off,none⟩:=by unfold Addr.add;split<;>simp_all
 Qa i p c q hd (λa w v _=>by simp[execOp,v.eval s,NG u,g]) k
def QZ(i:Nat){b o sz T:Nat}{q:List Value}(s:l[i]? =some ⟨some d,.load t X,ty,pos,af,none⟩)(c:V2 l listed i=true)(u:∀w,Wd B h w->C w)(v:B5 m X=some (.pointer (some ⟨b,o,none⟩)))(y:∀w,C w->w.heap[b]? =some (.cells q.toArray T (0,0)))(z:(q.drop o).take sz=vs)(A:Nat.beq vs.length sz=true)(D:LD P t sz ag=true)(F:(ag||Nat.beq sz 1)=true)(hd:Nat.blt d n.1=true)
  (k:HF P l (QW P ex RR cs N) C fuel (listed.setIfInBounds i true) B h n ((d,if ag then .agg vs.toArray else vs.headD undef)::m)):HF P l (QW P ex RR cs N) C (fuel+1) listed B h n m:=
 Qa i s c u hd (λa w G H=>by
  have I:(Bx b T q).holds (λ_=>True) (λx=>x=b) w.heap:=⟨λ_=>Iff.rfl,y w H⟩
  have g:=Ag1 A;have:=Nx (P:=P) (w:=w) (S:=λ_=>True) (p:= .pointer (some ⟨b,o,none⟩)) (cs:=vs) (sz:=sz) (ag:=ag) (t:=t) ⟨⟨b,o,none⟩,rfl,rfl,trivial,λj J=>by
   rw[Bx.cell I,<-z,Aif Ω,Ai0]⟩ g D (λe=>by subst e;simpa using F)
  simp[execOp,G.eval v,this]) k
def VE(i:Nat){α}{r:A9 α}{xs:List α}{T e:Nat}{j:Int}{x:α}(s:l[i]? =some ⟨some d,.indexAddr t X Y,ty,pos,af,none⟩)(c:V2 l listed i=true)(u:∀w,Wd B h w->C w)(y:St S L h)(z:OS r T v xs∈L)(A:B5 m X=some v)(D:B5 m Y=some (.int .i64 j))(F:Q4 P t e r.sz=true)(o:ix xs j=some x)(hd:Nat.blt d n.1=true)
  (k:∀q,EP v (j.toNat*r.sz+0) q->HF P l (QW P ex RR cs N) C fuel (listed.setIfInBounds i true) B h n ((d,q)::m)):HF P l (QW P ex RR cs N) C (fuel+1) listed B h n m:=by
 obtain⟨g,cap,rfl,H⟩:=y.osAt z (FQ o).2;have G:j.toNat<xs.length:=(Ag0.1 (FQ o).2).1;have b:(⟨g,0,none⟩:Addr).add (j.toNat*r.sz)=⟨g,j.toNat*r.sz,none⟩:=by unfold Addr.add;split<;>simp_all
 exact Qa i s c u hd (λa w p I=>by simp[execOp,p.eval A,p.eval D,NF (P:=P) (w:=w) (cap:=cap) (a:=⟨g,0,none⟩) F (FQ o).1 G,b]) (k _ ⟨g,_,_,rfl,rfl⟩)
def dZ(i:Nat)(p:l[i]? =some o)(d:o.guard=none)(c:Region.ready .any l.toArray listed=[i])
  (k:LF P l.toArray (Exit.then (λq w'=>C w'/\wpAnyH P .any l.toArray (QW P ex RR cs N) C fuel (listed.setIfInBounds i true) q w') (QW P ex RR cs N)) [o] B h n m):HF P l (QW P ex RR cs N) C (fuel+1) listed B h n m:=by
 intro a w s t;refine wpAnyH_all c (by simp) λj g=>?_;rw[Aho]at g;subst g;unfold wpOp;have b:l.toArray[j]? =some o:=by simpa using p
 simp only[b];rw[Agp (by simp[Region.wanted,d])];exact KV d (k a w s t)
def Gy{Q:Exit->Act->World->Prop}{b:Array Oper}(d:∀w,Wd B h w->C w)(k:HF P l (QW P ex RR cs N) C fuel listed B h n m):LF P b (Exit.then (λg w'=>C w'/\wpAnyH P .any l.toArray (QW P ex RR cs N) C fuel listed g w') Q) [] B h n m:=
 λa w i c=>⟨d w c,k a w i c⟩
def Qv(c:Region.ready .any l.toArray listed=[])(b:VZ m m')(k:WF P ex RR cs N B h n m'):HF P l (QW P ex RR cs N) C fuel listed B h n m:=
 λa w d g=>wpAnyH_done c (k a w (d.sub b) g) _
def St.bxW{b T:Nat}(a:St S L h)(c:Bx b T vs∈L)(d:Wd B h w):w.heap[b]? =some (.cells vs.toArray T (0,0)):=by
 rw[d.heap];exact a.bxcell c
end
section
variable{P:Program}
end
section
variable{P:Program}{ops:Array Oper}{C:World->Prop}{Q:Act->Prop}{n:FN}{m:SM}{rest:List Oper}{d:Nat}{ty:TypeId}{pos:String}{af:Array Edge}{X Y:Operand}{t2:TypeId}
end
section
variable{P:Program}{ex:List (Nat×AP)}{RR N:AP}{cs:List Code}{B:World}{h:AV}{n:FN}{m m0:SM}
end
abbrev vI(n:Int):Value:= .int .i64 n
abbrev vP(b o:Nat):Value:= .pointer (some ⟨b,o,none⟩)
abbrev vN:Value:= .slice none 0 0
section
variable{P:Program}{ops:Array Oper}{C:World->Prop}{Q:Act->Prop}{n:FN}{m m':SM}{rest:List Oper}
variable{d:Nat}{ty:TypeId}{pos:String}{af:Array Edge}{X Y:Operand}{t t1 t2:TypeId}{x y:Int}{kd:IntKind}{v p:Value}
def AE(e:(B5 m X,Nat.blt d n.1)=(some v,true))(k:QF P ops C Q rest n ((d,v)::m)):QF P ops C Q (⟨some d,.move X,ty,pos,af,none⟩::rest) n m:=
 uH (Agt (λz=>z.1) e) (Agt (λz=>z.2) e) k
def DV(e:(B5 m X,Nat.blt d n.1)=(some v,true))(k:QF P ops C Q rest n ((d,v)::m)):QF P ops C Q (⟨some d,.assign X,ty,pos,af,none⟩::rest) n m:=
 nK (Agt (λz=>z.1) e) (Agt (λz=>z.2) e) k
def Lp{b}(e:(B5 m X,Nat.blt d n.1)=(some (.bool b),true))(k:QF P ops C Q rest n ((d,.bool (!b))::m)):QF P ops C Q (⟨some d,.unOp .not t1 X,ty,pos,af,none⟩::rest) n m:=
 nB (Agt (λz=>z.1) e) (Agt (λz=>z.2) e) k
def AO{e:Nat}(e:(o.guard,(ops[j]?).bind (·.dst),lk m e)=(some (j,b),some e,some (.bool b)))(k:QF P ops C Q ({ o with guard:=none}::rest) n m):QF P ops C Q (o::rest) n m:=
 bY (Agt (λz=>z.1) e) (Agt (λz=>z.2.1) e) (Agt (λz=>z.2.2) e) k
def AZ{c:Operand}(e:(B5 m c,B5 m (if b then X else Y),Nat.blt d n.1)=(some (.bool b),some v,true))(k:QF P ops C Q rest n ((d,v)::m)):QF P ops C Q (⟨some d,.pick c X Y,ty,pos,af,none⟩::rest) n m:=
 Sd (Agt (λz=>z.1) e) (Agt (λz=>z.2.1) e) (Agt (λz=>z.2.2) e) k
def J1(e:(B5 m X,B5 m Y,Nat.blt d n.1)=(some (.int kd x),some (.int kd y),true))(k:QF P ops C Q rest n ((d,.bool (decide (x<y)))::m)):QF P ops C Q (⟨some d,.binOp .lss t1 X Y t2,ty,pos,af,none⟩::rest) n m:=
 nD (Agt (λz=>z.1) e) (Agt (λz=>z.2.1) e) (Agt (λz=>z.2.2) e) k
def LP(e:(B5 m X,B5 m Y,Nat.blt d n.1)=(some (.int kd x),some (.int kd y),true))(k:QF P ops C Q rest n ((d,.bool (decide (y<x)))::m)):QF P ops C Q (⟨some d,.binOp .gtr t1 X Y t2,ty,pos,af,none⟩::rest) n m:=
 nG (Agt (λz=>z.1) e) (Agt (λz=>z.2.1) e) (Agt (λz=>z.2.2) e) k
def bZ(e:(B5 m X,B5 m Y,Nat.blt d n.1)=(some (.int kd x),some (.int kd y),true))(k:QF P ops C Q rest n ((d,.bool (decide (y<=x)))::m)):QF P ops C Q (⟨some d,.binOp .geq t1 X Y t2,ty,pos,af,none⟩::rest) n m:=
 nH (Agt (λz=>z.1) e) (Agt (λz=>z.2.1) e) (Agt (λz=>z.2.2) e) k
def DG(e:(B5 m X,B5 m Y,Nat.blt d n.1)=(some (.int kd x),some (.int kd y),true))(k:QF P ops C Q rest n ((d,.bool (decide (x=y)))::m)):QF P ops C Q (⟨some d,.binOp .eql t1 X Y t2,ty,pos,af,none⟩::rest) n m:=
 nJ (Agt (λz=>z.1) e) (Agt (λz=>z.2.1) e) (Agt (λz=>z.2.2) e) k
def LO(e:(B5 m X,B5 m Y,Nat.blt d n.1)=(some (.int kd x),some (.int kd y),true))(k:QF P ops C Q rest n ((d,.bool (decide (x≠y)))::m)):QF P ops C Q (⟨some d,.binOp .neq t1 X Y t2,ty,pos,af,none⟩::rest) n m:=
 nC (Agt (λz=>z.1) e) (Agt (λz=>z.2.1) e) (Agt (λz=>z.2.2) e) k
def J3(e:(B5 m X,B5 m Y,Nat.blt d n.1)=(some (.int .i64 x),some (.int .i64 y),true))(k:QF P ops C Q rest n ((d,.int .i64 (BO (x+y)))::m)):QF P ops C Q (⟨some d,.binOp .add t1 X Y t2,ty,pos,af,none⟩::rest) n m:=
 cE (Agt (λz=>z.1) e) (Agt (λz=>z.2.1) e) (Agt (λz=>z.2.2) e) k
def QV(e:(B5 m X,B5 m Y,Nat.blt d n.1)=(some (.int .i64 x),some (.int .i64 y),true))(k:QF P ops C Q rest n ((d,.int .i64 (BO (x-y)))::m)):QF P ops C Q (⟨some d,.binOp .sub t1 X Y t2,ty,pos,af,none⟩::rest) n m:=
 bV (Agt (λz=>z.1) e) (Agt (λz=>z.2.1) e) (Agt (λz=>z.2.2) e) k
def EQ{i:Nat}(e:(B5 m X,xs[i]?,Nat.blt d n.1)=(some (.tuple xs),some u,true))(k:QF P ops C Q rest n ((d,u)::m)):QF P ops C Q (⟨some d,.extract X i,ty,pos,af,none⟩::rest) n m:=
 nI (Agt (λz=>z.1) e) (Agt (λz=>z.2.1) e) (Agt (λz=>z.2.2) e) k
def BS{e:Nat}(e:(o.guard,(ops[j]?).bind (·.dst),lk m e,o.dst,Nat.blt d n.1)=(some (j,true),some e,some (.bool false),some d,true))(k:QF P ops C Q rest n ((d,undef)::m)):QF P ops C Q (o::rest) n m:=
 Aax (Agt (λz=>z.1) e) (Agt (λz=>z.2.1) e) (Agt (λz=>z.2.2.1) e) (Agt (λz=>z.2.2.2.1) e) (Agt (λz=>z.2.2.2.2) e) k
end
section
variable{P:Program}{ex:List (Nat×AP)}{R N:AP}{cs:List Code}{B:World}{h:AV}{n:FN}{m m':SM}
def Cr{l:List Oper}{id:Nat}{y:Code}(k:QF P l.toArray (Wd B h) (λa=>∀w,Wd B h w->W P ex R (y::cs) N a w) l n m):WF P ex R (.seq (.region id l.toArray false) y::cs) N B h n m:=CU (Ip (.inl rfl) k)
def WF.sl{l:List Oper}{id:Nat}{y:Code}(k:LF P l.toArray (Qx ex R (W P ex R (y::cs) N)) l B h n m):WF P ex R (.seq (.region id l.toArray false) y::cs) N B h n m:=CU (Cj k)
def Cm{ty:TypeId}{pos:String}{v:Value}(e:(B5 m X,Nat.blt d n.1)=(some v,true))(b:VZ ((d,v)::m) m')(k:WF P ex R cs N B h n m'):QF P ops C (λa=>∀w,Wd B h w->W P ex R cs N a w) [⟨some d,.assign X,ty,pos,af,none⟩] n m:=DV e (E9 b k)
def AK{ex:List (Nat×AP)}{R:AP}{k:Type}{a d r:k}{x y:Code}(g:B5 m X=some (.bool b))(E:cond b a d=r)(i:b=true->a=r->WF P ex R (x::cs) N B h n m)(j:b=false->d=r->WF P ex R (y::cs) N B h n m):WF P ex R (.cond X x y::cs) N B h n m:=Is g (λc=>i c (Hk c E)) (λc=>j c (Hl c E))
def L5{Q:Exit->Act->World->Prop}{R:Value->AV->Prop}{v:Value}(r:R v h):QF P ops C (λa=>∀w,Wd B h w->wpList P ops (Exit.then (KS B n d R h m) Q) [] a w) [] n ((d,v)::m):=AG (BB (Ef.refl _) r)
end
end Go.Proofs.YtabonambpbofgaaGreat
