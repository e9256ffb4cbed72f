import Derived.Test.YtibidnaedddfdaaGreatDCore16
namespace Go.Proofs.YtibidnaedddfdaaGreat
set_option linter.all false
open Go.RowKit
def On.head {b:Array Oper}{d:Nat}{k:List Nat}{a:Array Bool}(c:On b (d::k) a) (v:d∈Region.ready .any b a) (l:d∉k):On b k (a.setIfInBounds d true):=by
 obtain⟨_,oi,m,g⟩:=mem_ready.1 v
 refine⟨by simp [c.size],λj n o p e q s=>?_,λt u=>by rw[getD_set_ne true (λe:d=t=>l (by rw[e];exact u))];exact c.tail t (kS _ u)⟩
 by_cases i:d=j
 ·subst i
  have:n=oi:=jH (o.symm.trans m)
  subst this
  exact getD_set_true (g e q s)
 ·rw[getD_set_ne false i] at p
  exact getD_set_true (c.closed j n o p e q s)
def Ls (n:Nat) (a G:List Nat):List Nat:=(List.range n).filter λi=> !a.contains i&& !G.contains i
def UM (a:Array Oper) (c:Nat) (b F G:List Nat):Bool:=
 (c::b).all (λt=>Nat.blt t a.size)&&decide (c::b).Nodup&&QL a (c::b) (F++G)&&Nr a (c::b)&&Nq a (c::b)&&Kr a&&Region.noSelect a&&(b.isEmpty||QL a b (Ls a.size b G))&&Nq a b&&(G.all λi=> !(c::b).contains i)&&
 F.all λf=> !G.contains f&&match a[f]? with|some o=>o.after.all λe=> !Region.binds .any e||(Nat.blt e.on a.size&& !(c::b).contains e.on&& !(F++G).contains e.on)|none=>false
def bJ (P:Program) (l:List Oper) (Q:Exit→Act→World→Prop) (B:World) (n:FN) (d:SM) (s c:BB) (R:AR) (a G:List Nat):Prop:=
 ∃(b:AR) (pss:List (List (Nat×Nat))) (j:List (Nat×Nat)) (k:List Oper) (m:List Nat),d.map (·.1)=m∧
  TL l.toArray (a++Ls l.length a G) n m=true∧P6 l.toArray (a++Ls l.length a G) l pss=true∧
  ((l.zip pss).zipIdx.all λp=>(a++Ls l.length a G).contains p.2||p.1.2.all λq=> !(Ls l.length a G).contains q.1)=true∧
  (j.all λp=>Nat.blt p.1 l.length&& !(a++Ls l.length a G).contains p.1&&(EA l.toArray p.1).any (Nat.beq p.2 ·))=true∧(a.filterMap λt=>l[t]?)=k∧
  (∀i,i∈G→∀v,R i v s→b i v c)∧(∀i v g o,FW c g→FW g o→b i v g→b i v o)∧
  By P l.toArray Q B n d c b (a++Ls l.length a G) [] ZB.none 0 l pss∧
  ∀h',FW c h'→PA b h' (λfr=>LF P l.toArray Q k B h' n (fr++d)) j []
def bJ.run {P:Program}{l:List Oper}{Q:Exit→Act→World→Prop}{B:World}{n:FN}{m2:SM}{h1 s:BB}{R:AR}{g:Nat}{q F G:List Nat}(k:bJ P l Q B n m2 h1 s R q G) (hc:UM l.toArray g q F G=true) (hQ:∀c a w,¬Q (.panic c) a w)
  {y:Nat} {b:Array Bool} {a a2:Act} {w2:World} (hu:Oq b=y+1) (J:On l.toArray (g::q) b) (hr:g∈Region.ready .any l.toArray b) (hl:∀i,i<l.toArray.size→i∉g::q→i∉G→b.getD i false=true)
  (g4:∀i,i∉g::q→b.getD i false=true→∃d v,EA l.toArray i=some d∧a.tmps[d]? =some v∧R i v h1) (hw:Wd B s w2) (K:Fr n a2 m2) (M:∀(i:Nat) (u:Value),a.tmps[i]? =some u→a2.tmps[i]? =some u):
  wpAny P .any l.toArray Q y (b.setIfInBounds g true) a2 w2:=by
 obtain⟨R2,pss,fs,ls,ms,rfl,q1,H,q3,q4,q5,q6,q7,q8,q9⟩:=k
 simp only[UM,iQ,jG] at hc
 obtain⟨⟨⟨⟨⟨⟨⟨⟨⟨⟨c1,c2⟩,c3⟩,c4⟩,c5⟩,c6⟩,c7⟩,c8⟩,c9⟩,aa⟩,af⟩:=hc
 have C:=List.nodup_cons.1 c2
 have U:l.length=pss.length:=by
  simp only[P6,iQ] at H
  exact iX H.1
 have ab:g<l.toArray.size:=by have:=iT.1 c1 g (kI ..);simp [Nat.blt] at this ⊢;omega
 have ac:=J.size
 have V:(b.setIfInBounds g true).getD g false=true:=by
  have:g<b.size:=by omega
  simp [this]
 have ad:∀i,i∈Ls l.length q G→(b.setIfInBounds g true).getD i false=true:=λi j=>by
  unfold Ls at j
  obtain⟨h1,s⟩:=lH.1 j
  simp only[iQ,jI] at s
  by_cases e:g=i
  ·subst e;exact V
  ·refine getD_set_true (hl i (by simpa using jJ.1 h1) (λh=>?_) λh=>by rw[iV.2 h] at s;cases s.2)
   rcases iZ.1 h with h|h
   ·exact e h.symm
   ·rw[iV.2 h] at s;cases s.1
 refine Pm (R:=R2) (B:=B) (h0:=s) (n:=n) (m:=m2) q (Ls l.length q G) [] ZB.none bS.none (λz I=>by cases I) (λi j=>by cases j) (λt ht=>?_) C.2 c6 [] [] (.inl rfl) ?_ ?_ c9 c7 hQ (λf K=>by cases K) (λf K=>by cases K) q1 q7 (λi j=>by cases j) (λi o d j ho hd=>?_) (λa w h' g1 g2 g3 g4 _ _=>?_) (.inl rfl) y _ _ _ ?_ (J.head hr C.1) ad ⟨⟨s,hw,FW.refl s,K,λi j A=>?_⟩,λi j=>(by cases j),λz I=>(by cases I)⟩
 ·have:=iT.1 c1 t (kS _ ht);simp [Nat.blt] at this ⊢;omega
 ·rw[jC] at c8
  refine c8.imp (λe=>by cases q with|nil=>rfl|cons _ _=>simp at e) λx=>?_
  rw[kF,kF];simpa using x
 ·have:=Ko c4
  cases q with
  |nil=>trivial
  |cons t r=>exact this.2
 ·have W:l[i]? =some o:=by simpa using ho
  obtain⟨ps,p1,p2⟩:=By.at_ (k:=0) q8 U (by rw[jR];exact j) W hd
  rw[jR] at p2
  have I:((o,ps),i)∈(l.zip pss).zipIdx:=by
   rw[kJ]
   exact⟨i,by rw[List.getElem?_zipIdx,(nB (z:=(o,ps))).2 ⟨W,p1⟩];simp⟩
  refine⟨ps,?_,λp hp h=>?_,p2⟩
  ·simp only[P6,iQ] at H
   have:=iT.1 H.2 _ I
   rw[jC] at this
   exact this.resolve_left λh=>j (iV.1 h)
  ·have:=iT.1 q3 _ I
   rw[jC] at this
   have:=iT.1 (this.resolve_left λh=>j (iV.1 h)) p hp
   rw[iV.2 h] at this
   cases this
 ·obtain⟨fr,g,k2⟩:=Ih (a:=a) (n:=n) _ _ (q9 h' g2) (λp hp=>by
   have e:=iT.1 q4 p hp
   simp only[iQ,jI] at e
   have e1:p.1<l.toArray.size:=by have:=e.1.1;simp [Nat.blt] at this ⊢;omega
   obtain⟨d,v,q1,H,q3⟩:=g4 p.1 e1 (λh=>by rw[iV.2 h] at e;cases e.1.2)
   have e2:=e.2
   rw[q1] at e2
   have:p.2=d:=iX (by simpa using e2)
   exact⟨v,by rw[this];exact H,q3⟩) ⟨g3.dfr,g3.siz,λi v j=>by simp [lk] at j⟩
  have X:(q.filterMap λt=>l.toArray[t]?)=ls:=by rw[←q5];congr 1;funext t;simp
  rw[X]
  exact g a w (k2.append g3) g1
 ·have:=KN (mem_ready.1 hr).1;omega
 ·have Y:g≠i:=λe=>by
   subst e
   refine j (List.mem_append_right _ (lH.2 ⟨jJ.2 (by simpa using ab),?_⟩))
   simp only[iQ,jI]
   refine⟨?_,?_⟩
   ·cases D:q.contains g with
    |true=>exact absurd (iV.1 D) C.1
    |false=>rfl
   ·cases D:G.contains g with
    |true=>
     have:=iT.1 aa g (iV.1 D)
     simp at this
    |false=>rfl
  rw[getD_set_ne false Y] at A
  have Z:i∉q:=λh=>j (lQ _ h)
  have ae:i<l.length:=by
   rcases jN i b.size with h|h
   ·rw[ac] at h;simpa using h
   ·rw[kC,Array.getElem?_eq_none h] at A;cases A
  have hG:i∈G:=by
   apply mJ
   intro hG
   refine j (List.mem_append_right _ (lH.2 ⟨jJ.2 ae,?_⟩))
   simp only[iQ,jI]
   exact⟨by cases D:q.contains i with|true=>exact absurd (iV.1 D) Z|false=>rfl,by cases D:G.contains i with|true=>exact absurd (iV.1 D) hG|false=>rfl⟩
  obtain⟨d,v,p1,p2,p3⟩:=g4 i (λh=>(iZ.1 h).elim (λe=>Y e.symm) Z) A
  exact⟨d,v,p1,M _ _ p2,q6 i hG v p3⟩
def bJ.fin {P:Program}{l:List Oper}{Q:Exit→Act→World→Prop}{B:World}{n:FN}{A:SM}{C m:BB}{R:AR}{q:Nat}{b G:List Nat}(k:bJ P l Q B n A C m R b G) (M:q<l.length) (s:q∉G)
  {a c:Act} {w:World} (U:∀i,i<l.length→i∉q::b→∃d v,EA l.toArray i=some d∧a.tmps[d]? =some v∧R i v C) (V:Wd B m w) (x:Fr n c A) (g:∀(i:Nat) (u:Value),a.tmps[i]? =some u→c.tmps[i]? =some u):
  wpList P l.toArray Q (b.filterMap λt=>l[t]?) c w:=by
 obtain⟨R2,pss,fs,ls,ms,rfl,D,F,H,W,X,Y,q7,q8,Z⟩:=k
 obtain⟨fr,y,k2⟩:=Ih (a:=c) (n:=n) _ _ (Z m (FW.refl m)) (λp hp=>by
  have e:=iT.1 W p hp
  simp only[iQ,jI] at e
  have I:p.1<l.length:=by have:=e.1.1;simp [Nat.blt] at this ⊢;omega
  have J:p.1∉b++Ls l.length b G:=λh=>by rw[iV.2 h] at e;cases e.1.2
  have j:p.1∉b:=λh=>J (lQ _ h)
  have o:p.1∈G:=by
   apply mJ
   intro o
   refine J (List.mem_append_right _ (lH.2 ⟨jJ.2 I,?_⟩))
   simp only[iQ,jI]
   exact⟨by cases z:b.contains p.1 with|true=>exact absurd (iV.1 z) j|false=>rfl,by cases z:G.contains p.1 with|true=>exact absurd (iV.1 z) o|false=>rfl⟩
  obtain⟨d,v,D,F,H⟩:=U p.1 I (λh=>(iZ.1 h).elim (λe=>s (e▸o)) j)
  have K:=e.2
  rw[D] at K
  have:p.2=d:=iX (by simpa using K)
  exact⟨v,by rw[this];exact g _ _ F,Y _ o v H⟩) ⟨x.dfr,x.siz,λi v hi=>by simp [lk] at hi⟩
 rw[X]
 exact y c w (k2.append x) V
def K2 (P:Program) (l:List Oper) (Q:Exit→Act→World→Prop) (B:World) (n:FN) (b mt:SM) (d:BB) (R:AR) (g G:List Nat):Act→World→Prop:=λa w=>
 Fr n a (b++mt)∧∃c,Wd B c w∧bJ P l Q B n b d c R g G
def XQ {P:Program}{l:List Oper}{Q:Exit→Act→World→Prop}{b:Array Oper}{B:World}{n:FN}{c mt:SM}{g d:BB}{R:AR}{i G:List Nat}(k:bJ P l Q B n c g d R i G):LF P b (Exit.then (K2 P l Q B n c mt g R i G) Q) [] B d n (c++mt):=
 λa w j m=>⟨j,d,m,k⟩
section
variable {P:Program}{ex:List (Nat×AP)}{RR N:AP}{cs:List Code}{B:World}{h:BB}{n:FN}{m m0:SM}{S:Nat→Prop}{L:List HP}
def UW {l:List Oper}{id:Nat}(q:Nat) (C F G As:List Nat) (R:AR) (pss:List (List (Nat×Nat))) (fs:List (Nat×Nat)) {o1:Oper}(hm:P.follows .mixedOrders=true) (hc:UM l.toArray q C F G=true) (ms:List Nat) (aq:m.map (·.1)=ms) (aa:TL l.toArray (q::C) n ms=true)
  (ab:P6 l.toArray (q::C) l pss=true) (ar:(fs.all λp=>Nat.blt p.1 l.length&& !(q::C).contains p.1&& !G.contains p.1&&(EA l.toArray p.1).any (Nat.beq p.2 ·))=true) (ah:l[q]? =some o1) (ac:o1.guard=none) (aj:QC m0 m)
  (ad:∀i v J Q,FW h J→FW J Q→R i v J→R i v Q)
  (ak:(As.all λi=> !(q::C).contains i&& !G.contains i&& !F.contains i)=true) (au:∀i,i∈As→Om (R i))
  (hF:Ku P l.toArray (q::C) n m h R F)
  (step:By P l.toArray (Qx ex RR (W P ex RR cs N)) B n m h R (q::C) As ZB.none 0 l pss)
  (av:∀mt h',FW h h'→PA R h' (λfr=>U6 (Oi l.toArray As) (lk fr)→LF P l.toArray (Exit.then (K2 P l (Qx ex RR (W P ex RR cs N)) B n (fr++m) mt h' R C G) (Qx ex RR (W P ex RR cs N))) [o1] B h' n (fr++m++mt)) fs []):WF P ex RR (.region id l.toArray true::cs) N B h n m0:=by
 intro a w hf hw
 subst aq
 have aw:=hc
 simp only[UM,iQ,jG] at hc
 obtain⟨⟨⟨⟨⟨⟨⟨⟨⟨⟨c1,c2⟩,c3⟩,c4⟩,c5⟩,c6⟩,c7⟩,c8⟩,c9⟩,ax⟩,ay⟩:=hc
 simp only[P6,iQ] at ab
 have al:l.length=pss.length:=iX ab.1
 have A:∀i,i∈As→i∉q::C∧i∉G:=λi y=>by
  have:=iT.1 ak i y
  simp only[iQ,jI] at this
  exact⟨λh=>(by rw[iV.2 h] at this;cases this.1.1),λh=>(by rw[iV.2 h] at this;cases this.1.2)⟩
 have az:∀f,f∈F→f∉As:=λf hf hA=>by
  have:=iT.1 ak f hA
  simp only[iQ,jI] at this
  rw[iV.2 hf] at this;cases this.2
 have hQ:∀c a w,¬(Qx ex RR (W P ex RR cs N)) (.panic c) a w:=λc a w hq=>hq
 have a0:q<l.toArray.size:=by have:=iT.1 c1 q (kI ..);simp [Nat.blt] at this ⊢;omega
 have a1:∀f,f∈F→∀o,l.toArray[f]? =some o→∀e,e∈o.after→Region.binds .any e=true→e.on<l.toArray.size∧e.on∉q::C∧e.on∉F++G:=λf hf o ho e he hb=>by
  have:=iT.1 ay f hf
  rw[iQ,ho] at this
  have:=this.2
  simp only[lB] at this
  have:=this e he
  simp only[hb,jV,kU,iQ,jI] at this
  exact⟨(by simpa [Nat.blt] using this.1.1:e.on+1≤l.toArray.size),λh=>(by rw[iV.2 h] at this;cases this.1.2),λh=>(by rw[iV.2 h] at this;cases this.2)⟩
 have U:∀(a:Act) (w:World) (J:BB) (Kp:Act→World→Prop),Wd B J w→FW h J→Fr n a m→(∀i,i<l.toArray.size→i∉q::C→i∉G→∃d v,EA l.toArray i=some d∧a.tmps[d]? =some v∧R i v J)→(∀i,i∈As→∀j,j∈As→i≠j→∀(d d':Nat) (u K:Value),EA l.toArray i=some d→EA l.toArray j=some d'→a.tmps[d]? =some u→a.tmps[d']? =some K→∀b b',KM u=some b→KM K=some b'→b≠b')→
   (∀(m2:SM) (D:Act) (w2:World) (Q:BB),Wd B Q w2→bJ P l (Qx ex RR (W P ex RR cs N)) B n m2 J Q R C G→Fr n D m2→(∀(i:Nat) (u:Value),a.tmps[i]? =some u→D.tmps[i]? =some u)→Kp D w2)→
   o1.wp P a w Kp (Qx ex RR (W P ex RR cs N))∨(o1.asks P a w∧LetsOut (Qx ex RR (W P ex RR cs N))):=by
  intro a w J Kp g1 g2 g3 g4 gd hK
  obtain⟨fr,q1,q2⟩:=Ih (a:=a) (n:=n) _ _ (av (Fp a) J g2) (λp hp=>by
   have e:=iT.1 ar p hp
   simp only[iQ,jI] at e
   have e1:p.1<l.toArray.size:=by have:=e.1.1.1;simp [Nat.blt] at this ⊢;omega
   have e3:p.1∉q::C:=λh=>by rw[iV.2 h] at e;cases e.1.1.2
   have e4:p.1∉G:=λh=>by rw[iV.2 h] at e;cases e.1.2
   obtain⟨d,v,q1,q2,q3⟩:=g4 p.1 e1 e3 e4
   have e2:=e.2
   rw[q1] at e2
   have:p.2=d:=iX (by simpa using e2)
   exact⟨v,by rw[this];exact q2,q3⟩) ⟨g3.dfr,g3.siz,λi v y=>by simp [lk] at y⟩
  have am:U6 (Oi l.toArray As) (lk fr):=by
   intro s hs s' a3 V u K e e'
   obtain⟨i,y,hd⟩:=lJ.1 hs
   obtain⟨j,hj,ae⟩:=lJ.1 a3
   exact gd i y j hj (λe=>V (by subst e;rw[hd] at ae;exact jH ae)) _ _ _ _ hd ae (q2.at_ _ _ e) (q2.at_ _ _ e')
  have X:Fr n a (fr++m++Fp a):=(q2.append g3).append g3.full
  have a4:∀(D:Act),Fr n D (fr++m++Fp a)→∀(i:Nat) (u:Value),a.tmps[i]? =some u→D.tmps[i]? =some u:=by
   intro D Y i u hu
   have H:lk (Fp a) i=some u:=by
    have:i<a.tmps.size:=(jM.1 hu).1
    rw[MM this]
    simp [kC,hu]
   have a5:∃K,lk (fr++m++Fp a) i=some K:=by
    rw[HG,H]
    cases lk (fr++m) i with
    |some x=>exact⟨x,by simp⟩
    |none=>exact⟨u,by simp⟩
   obtain⟨K,an⟩:=a5
   have h5:=X.at_ i K an
   rw[hu] at h5
   have h6:=Y.at_ i K an
   rw[h6,jH h5]
  have af:∀(D:Act),Fr n D (fr++m++Fp a)→Fr n D (fr++m):=λD Y=>⟨Y.dfr,Y.siz,λi v y=>Y.at_ i v (by rw[HG,y];rfl)⟩
  refine(G3 ac (q1 am a w X g1)).imp (Oper.wp_mono ?_) λx=>x
  rintro D w2 ⟨p1,Q,M,p3⟩
  exact hK _ D w2 Q M p3 (af D p1) (a4 D p1)
 have lt:∀i d,EA l.toArray i=some d→i<l.toArray.size:=λi d q1=>by
  unfold EA at q1
  cases ao:l.toArray[i]? with
  |none=>rw[ao] at q1;cases q1
  |some oj=>exact(jM.1 ao).1
 have a6:∀(I:Nat) (g:Array Bool) (a:Act) (w:World),Oq g=I+1→On l.toArray (q::C) g→Sx B h n m l.toArray (q::C++[]) As ZB.none R g a w→(∀i,i<l.toArray.size→i∉q::C→i∉G→g.getD i false=true)→q∈Region.ready .any l.toArray g→wpOp P l.toArray (Qx ex RR (W P ex RR cs N)) q (wpAny P .any l.toArray (Qx ex RR (W P ex RR cs N)) I (g.setIfInBounds q true)) a w:=by
  intro I g a w hu a7 ai H hr
  obtain⟨J,g1,g2,g3,g4⟩:=ai.ex
  have Z:∀i,i∉q::C→g.getD i false=true→∃d v,EA l.toArray i=some d∧a.tmps[d]? =some v∧R i v J:=λi y H=>g4 i (by rw[jW];exact y) H
  unfold wpOp
  have ho:l.toArray[q]? =some o1:=by simpa using ah
  simp only[ho]
  rw[iR (by simp [Region.wanted,ac])]
  exact U a w J _ g1 g2 g3 (λi p1 M p3=>Z i M (H i p1 M p3)) (λi y j hj V d d' u K e1 e2 e3 e4=>ai.dis i y j hj V (H i (lt _ _ e1) (A i y).1 (A i y).2) (H j (lt _ _ e2) (A j hj).1 (A j hj).2) d d' u K e1 e2 e3 e4)
   λm2 D w2 Q M p3 p4 p5=>p3.run aw hQ hu a7 hr H Z M p4 p5
 refine λrd a8=>M3 a8 Kb hm (Pm (R:=R) (B:=B) (h0:=h) (n:=n) (m:=m) (q::C) [] As ZB.none bS.none (λz hz=>by cases hz) au (λt ht=>by have:=iT.1 c1 t ht;simp [Nat.blt] at this ⊢;omega) c2 c6 F G (.inr rfl) (.inr (by rw[jW];exact c3)) (Ko c4) c5 c7 hQ (λf hf=>⟨az f hf,λsl h=>by cases h⟩) (λf hf=>hF.at_ f hf) (by rw[jW];exact aa) ad (λi y=>by rw[jW];exact(A i y).1) (λi o d y ho hd=>?_) (λa w h' g1 g2 g3 g4 g5 _=>?_) (.inr ⟨a1,λba bb e I g a w=>by cases e;exact a6 I g a w⟩) _ _ _ _ ?_ ⟨by simp,λj oj _ H=>(by rw[getD_replicate_false] at H;cases H),λt ht=>getD_in (by have:=iT.1 c1 t ht;simp [Nat.blt] at this ⊢;omega) (getD_replicate_false _ _)⟩ (λi y=>by cases y) ⟨⟨h,hw.drew,FW.refl h,hf.sub aj,λi _ H=>(by rw[getD_replicate_false] at H;cases H)⟩,λi _ j _ _ H=>(by rw[getD_replicate_false] at H;cases H),λz hz=>by cases hz⟩)
 ·rw[jW] at y
  have ap:l[i]? =some o:=by simpa using ho
  obtain⟨ps,q1,q2⟩:=By.at_ (k:=0) step al (by rw[jR];exact y) ap hd
  rw[jR] at q2
  refine⟨ps,?_,λ_ _=>jL,q2⟩
  have hz:((o,ps),i)∈(l.zip pss).zipIdx:=by
   rw[kJ]
   exact⟨i,by rw[List.getElem?_zipIdx,(nB (z:=(o,ps))).2 ⟨ap,q1⟩];simp⟩
  have:=iT.1 ab.2 _ hz
  rw[jC] at this
  exact this.resolve_left λh=>y (iV.1 h)
 ·have a9:q∉G:=λh=>by
   have:=iT.1 ax q h
   simp at this
  have Z:∀i,i<l.toArray.size→i∉q::C→∃d v,EA l.toArray i=some d∧a.tmps[d]? =some v∧R i v h':=λi J Q=>g4 i J (by rw[jW];exact Q)
  have ag:((q::C).filterMap λt=>l.toArray[t]?)=o1::(C.filterMap λt=>l[t]?):=by
   have ho:l.toArray[q]? =some o1:=by simpa using ah
   rw[List.filterMap_cons,ho]
   simp
  rw[ag]
  unfold wpList
  rw[iR (by simp [Region.wanted,ac])]
  exact U a w h' _ g1 g2 g3 (λi p1 M _=>Z i p1 M) (λi y j hj V d d' u K e1 e2 e3 e4=>g5 d (lJ.2 ⟨i,y,e1⟩) d' (lJ.2 ⟨j,hj,e2⟩) (λe=>by
    subst e
    have:=iT.1 aa i (jJ.2 (lt _ _ e1))
    simp only[jC,iV,(A i y).1,kB,e1,iQ,iT,jJ] at this
    have:=this.2 j (lt _ _ e2)
    rw[e2] at this
    simp only[(A j hj).1,kB,Option.any_some,Nat.beq_refl,jV,kW,jS] at this
    exact V (iX this)) u K e3 e4)
   λm2 D w2 Q M p3 p4 p5=>p3.fin (by simpa using a0) a9 (λi p1 M=>Z i (by simpa using p1) M) M p4 p5
 ·unfold Oq
  rw[mW]
  simp
end
end Go.Proofs.YtibidnaedddfdaaGreat
