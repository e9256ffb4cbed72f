import Derived.Test.YtedgiljmffngoaaGreatPCore30
import Derived.Test.YtedgiljmffngoaaGreatPCore6
import Derived.Test.YtedgiljmffngoaaGreatPCore18
namespace Go.Proofs.YtedgiljmffngoaaGreat
set_option linter.all false
open Go.RowKit
section
variable {P:Program}{ops:Array Oper}{Q:Exit→Act→World→Prop}{a:Act}{w:World}
def Vh {o:Oper}{K K':Act→World→Prop}(m:o.guard=none) (g:∀a w,K a w→K' a w) (h:wpList P ops (Exit.then K Q) [o] a w):wpList P ops (Exit.then K' Q) [o] a w:=by
 unfold wpList at h ⊢;rw[Aab (by simp [Region.wanted,m])] at h ⊢;rcases h with b|⟨b,i,j,h2⟩
 ·refine .inl ?_;unfold Oper.wp at b ⊢;generalize (execOp a.eval o).run P w=r at b
  cases r with
  |ok n w'=>
   cases n<;>simp only[Oper.upon] at b ⊢
   case value v=>exact g _ _ b
   case skip=>exact g _ _ b
   case defer d=>exact g _ _ b
   case enter f args=>
    refine b.mono λe k l=>?_;cases e with
    |returned v=>exact g _ _ l
    |panicked c=>exact l
    |outgrown=>obtain⟨i,j,h0⟩:=l;exact⟨i,j,h0⟩
   case row r args=>exact Rows.mono b λv k p=>g _ _ p
  |halt x w'=>cases x<;>simp only[Oper.upon] at b ⊢;exact b
 ·exact .inr ⟨b,i,j,h2⟩
end
section
variable {P:Program}{ops:Array Oper}{Q:Exit→Act→World→Prop}{B:World}{n:FN}{m:SM}{h0:AS}
def YX (As:List Nat) (R:XR):FR:=λ_ X F i v h=>R X i v h∧∀b,F b↔i∈As∧OX v=some b
def YX.fr {As:List Nat}{R:XR}{a:Nat→Value}{X:Nat→Prop}{i:Nat}{v:Value}{h:AS}(k:sZ (YX As R) a X i v h):R X i v h:=by
 obtain⟨_,_,_,k,_⟩:=k;exact k
def PA.sub {R b:AR}{h:AS}{K:SM→Prop}(c:∀i v,b i v h→R i v h):∀(a:List (Nat×Nat)) (fr:SM),PA R h K a fr→PA b h K a fr
 |[],_,k=>k
 |(_,d)::a,fr,k=>λu g=>PA.sub c a _ (k u (c _ _ g))
def YX.step {R:XR}{As:List Nat}(q:∀X i,i∈As→∀v h,R X i v h→∃b,OX v=some b∧h0.size≤b∧b<h.size) (y:∀i,i∈As→∀X s v h,R X i v h→R s i v h)
  (l:∀i v h h' X s,DT h0 h→DT h h'→(∀b,X b→s b)→(∀b,s b→X b∨h.size≤b)→R X i v h→R s i v h') {i:Nat} {o:Oper} {d:Nat} {ps:List (Nat×Nat)} (k:Tl P ops Q B n m h0 R As i o d ps):VV P ops Q B n m h0 (YX As R) i o d ps:=λD X mt h F M=>by
 have G:∀v h',DT h h'→tG (R X) As i h v h'→mQ (YX As R) D X i h v h':=λv h' U ⟨t,z⟩=>by
  by_cases p:i∈As
  ·obtain⟨b,u,V⟩:=z (Aag.2 p);obtain⟨b',H,e4,W⟩:=q X i p v h' t;rw[u] at H;cases H;exact⟨λc=>c=b,λc A=>by subst A;exact⟨V,W⟩,y i p _ _ _ _ t,λc=>⟨λh=>⟨p,by rw[h];exact u⟩,λh=>by rw[u] at h;exact(zZ h.2).symm⟩⟩
  ·refine⟨λ_=>False,λc A=>A.elim,?_,λc=>⟨λh=>h.elim,λh=>p h.1⟩⟩;exact l i v h' h' X _ (F.trans U) (DT.refl h') (λb C=> .inl C) (λb C=> .inl (C.resolve_right id)) t
 refine PA.imp (λfr j=>?_) _ _ (PA.sub (λi v Y=>YX.fr Y) _ _ (k X mt h F M));have I:∀o:Oper,o.guard=none→LF P ops (Exit.then (KS B n d (tG (R X) As i h) h (fr++(m++mt))) Q) [o] B h n (fr++(m++mt))→LF P ops (Exit.then (KS B n d (mQ (YX As R) D X i h) h (fr++(m++mt))) Q) [o] B h n (fr++(m++mt)):=λo x k a w Z hw=>Vh x (λa w ⟨v,h',q1,q2,J,q4⟩=>⟨v,h',q1,q2,J,G v h' J q4⟩) (k a w Z hw);cases x:o.guard with
 |none=>rw[x] at j;exact I o x j
 |some g=>
  rw[x] at j;obtain⟨dg,e,k⟩:=j;refine⟨dg,e,k.imp (λk=>⟨k.1,I _ rfl k.2⟩) λ⟨v,t,z,K⟩=>⟨v,t,z,G _ _ (DT.refl h) ⟨K,λp=>?_⟩⟩⟩;obtain⟨b,u,_⟩:=q X i (Aag.1 p) _ _ K;cases u
def Ud.x {R:AR}{i:Nat}{o:Oper}{d:Nat}{ps:List (Nat×Nat)}(k:Ud P ops Q B n m h0 R i o d ps):Tl P ops Q B n m h0 (λ_=>R) [] i o d ps:=λX mt h l _=>by
 refine PA.imp (λfr b=>?_) _ _ (k mt h l);have j:∀o:Oper,o.guard=none→LF P ops (Exit.then (KS B n d (R i) h (fr++(m++mt))) Q) [o] B h n (fr++(m++mt))→LF P ops (Exit.then (KS B n d (tG R [] i h) h (fr++(m++mt))) Q) [o] B h n (fr++(m++mt)):=λo c k a w p q=>Vh c (λa w ⟨v,h',s,t,u,y⟩=>⟨v,h',s,t,u,y,λh=>by cases h⟩) (k a w p q);cases c:o.guard with
 |none=>rw[c] at b;exact j o c b
 |some g=>
  rw[c] at b;obtain⟨z,e,k⟩:=b;exact⟨z,e,k.imp (λk=>⟨k.1,j _ rfl k.2⟩) λk=>k⟩
def Wc {R:XR}(l As:List Nat) (V:∀X i,i∈As→∀v h,R X i v h→∃b,OX v=some b∧h0.size≤b∧b<h.size) (W:∀i,i∈As→∀X z v h,R X i v h→R z i v h) (Y:∀t,t∈l→t<ops.size) (Z:l.Nodup) (A:PI ops=true)
  (F:List Nat) (I:l=[]∨Rx ops l F=true) (aa:L3 ops l) (ab:N4 ops l=true) (J:Region.noSelect ops=true) (hQ:∀c a w,¬Q (.panic c) a w)
  (ac:∀f,f∈F→f∉As) (hF:∀f,f∈F→(f<ops.size∧f∉l)∧Me ops f=true∧∃o d ps,ops[f]? =some o∧o.dst=some d∧TE ops o ps=true∧∀X,PU P ops n m h0 (R X) f o ps)
  (K:Ts ops l n (m.map (·.1))=true)
  (p:∀i v h h' X z,DT h0 h→DT h h'→(∀b,X b→z b)→(∀b,z b→X b∨h.size≤b)→R X i v h→R z i v h')
  (ad:∀i,i∈As→i∉l) (step:∀i o d,i∉l→ops[i]? =some o→o.dst=some d→∃ps,TE ops o ps=true∧Tl P ops Q B n m h0 R As i o d ps)
  (ae:∀a w h X,Wd B h w→DT h0 h→Fr n a m→(∀b,X b→h0.size≤b∧b<h.size)→(∀i,i<ops.size→i∉l→∃d v,HA ops i=some d∧a.tmps[d]? =some v∧R X i v h)→lE (WU ops As) (λs=>a.tmps[s]?)→xI (WU ops As) (λs=>a.tmps[s]?) X→wpList P ops Q (l.filterMap λt=>ops[t]?) a w)
  (q:Nat) (g:Array Bool) (a:Act) (w:World) (C:T5 g=q) (x:Rs ops l g) (af:∀i,g.getD i false=false) (h1:Wd B h0 w) (h2:Fr n a m):wpAny P .any ops Q q g a w:=by
 refine Wb (R:=YX As R) l Y Z A F I aa ab J hQ (λf hf=>?_) K (λM i v h h' X z F o1 o2 _ x1 x2 k=>⟨p i v h h' X z o1 o2 x1 x2 k.1,k.2⟩) (λM al X F i v h _ k=>k) (λi o d x ho hd=>?_) (λa w h fp M g1 g2 g3 g4 g5 g6=>?_) q g a w C x ⟨λ_ _=>False,λ_=>undef,h0,h1,DT.refl h0,h2,λ_ _ h=>h.elim,λ_ _ _ h=>h.elim,λ_ _ _ h=>h,λi _ hl=>by rw[af i] at hl;cases hl⟩
 ·obtain⟨q1,q2,o,d,ps,q3,q4,q5,q6⟩:=hF f hf;exact⟨q1,q2,o,d,ps,q3,q4,q5,λM X mt h hO=>PA.imp (λfr k a ha=>by
   obtain⟨v,y1,y2⟩:=k a ha;exact⟨v,y1,y2,λb=>⟨λh=>h.elim,λh=>ac f hf h.1⟩⟩) _ _ (PA.sub (λi v hv=>YX.fr hv) _ _ (q6 X mt h hO))⟩
 ·obtain⟨ps,q1,q2⟩:=step i o d x ho hd;exact⟨ps,q1,YX.step V W p q2⟩
 ·have D:∀s,s∈WU ops As→∀u,a.tmps[s]? =some u→∃i,i∈As∧HA ops i=some s∧u=M i∧∀b,OX u=some b→fp i b:=λs U u C=>by
   obtain⟨i,x,e⟩:=Ado.1 U;have ag:i<ops.size:=by
    rcases Aar i ops.size with h|h
    ·exact h
    ·unfold HA at e;rw[Adm h] at e;cases e
   obtain⟨d,G,y,_,H⟩:=g6 i ag (ad i x);rw[e] at G;cases G;rw[C] at y;cases y;exact⟨i,x,e,rfl,λb A=>(H b).2 ⟨x,A⟩⟩
  refine ae a w h (UX fp) g1 g2 g3 (λb ⟨j,hj⟩=>g4 j b hj) (λi x hk=>?_) (λs U s' ah ai u u' C aj b b' A ak e=>?_) (λs U u C b A=>?_)
  ·obtain⟨d,G,y,H,_⟩:=g6 i x hk;exact⟨d,M i,G,y,H⟩
  ·obtain⟨i,_,G,_,y⟩:=D s U u C;obtain⟨j,_,H,_,e4⟩:=D s' ah u' aj;subst e;have:=g5 i j b (y b A) (e4 b ak);subst this;rw[G] at H;exact ai (zZ H)
  ·obtain⟨i,_,_,_,y⟩:=D s U u C;exact⟨i,y b A⟩
end
def pK (ops:Array Oper) (a:Nat) (F:List Nat):Bool:=Nat.ble a ops.size&&WX ops (List.range' a (ops.size-a)) F
def YO {α}(l:List α):∀(j a:Nat),l.length-a=j→(List.range' a j).filterMap (λt=>l[t]?)=l.drop a
 |0,a,h=>by rw[Acj (by omega)];rfl
 |j+1,a,h=>by
  have b:a<l.length:=by omega
  rw[List.range'_succ,List.filterMap_cons_some (Aao b),YO l j (a+1) (by omega),←Acz b]
section
variable {P:Program}{ex:List (Nat×AP)}{RR N:AP}{cs:List Code}{B:World}{h:AS}{n:FN}{m m0:SM}{S:Nat→Prop}{L:List HP}
def YZ {l:List Oper}{id:Nat}(g F As:List Nat) (R:XR) (pss:List (List (Nat×Nat))) (fs:List (Nat×Nat)) {ls:List Oper}(hm:P.follows .mixedOrders=true) (hc:WX l.toArray g F=true) (ms:List Nat) (aa:m.map (·.1)=ms) (H:Ts l.toArray g n ms=true)
  (A:TD l.toArray g l pss=true) (ab:(fs.all λp=>Nat.blt p.1 l.length&& !g.contains p.1&&(HA l.toArray p.1).any (Nat.beq p.2 ·))=true) (ac:(g.filterMap λt=>l[t]?)=ls) (I:Ty m0 m)
  (C:∀i v D Y X Z,DT h D→DT D Y→(∀b,X b→Z b)→(∀b,Z b→X b∨D.size≤b)→R X i v D→R Z i v Y)
  (ad:(As.all λi=> !g.contains i&& !F.contains i)=true) (J:∀i,i∈As→kU h R i)
  (hF:RC P l.toArray g n m h R F)
  (step:Fq P l.toArray (Qx ex RR (W P ex RR cs N)) B n m h R g As 0 l pss)
  (ae:∀h' X,DT h h'→(∀b,X b→h.size≤b∧b<h'.size)→PA (R X) h' (λfr=>lE (WU l.toArray As) (lk fr)→xI (WU l.toArray As) (lk fr) X→LF P l.toArray (Qx ex RR (W P ex RR cs N)) ls B h' n (fr++m)) fs []):WF P ex RR (.region id l.toArray true::cs) N B h n m0:=by
 intro a w K hw;subst aa;simp only[WX,Aaa,Aay,Aam] at hc;obtain⟨⟨⟨⟨⟨⟨D,Y⟩,h3⟩,h4⟩,h5⟩,h6⟩,h7⟩:=hc;simp only[TD,Aaa] at A;have M:l.length=pss.length:=Aah A.1;have y:∀i,i∈As→i∉g∧i∉F:=λi q=>by
  have:=Aaf.1 ad i q;simp only[Aaa,Aau] at this;exact⟨λh=>(by rw[Aag.2 h] at this;cases this.1),λh=>(by rw[Aag.2 h] at this;cases this.2)⟩
 refine λrd af=>Ov af NI hm (Wc (R:=R) (B:=B) (h0:=h) (n:=n) (m:=m) g As (λX i q v h' Q=>by obtain⟨r,U,e2⟩:=J i q;rw[U] at Q;exact e2 v h' Q) (λi q X Z v h' Q=>by obtain⟨r,U,_⟩:=J i q;rw[U] at Q ⊢;exact Q) (λt ht=>by have:=Aaf.1 D t ht;simp [Nat.blt] at this ⊢;omega) Y h6 F (h3.imp (λe=>by cases g with|nil=>rfl|cons _ _=>simp at e) λx=>x) (JO h4) h5 h7 (λc a w hq=>hq) (λf K hA=>(y f hA).2 K) (λf K=>hF.at_ f K) H C (λi q=>(y i q).1) (λi o d q ho hd=>?_) (λa w h' X g1 g2 g3 gX g4 g5 g6=>?_) _ _ _ _ ?_ ⟨by simp,λj oj _ hl=>(by rw[getD_replicate_false] at hl;cases hl),λt ht=>getD_in (by have:=Aaf.1 D t ht;simp [Nat.blt] at this ⊢;omega) (getD_replicate_false _ _)⟩ (λi=>getD_replicate_false _ _) hw.drew (K.sub I))
 ·have G:l[i]? =some o:=by simpa using ho
  obtain⟨ps,q1,q2⟩:=Fq.at_ (k:=0) step M (by rw[Aa7];exact q) G hd;rw[Aa7] at q2;refine⟨ps,?_,q2⟩;have ai:i<l.length:=(Aai.1 G).1;have hz:((o,ps),i)∈(l.zip pss).zipIdx:=by
   rw[Ab3];exact⟨i,by rw[Adq,(Adr (z:=(o,ps))).2 ⟨G,q1⟩];simp⟩
  have:=Aaf.1 A.2 _ hz;simp only[Aay,Aag,q,Ab0] at this;exact this
 ·obtain⟨fr,k1,k2⟩:=LR (a:=a) (n:=n) _ _ (ae h' X g2 gX) (λp hp=>by
   have e:=Aaf.1 ab p hp;simp only[Aaa,Aau] at e;have U:p.1<l.toArray.size:=by have:=e.1.1;simp [Nat.blt] at this ⊢;omega
   obtain⟨d,v,q1,q2,q3⟩:=g4 p.1 U (λh=>by rw[Aag.2 h] at e;cases e.1.2);have e2:=e.2;rw[q1] at e2;have:p.2=d:=Aah (by simpa using e2);exact⟨v,by rw[this];exact q2,q3⟩) ⟨g3.dfr,g3.siz,λi v q=>by simp [lk] at q⟩
  have V:(g.filterMap λt=>l.toArray[t]?)=ls:=by rw[←ac];congr 1;funext t;simp
  rw[V];exact k1 (λs hs s' ag ah u u' e e'=>g5 s hs s' ag ah u u' (k2.at_ _ _ e) (k2.at_ _ _ e')) (λs hs u e=>g6 s hs u (k2.at_ _ _ e)) a w (k2.append g3) g1
 ·unfold T5;rw[Ads];simp
def Ta {l:List Oper}{id:Nat}(b:Nat) (F:List Nat) (R:AR) (pss:List (List (Nat×Nat))) (fs:List (Nat×Nat)) (hm:P.follows .mixedOrders=true) (hc:pK l.toArray b F=true) (ms:List Nat) (G:m.map (·.1)=ms) (z:Ts l.toArray (List.range' b (l.toArray.size-b)) n ms=true)
  (H:W7 l.toArray (l.take b) pss=true) (I:(fs.all λp=>Nat.blt p.1 b&&(HA l.toArray p.1).any (Nat.beq p.2 ·))=true) (A:Ty m0 m)
  (q:∀i v s u,DT h s→DT s u→R i v s→R i v u)
  (hF:Rv P l.toArray b n m h R F)
  (step:AV P l.toArray (Qx ex RR (W P ex RR cs N)) B n m h R 0 (l.take b) pss)
  (J:∀h',DT h h'→PA R h' (λfr=>LF P l.toArray (Qx ex RR (W P ex RR cs N)) (l.drop b) B h' n (fr++m)) fs []):WF P ex RR (.region id l.toArray true::cs) N B h n m0:=by
 intro a w C hw;subst G;simp only[pK,WX,Aaa,Aay,Aam] at hc;obtain⟨h0,⟨⟨⟨⟨⟨s,u⟩,h3⟩,h4⟩,h5⟩,h6⟩,h7⟩:=hc;have ab:b≤l.toArray.size:=Acr h0;have g:∀t,t∈List.range' b (l.toArray.size-b)↔b≤t∧t<l.toArray.size:=λt=>by rw[List.mem_range'_1];omega
 refine λrd K=>Ov K NI hm (Wc (R:=λ_=>R) (B:=B) (h0:=h) (n:=n) (m:=m) (List.range' b (l.toArray.size-b)) [] (λX i k=>by cases k) (λi k=>by cases k) (λt M=>((g t).1 M).2) u h6 F (h3.imp (λe=>List.isEmpty_iff.1 e) λx=>x) (JO h4) h5 h7 (λc a w hq=>hq) (λf C hA=>by cases hA) (λf C=>by
  obtain⟨D,y,o,d,ps,Q,q4,q5,q6⟩:=hF.at_ f C;exact⟨⟨by omega,λh=>by have:=(g f).1 h;omega⟩,y,o,d,ps,Q,q4,q5,λ_=>q6⟩) z (λi v s u _ _ o1 o2 _ _ r=>q i v s u o1 o2 r) (λi k=>by cases k) (λi o d k U hd=>?_) (λa w h' X g1 g2 V gX g4 g5 g6=>?_) _ _ _ _ ?_ ⟨by simp,λj oj _ hl=>(by rw[getD_replicate_false] at hl;cases hl),λt M=>getD_in (by have:=((g t).1 M).2;simp at this ⊢;omega) (getD_replicate_false _ _)⟩ (λi=>getD_replicate_false _ _) hw.drew (C.sub A))
 ·have Y:i<l.toArray.size:=by
   rcases Aar i l.toArray.size with h|h
   ·exact h
   ·rw[Adm h] at U;cases U
  have Z:i<b:=by
   rcases Aar i b with h|h
   ·exact h
   ·exact absurd ((g i).2 ⟨h,Y⟩) k
  have aa:(l.take b)[i]? =some o:=by rw[Abr Z];simpa using U
  obtain⟨ps,D,y⟩:=AV.at_ step H aa hd;rw[Aa7] at y;exact⟨ps,D,y.x⟩
 ·obtain⟨fr,k1,k2⟩:=LR (a:=a) (n:=n) _ _ (J h' g2) (λp hp=>by
   have e:=Aaf.1 I p hp;simp only[Aaa] at e;have e1:p.1<b:=(by simpa [Nat.blt] using e.1:p.1+1≤b)
   obtain⟨d,v,D,y,Q⟩:=g4 p.1 (by omega) (λh=>by have:=(g p.1).1 h;omega);have e2:=e.2;rw[D] at e2;have:p.2=d:=Aah (by simpa using e2);exact⟨v,by rw[this];exact y,Q⟩) ⟨V.dfr,V.siz,λi v k=>by simp [lk] at k⟩
  rw[show (List.range' b (l.toArray.size-b)).filterMap (λt=>l.toArray[t]?)=l.drop b from by
   simp only[List.getElem?_toArray,Acw];exact YO l _ b rfl]
  exact k1 a w (k2.append V) g1
 ·unfold T5;rw[Ads];simp
def OJ {l:List Oper}{id:Nat}(a:Nat) (R:AR) (pss:List (List (Nat×Nat))) (g:List (Nat×Nat)) (u:P.follows .mixedOrders=true) (w:pK l.toArray a []=true) (ms:List Nat) (j:m.map (·.1)=ms) (c:Ts l.toArray (List.range' a (l.toArray.size-a)) n ms=true)
  (k:W7 l.toArray (l.take a) pss=true) (o:(g.all λp=>Nat.blt p.1 a&&(HA l.toArray p.1).any (Nat.beq p.2 ·))=true) (d:Ty m0 m)
  (b:∀i v q t,DT h q→DT q t→R i v q→R i v t)
  (step:AV P l.toArray (Qx ex RR (W P ex RR cs N)) B n m h R 0 (l.take a) pss)
  (s:∀h',DT h h'→PA R h' (λfr=>LF P l.toArray (Qx ex RR (W P ex RR cs N)) (l.drop a) B h' n (fr++m)) g []):WF P ex RR (.region id l.toArray true::cs) N B h n m0:=Ta a [] R pss g u w ms j c k o d b trivial step s
end
section
variable {P:Program}
end
section
variable {P:Program}{ops:Array Oper}{C:World→Prop}{Q:Act→Prop}{n:FN}{m:SM}{rest:List Oper}{d:Nat}{ty:TypeId}{pos:String}{af:Array Edge}{X Y:Operand}{t2:TypeId}
end
section
variable {P:Program}{ex:List (Nat×AP)}{RR N:AP}{cs:List Code}{B:World}{h:AS}{n:FN}{m m0:SM}
end
abbrev vI (n:Int):Value:= .int .i64 n
abbrev vP (b o:Nat):Value:= .pointer (some ⟨b,o,none⟩)
abbrev vN:Value:= .slice none 0 0
section
variable {P:Program}{ops:Array Oper}{C:World→Prop}{Q:Act→Prop}{n:FN}{m m':SM}{rest:List Oper}
variable {d:Nat}{ty:TypeId}{pos:String}{af:Array Edge}{X Y:Operand}{t t1 t2:TypeId}{x y:Int}{kd:IntKind}{v p:Value}
def BP (e:(BV m X,Nat.blt d n.1)=(some v,true)) (k:QF P ops C Q rest n ((d,v)::m)):QF P ops C Q (⟨some d,.move X,ty,pos,af,none⟩::rest) n m:=
 LC (zW (λz=>z.1) e) (zW (λz=>z.2) e) k
def Ke (e:(BV m X,Nat.blt d n.1)=(some v,true)) (k:QF P ops C Q rest n ((d,v)::m)):QF P ops C Q (⟨some d,.assign X,ty,pos,af,none⟩::rest) n m:=
 Mq (zW (λz=>z.1) e) (zW (λz=>z.2) e) k
def Ph {b}(e:(BV m X,Nat.blt d n.1)=(some (.bool b),true)) (k:QF P ops C Q rest n ((d,.bool (!b))::m)):QF P ops C Q (⟨some d,.unOp .not t1 X,ty,pos,af,none⟩::rest) n m:=
 fI (zW (λz=>z.1) e) (zW (λz=>z.2) e) k
def Bw {o:Oper}{j e:Nat}{b:Bool}(e:(o.guard,(ops[j]?).bind (·.dst),lk m e)=(some (j,b),some e,some (.bool b))) (k:QF P ops C Q ({ o with guard:=none}::rest) n m):QF P ops C Q (o::rest) n m:=
 Yn (zW (λz=>z.1) e) (zW (λz=>z.2.1) e) (zW (λz=>z.2.2) e) k
def Ec {c X Y:Operand}{b:Bool}(e:(BV m c,BV m (if b then X else Y),Nat.blt d n.1)=(some (.bool b),some v,true)) (k:QF P ops C Q rest n ((d,v)::m)):QF P ops C Q (⟨some d,.pick c X Y,ty,pos,af,none⟩::rest) n m:=
 Q6 (zW (λz=>z.1) e) (zW (λz=>z.2.1) e) (zW (λz=>z.2.2) e) k
def K1 (e:(BV m X,BV m Y,Nat.blt d n.1)=(some (.int kd x),some (.int kd y),true)) (k:QF P ops C Q rest n ((d,.bool (decide (x<y)))::m)):QF P ops C Q (⟨some d,.binOp .lss t1 X Y t2,ty,pos,af,none⟩::rest) n m:=
 fM (zW (λz=>z.1) e) (zW (λz=>z.2.1) e) (zW (λz=>z.2.2) e) k
def kI (e:(BV m X,BV m Y,Nat.blt d n.1)=(some (.int kd x),some (.int kd y),true)) (k:QF P ops C Q rest n ((d,.bool (decide (x≤y)))::m)):QF P ops C Q (⟨some d,.binOp .leq t1 X Y t2,ty,pos,af,none⟩::rest) n m:=
 fN (zW (λz=>z.1) e) (zW (λz=>z.2.1) e) (zW (λz=>z.2.2) e) k
def JA (e:(BV m X,BV m Y,Nat.blt d n.1)=(some (.int kd x),some (.int kd y),true)) (k:QF P ops C Q rest n ((d,.bool (decide (y<x)))::m)):QF P ops C Q (⟨some d,.binOp .gtr t1 X Y t2,ty,pos,af,none⟩::rest) n m:=
 fQ (zW (λz=>z.1) e) (zW (λz=>z.2.1) e) (zW (λz=>z.2.2) e) k
def RA (e:(BV m X,BV m Y,Nat.blt d n.1)=(some (.int kd x),some (.int kd y),true)) (k:QF P ops C Q rest n ((d,.bool (decide (x=y)))::m)):QF P ops C Q (⟨some d,.binOp .eql t1 X Y t2,ty,pos,af,none⟩::rest) n m:=
 fT (zW (λz=>z.1) e) (zW (λz=>z.2.1) e) (zW (λz=>z.2.2) e) k
def Sb (e:(BV m X,BV m Y,Nat.blt d n.1)=(some (.int kd x),some (.int kd y),true)) (k:QF P ops C Q rest n ((d,.bool (decide (x≠y)))::m)):QF P ops C Q (⟨some d,.binOp .neq t1 X Y t2,ty,pos,af,none⟩::rest) n m:=
 fL (zW (λz=>z.1) e) (zW (λz=>z.2.1) e) (zW (λz=>z.2.2) e) k
def Mr (e:(BV m X,BV m Y,Nat.blt d n.1)=(some (.int .i64 x),some (.int .i64 y),true)) (k:QF P ops C Q rest n ((d,.int .i64 (A9 (x+y)))::m)):QF P ops C Q (⟨some d,.binOp .add t1 X Y t2,ty,pos,af,none⟩::rest) n m:=
 Yu (zW (λz=>z.1) e) (zW (λz=>z.2.1) e) (zW (λz=>z.2.2) e) k
def PL (e:(BV m X,BV m Y,Nat.blt d n.1)=(some (.int .i64 x),some (.int .i64 y),true)) (k:QF P ops C Q rest n ((d,.int .i64 (A9 (x-y)))::m)):QF P ops C Q (⟨some d,.binOp .sub t1 X Y t2,ty,pos,af,none⟩::rest) n m:=
 Yk (zW (λz=>z.1) e) (zW (λz=>z.2.1) e) (zW (λz=>z.2.2) e) k
def Yo {xs:Array Value}{i:Nat}{u:Value}(e:(BV m X,xs[i]?,Nat.blt d n.1)=(some (.tuple xs),some u,true)) (k:QF P ops C Q rest n ((d,u)::m)):QF P ops C Q (⟨some d,.extract X i,ty,pos,af,none⟩::rest) n m:=
 fR (zW (λz=>z.1) e) (zW (λz=>z.2.1) e) (zW (λz=>z.2.2) e) k
end
section
variable {P:Program}{ex:List (Nat×AP)}{R N:AP}{cs:List Code}{B:World}{h:AS}{n:FN}{m m':SM}
def DP {l:List Oper}{id:Nat}{y:Code}(k:QF P l.toArray (Wd B h) (λa=>∀w,Wd B h w→W P ex R (y::cs) N a w) l n m):WF P ex R (.seq (.region id l.toArray false) y::cs) N B h n m:=C6 (I0 (.inl rfl) k)
def WF.sl {l:List Oper}{id:Nat}{y:Code}(k:LF P l.toArray (Qx ex R (W P ex R (y::cs) N)) l B h n m):WF P ex R (.seq (.region id l.toArray false) y::cs) N B h n m:=C6 (B1 k)
def Dj {ops:Array Oper}{C:World→Prop}{d:Nat}{ty:TypeId}{pos:String}{af:Array Edge}{X:Operand}{v:Value}(e:(BV m X,Nat.blt d n.1)=(some v,true)) (b:Ty ((d,v)::m) m') (k:WF P ex R cs N B h n m'):QF P ops C (λa=>∀w,Wd B h w→W P ex R cs N a w) [⟨some d,.assign X,ty,pos,af,none⟩] n m:=Ke e (Ew b k)
def AG {ex:List (Nat×AP)}{R N:AP}{m:SM}{b:Bool}{k:Type}{a d r:k}{X:Operand}{x y:Code}(g:BV m X=some (.bool b)) (E:cond b a d=r) (i:b=true→a=r→WF P ex R (x::cs) N B h n m) (j:b=false→d=r→WF P ex R (y::cs) N B h n m):WF P ex R (.cond X x y::cs) N B h n m:=Tb g (λc=>i c (Gv c E)) (λc=>j c (Gw c E))
end
end Go.Proofs.YtedgiljmffngoaaGreat
