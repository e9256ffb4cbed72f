import Derived.Test.YtabonambpbofgaaGreatMCore31
import Derived.Test.YtabonambpbofgaaGreatMCore47
namespace Go.Proofs.YtabonambpbofgaaGreat
set_option linter.all false
open Go.RowKit
section
variable {P:Program}{ops:Array Oper}{Q:Exit→Act→World→Prop}{a:Act}{w:World}
def VN {o:Oper}{K K':Act→World→Prop}(m:o.guard=none) (g:∀a w,K a w→K' a w) (h:wpList P ops (Exit.then K Q) [o] a w):wpList P ops (Exit.then K' Q) [o] a w:=by
 unfold wpList at h ⊢;rw[Aav (by simp [Region.wanted,m])] at h ⊢;rcases h with b|⟨b,i,j,h2⟩
 ·refine .inl ?_;unfold Oper.wp at b ⊢;generalize (execOp a.eval o).run P w=r at b
  cases r with
  |ok n w'=>
   cases n<;>simp only[Oper.upon] at b ⊢
   case value v=>exact g _ _ b
   case skip=>exact g _ _ b
   case defer d=>exact g _ _ b
   case enter f args=>
    refine b.mono λe k l=>?_;cases e with
    |returned v=>exact g _ _ l
    |panicked c=>exact l
    |outgrown=>obtain⟨i,j,h0⟩:=l;exact⟨i,j,h0⟩
   case row r args=>exact Rows.mono b λv k p=>g _ _ p
  |halt x w'=>cases x<;>simp only[Oper.upon] at b ⊢;exact b
 ·exact .inr ⟨b,i,j,h2⟩
end
section
variable {P:Program}{ops:Array Oper}{Q:Exit→Act→World→Prop}{B:World}{n:FN}{m:SM}{h0:AO}
def YX (As:List Nat) (R:XR):FR:=λ_ X F i v h=>R X i v h∧∀b,F b↔i∈As∧OC v=some b
def YX.fr {As:List Nat}{R:XR}{a:Nat→Value}{X:Nat→Prop}{i:Nat}{v:Value}{h:AO}(k:tG (YX As R) a X i v h):R X i v h:=by
 obtain⟨_,_,_,k,_⟩:=k;exact k
def PA.sub {R b:AR}{h:AO}{K:SM→Prop}(c:∀i v,b i v h→R i v h):∀(a:List (Nat×Nat)) (fr:SM),PA R h K a fr→PA b h K a fr
 |[],_,k=>k
 |(_,d)::a,fr,k=>λu g=>PA.sub c a _ (k u (c _ _ g))
def YX.step {R:XR}{As:List Nat}(q:∀X i,i∈As→∀v h,R X i v h→∃b,OC v=some b∧h0.size≤b∧b<h.size) (y:∀i,i∈As→∀X s v h,R X i v h→R s i v h)
  (l:∀i v h h' X s,EJ h0 h→EJ h h'→(∀b,X b→s b)→(∀b,s b→X b∨h.size≤b)→R X i v h→R s i v h') {i:Nat} {o:Oper} {d:Nat} {D:List (Nat×Nat)} (k:TR P ops Q B n m h0 R As i o d D):VI P ops Q B n m h0 (YX As R) i o d D:=λF X mt h G U=>by
 have H:∀v h',EJ h h'→tL (R X) As i h v h'→mR (YX As R) F X i h v h':=λv h' V ⟨t,z⟩=>by
  by_cases p:i∈As
  ·obtain⟨b,u,W⟩:=z (Aa3.2 p);obtain⟨b',I,e4,Y⟩:=q X i p v h' t;rw[u] at I;cases I;exact⟨λc=>c=b,λc A=>by subst A;exact⟨W,Y⟩,y i p _ _ _ _ t,λc=>⟨λh=>⟨p,by rw[h];exact u⟩,λh=>by rw[u] at h;exact(Aat h.2).symm⟩⟩
  ·refine⟨λ_=>False,λc A=>A.elim,?_,λc=>⟨λh=>h.elim,λh=>p h.1⟩⟩;exact l i v h' h' X _ (G.trans V) (EJ.refl h') (λb C=> .inl C) (λb C=> .inl (C.resolve_right id)) t
 refine PA.imp (λfr j=>?_) _ _ (PA.sub (λi v Z=>YX.fr Z) _ _ (k X mt h G U));have J:∀o:Oper,o.guard=none→LF P ops (Exit.then (KS B n d (tL (R X) As i h) h (fr++(m++mt))) Q) [o] B h n (fr++(m++mt))→LF P ops (Exit.then (KS B n d (mR (YX As R) F X i h) h (fr++(m++mt))) Q) [o] B h n (fr++(m++mt)):=λo x k a w hf hw=>VN x (λa w ⟨v,h',q1,q2,K,q4⟩=>⟨v,h',q1,q2,K,H v h' K q4⟩) (k a w hf hw);cases x:o.guard with
 |none=>rw[x] at j;exact J o x j
 |some g=>
  rw[x] at j;obtain⟨dg,e,k⟩:=j;refine⟨dg,e,k.imp (λk=>⟨k.1,J _ rfl k.2⟩) λ⟨v,t,z,M⟩=>⟨v,t,z,H _ _ (EJ.refl h) ⟨M,λp=>?_⟩⟩⟩;obtain⟨b,u,_⟩:=q X i (Aa3.1 p) _ _ M;cases u
def UJ.x {R:AR}{i:Nat}{o:Oper}{d:Nat}{j:List (Nat×Nat)}(k:UJ P ops Q B n m h0 R i o d j):TR P ops Q B n m h0 (λ_=>R) [] i o d j:=λX mt h p _=>by
 refine PA.imp (λfr b=>?_) _ _ (k mt h p);have l:∀o:Oper,o.guard=none→LF P ops (Exit.then (KS B n d (R i) h (fr++(m++mt))) Q) [o] B h n (fr++(m++mt))→LF P ops (Exit.then (KS B n d (tL R [] i h) h (fr++(m++mt))) Q) [o] B h n (fr++(m++mt)):=λo c k a w q s=>VN c (λa w ⟨v,h',t,u,y,z⟩=>⟨v,h',t,u,y,z,λh=>by cases h⟩) (k a w q s);cases c:o.guard with
 |none=>rw[c] at b;exact l o c b
 |some g=>
  rw[c] at b;obtain⟨A,e,k⟩:=b;exact⟨A,e,k.imp (λk=>⟨k.1,l _ rfl k.2⟩) λk=>k⟩
def WM {R:XR}(ks As:List Nat) (V:∀X i,i∈As→∀v h,R X i v h→∃b,OC v=some b∧h0.size≤b∧b<h.size) (W:∀i,i∈As→∀X z v h,R X i v h→R z i v h) (Y:∀t,t∈ks→t<ops.size) (Z:ks.Nodup) (A:Qj ops=true)
  (F:List Nat) (I:ks=[]∨SW ops ks F=true) (aa:Oh ops ks) (ab:PJ ops ks=true) (J:Region.noSelect ops=true) (hQ:∀c a w,¬Q (.panic c) a w)
  (ac:∀f,f∈F→f∉As) (hF:∀f,f∈F→(f<ops.size∧f∉ks)∧Ml ops f=true∧∃o d q,ops[f]? =some o∧o.dst=some d∧Sj ops o q=true∧∀X,O9 P ops n m h0 (R X) f o q)
  (K:Ua ops ks n (m.map (·.1))=true)
  (l:∀i v h h' X z,EJ h0 h→EJ h h'→(∀b,X b→z b)→(∀b,z b→X b∨h.size≤b)→R X i v h→R z i v h')
  (ad:∀i,i∈As→i∉ks) (step:∀i o d,i∉ks→ops[i]? =some o→o.dst=some d→∃q,Sj ops o q=true∧TR P ops Q B n m h0 R As i o d q)
  (ae:∀a w h X,Wd B h w→EJ h0 h→Fr n a m→(∀b,X b→h0.size≤b∧b<h.size)→(∀i,i<ops.size→i∉ks→∃d v,H6 ops i=some d∧a.tmps[d]? =some v∧R X i v h)→kV (WA ops As) (λs=>a.tmps[s]?)→yB (WA ops As) (λs=>a.tmps[s]?) X→wpList P ops Q (ks.filterMap λt=>ops[t]?) a w)
  (p:Nat) (g:Array Bool) (a:Act) (w:World) (C:Wa g=p) (x:Rx ops ks g) (af:∀i,g.getD i false=false) (h1:Wd B h0 w) (h2:Fr n a m):wpAny P .any ops Q p g a w:=by
 refine WL (R:=YX As R) ks Y Z A F I aa ab J hQ (λf hf=>?_) K (λM i v h h' X z F o1 o2 _ x1 x2 k=>⟨l i v h h' X z o1 o2 x1 x2 k.1,k.2⟩) (λM al X F i v h _ k=>k) (λi o d x ho hd=>?_) (λa w h fp M g1 g2 g3 g4 g5 g6=>?_) p g a w C x ⟨λ_ _=>False,λ_=>undef,h0,h1,EJ.refl h0,h2,λ_ _ h=>h.elim,λ_ _ _ h=>h.elim,λ_ _ _ h=>h,λi _ hl=>by rw[af i] at hl;cases hl⟩
 ·obtain⟨q1,q2,o,d,q,q3,q4,q5,q6⟩:=hF f hf;exact⟨q1,q2,o,d,q,q3,q4,q5,λM X mt h hO=>PA.imp (λfr k a ha=>by
   obtain⟨v,y1,y2⟩:=k a ha;exact⟨v,y1,y2,λb=>⟨λh=>h.elim,λh=>ac f hf h.1⟩⟩) _ _ (PA.sub (λi v hv=>YX.fr hv) _ _ (q6 X mt h hO))⟩
 ·obtain⟨q,q1,q2⟩:=step i o d x ho hd;exact⟨q,q1,YX.step V W l q2⟩
 ·have D:∀s,s∈WA ops As→∀u,a.tmps[s]? =some u→∃i,i∈As∧H6 ops i=some s∧u=M i∧∀b,OC u=some b→fp i b:=λs U u C=>by
   obtain⟨i,x,e⟩:=Ady.1 U;have ag:i<ops.size:=by
    rcases Abb i ops.size with h|h
    ·exact h
    ·unfold H6 at e;rw[Ad6 h] at e;cases e
   obtain⟨d,G,y,_,H⟩:=g6 i ag (ad i x);rw[e] at G;cases G;rw[C] at y;cases y;exact⟨i,x,e,rfl,λb A=>(H b).2 ⟨x,A⟩⟩
  refine ae a w h (UX fp) g1 g2 g3 (λb ⟨j,hj⟩=>g4 j b hj) (λi x hk=>?_) (λs U s' ah ai u u' C aj b b' A ak e=>?_) (λs U u C b A=>?_)
  ·obtain⟨d,G,y,H,_⟩:=g6 i x hk;exact⟨d,M i,G,y,H⟩
  ·obtain⟨i,_,G,_,y⟩:=D s U u C;obtain⟨j,_,H,_,e4⟩:=D s' ah u' aj;subst e;have:=g5 i j b (y b A) (e4 b ak);subst this;rw[G] at H;exact ai (Aat H)
  ·obtain⟨i,_,_,_,y⟩:=D s U u C;exact⟨i,y b A⟩
end
def pZ (ops:Array Oper) (a:Nat) (F:List Nat):Bool:=Nat.ble a ops.size&&WC ops (List.range' a (ops.size-a)) F
def YD {α}(l:List α):∀(j a:Nat),l.length-a=j→(List.range' a j).filterMap (λt=>l[t]?)=l.drop a
 |0,a,h=>by rw[Acz (by omega)];rfl
 |j+1,a,h=>by
  have b:a<l.length:=by omega
  rw[List.range'_succ,List.filterMap_cons_some (Aa1 b),YD l j (a+1) (by omega),←Ade b]
section
variable {P:Program}{ex:List (Nat×AP)}{RR N:AP}{cs:List Code}{B:World}{h:AO}{n:FN}{m m0:SM}{S:Nat→Prop}{L:List HP}
def YO {l:List Oper}{id:Nat}(ks F As:List Nat) (R:XR) (pss:List (List (Nat×Nat))) (fs:List (Nat×Nat)) {ls:List Oper}(hm:P.follows .mixedOrders=true) (hc:WC l.toArray ks F=true) (ms:List Nat) (aa:m.map (·.1)=ms) (G:Ua l.toArray ks n ms=true)
  (y:UY l.toArray ks l pss=true) (ab:(fs.all λp=>Nat.blt p.1 l.length&& !ks.contains p.1&&(H6 l.toArray p.1).any (Nat.beq p.2 ·))=true) (ac:(ks.filterMap λt=>l[t]?)=ls) (H:UH m0 m)
  (A:∀i v C V X Y,EJ h C→EJ C V→(∀b,X b→Y b)→(∀b,Y b→X b∨C.size≤b)→R X i v C→R Y i v V)
  (ad:(As.all λi=> !ks.contains i&& !F.contains i)=true) (I:∀i,i∈As→kO h R i)
  (hF:Pj P l.toArray ks n m h R F)
  (step:FB P l.toArray (Qx ex RR (W P ex RR cs N)) B n m h R ks As 0 l pss)
  (ae:∀h' X,EJ h h'→(∀b,X b→h.size≤b∧b<h'.size)→PA (R X) h' (λfr=>kV (WA l.toArray As) (lk fr)→yB (WA l.toArray As) (lk fr) X→LF P l.toArray (Qx ex RR (W P ex RR cs N)) ls B h' n (fr++m)) fs []):WF P ex RR (.region id l.toArray true::cs) N B h n m0:=by
 intro a w J hw;subst aa;simp only[WC,Aax,Abh,Abd] at hc;obtain⟨⟨⟨⟨⟨⟨C,V⟩,h3⟩,h4⟩,h5⟩,h6⟩,h7⟩:=hc;simp only[UY,Aax] at y;have K:l.length=pss.length:=Aa2 y.1;have q:∀i,i∈As→i∉ks∧i∉F:=λi g=>by
  have:=Aa0.1 ad i g;simp only[Aax,Abl] at this;exact⟨λh=>(by rw[Aa3.2 h] at this;cases this.1),λh=>(by rw[Aa3.2 h] at this;cases this.2)⟩
 refine λrd af=>Pr af M7 hm (WM (R:=R) (B:=B) (h0:=h) (n:=n) (m:=m) ks As (λX i g v h' M=>by obtain⟨r,Q,Z⟩:=I i g;rw[Q] at M;exact Z v h' M) (λi g X Y v h' M=>by obtain⟨r,Q,_⟩:=I i g;rw[Q] at M ⊢;exact M) (λt ht=>by have:=Aa0.1 C t ht;simp [Nat.blt] at this ⊢;omega) V h6 F (h3.imp (λe=>by cases ks with|nil=>rfl|cons _ _=>simp at e) λx=>x) (MZ h4) h5 h7 (λc a w hq=>hq) (λf J hA=>(q f hA).2 J) (λf J=>hF.at_ f J) G A (λi g=>(q i g).1) (λi o d g ho hd=>?_) (λa w h' X g1 g2 g3 gX g4 g5 g6=>?_) _ _ _ _ ?_ ⟨by simp,λj oj _ hl=>(by rw[getD_replicate_false] at hl;cases hl),λt ht=>getD_in (by have:=Aa0.1 C t ht;simp [Nat.blt] at this ⊢;omega) (getD_replicate_false _ _)⟩ (λi=>getD_replicate_false _ _) hw.drew (J.sub H))
 ·have D:l[i]? =some o:=by simpa using ho
  obtain⟨ps,q1,q2⟩:=FB.at_ (k:=0) step K (by rw[Abt];exact g) D hd;rw[Abt] at q2;refine⟨ps,?_,q2⟩;have ai:i<l.length:=(Aa4.1 D).1;have hz:((o,ps),i)∈(l.zip pss).zipIdx:=by
   rw[Acv];exact⟨i,by rw[List.getElem?_zipIdx,(Aej (z:=(o,ps))).2 ⟨D,q1⟩];simp⟩
  have:=Aa0.1 y.2 _ hz;simp only[Abh,Aa3,g,Ace] at this;exact this
 ·obtain⟨fr,k1,k2⟩:=Mq (a:=a) (n:=n) _ _ (ae h' X g2 gX) (λp hp=>by
   have e:=Aa0.1 ab p hp;simp only[Aax,Abl] at e;have Q:p.1<l.toArray.size:=by have:=e.1.1;simp [Nat.blt] at this ⊢;omega
   obtain⟨d,v,q1,q2,q3⟩:=g4 p.1 Q (λh=>by rw[Aa3.2 h] at e;cases e.1.2);have Z:=e.2;rw[q1] at Z;have:p.2=d:=Aa2 (by simpa using Z);exact⟨v,by rw[this];exact q2,q3⟩) ⟨g3.dfr,g3.siz,λi v g=>by simp [lk] at g⟩
  have U:(ks.filterMap λt=>l.toArray[t]?)=ls:=by rw[←ac];congr 1;funext t;simp
  rw[U];exact k1 (λs hs s' ag ah u u' e e'=>g5 s hs s' ag ah u u' (k2.at_ _ _ e) (k2.at_ _ _ e')) (λs hs u e=>g6 s hs u (k2.at_ _ _ e)) a w (k2.append g3) g1
 ·unfold Wa;rw[Array.toList_replicate];simp
def TD {l:List Oper}{id:Nat}(b:Nat) (F:List Nat) (R:AR) (pss:List (List (Nat×Nat))) (fs:List (Nat×Nat)) (hm:P.follows .mixedOrders=true) (hc:pZ l.toArray b F=true) (ms:List Nat) (G:m.map (·.1)=ms) (z:Ua l.toArray (List.range' b (l.toArray.size-b)) n ms=true)
  (H:Wp l.toArray (l.take b) pss=true) (I:(fs.all λp=>Nat.blt p.1 b&&(H6 l.toArray p.1).any (Nat.beq p.2 ·))=true) (A:UH m0 m)
  (q:∀i v s u,EJ h s→EJ s u→R i v s→R i v u)
  (hF:RM P l.toArray b n m h R F)
  (step:A3 P l.toArray (Qx ex RR (W P ex RR cs N)) B n m h R 0 (l.take b) pss)
  (J:∀h',EJ h h'→PA R h' (λfr=>LF P l.toArray (Qx ex RR (W P ex RR cs N)) (l.drop b) B h' n (fr++m)) fs []):WF P ex RR (.region id l.toArray true::cs) N B h n m0:=by
 intro a w C hw;subst G;simp only[pZ,WC,Aax,Abh,Abd] at hc;obtain⟨h0,⟨⟨⟨⟨⟨s,u⟩,h3⟩,h4⟩,h5⟩,h6⟩,h7⟩:=hc;have ac:b≤l.toArray.size:=Adt h0;have g:∀t,t∈List.range' b (l.toArray.size-b)↔b≤t∧t<l.toArray.size:=λt=>by rw[List.mem_range'_1];omega
 refine λrd K=>Pr K M7 hm (WM (R:=λ_=>R) (B:=B) (h0:=h) (n:=n) (m:=m) (List.range' b (l.toArray.size-b)) [] (λX i k=>by cases k) (λi k=>by cases k) (λt M=>((g t).1 M).2) u h6 F (h3.imp (λe=>List.isEmpty_iff.1 e) λx=>x) (MZ h4) h5 h7 (λc a w hq=>hq) (λf C hA=>by cases hA) (λf C=>by
  obtain⟨D,y,o,d,Q,U,q4,q5,q6⟩:=hF.at_ f C;exact⟨⟨by omega,λh=>by have:=(g f).1 h;omega⟩,y,o,d,Q,U,q4,q5,λ_=>q6⟩) z (λi v s u _ _ o1 o2 _ _ r=>q i v s u o1 o2 r) (λi k=>by cases k) (λi o d k V hd=>?_) (λa w h' X g1 g2 Y gX g4 g5 g6=>?_) _ _ _ _ ?_ ⟨by simp,λj oj _ hl=>(by rw[getD_replicate_false] at hl;cases hl),λt M=>getD_in (by have:=((g t).1 M).2;simp at this ⊢;omega) (getD_replicate_false _ _)⟩ (λi=>getD_replicate_false _ _) hw.drew (C.sub A))
 ·have Z:i<l.toArray.size:=by
   rcases Abb i l.toArray.size with h|h
   ·exact h
   ·rw[Ad6 h] at V;cases V
  have aa:i<b:=by
   rcases Abb i b with h|h
   ·exact h
   ·exact absurd ((g i).2 ⟨h,Z⟩) k
  have ab:(l.take b)[i]? =some o:=by rw[Acg aa];simpa using V
  obtain⟨Q,D,y⟩:=A3.at_ step H ab hd;rw[Abt] at y;exact⟨Q,D,y.x⟩
 ·obtain⟨fr,k1,k2⟩:=Mq (a:=a) (n:=n) _ _ (J h' g2) (λp hp=>by
   have e:=Aa0.1 I p hp;simp only[Aax] at e;have e1:p.1<b:=(by simpa [Nat.blt] using e.1:p.1+1≤b)
   obtain⟨d,v,D,y,U⟩:=g4 p.1 (by omega) (λh=>by have:=(g p.1).1 h;omega);have e2:=e.2;rw[D] at e2;have:p.2=d:=Aa2 (by simpa using e2);exact⟨v,by rw[this];exact y,U⟩) ⟨Y.dfr,Y.siz,λi v k=>by simp [lk] at k⟩
  rw[show (List.range' b (l.toArray.size-b)).filterMap (λt=>l.toArray[t]?)=l.drop b from by
   simp only[List.getElem?_toArray,Adx];exact YD l _ b rfl]
  exact k1 a w (k2.append Y) g1
 ·unfold Wa;rw[Array.toList_replicate];simp
def M0 {l:List Oper}{id:Nat}(a:Nat) (R:AR) (pss:List (List (Nat×Nat))) (g:List (Nat×Nat)) (w:P.follows .mixedOrders=true) (x:pZ l.toArray a []=true) (j:List Nat) (k:m.map (·.1)=j) (c:Ua l.toArray (List.range' a (l.toArray.size-a)) n j=true)
  (o:Wp l.toArray (l.take a) pss=true) (q:(g.all λp=>Nat.blt p.1 a&&(H6 l.toArray p.1).any (Nat.beq p.2 ·))=true) (d:UH m0 m)
  (b:∀i v s u,EJ h s→EJ s u→R i v s→R i v u)
  (step:A3 P l.toArray (Qx ex RR (W P ex RR cs N)) B n m h R 0 (l.take a) pss)
  (t:∀h',EJ h h'→PA R h' (λfr=>LF P l.toArray (Qx ex RR (W P ex RR cs N)) (l.drop a) B h' n (fr++m)) g []):WF P ex RR (.region id l.toArray true::cs) N B h n m0:=TD a [] R pss g w x j k c o q d b trivial step t
end
def vB:SM→SM→List Nat→Option SM
 |[],_,_=>some []
 |(k,v)::r,m,s=>match cond (s.any λj=>Nat.beq k j) (some v) (lk m k) with
  |some w=>match vB r m (k::s) with
   |some l=>some ((k,w)::l)
   |none=>none
  |none=>none
def kq:∀{c m l:SM}(s:List Nat),vB c m s=some l→c=l→∀i u,(s.any λj=>Nat.beq i j)=false→lk c i=some u→lk m i=some u
 |[],m,l,s,_,_,i,u,_,y=>by cases y
 |(k,v)::r,m,l,s,y,e,i,u,d,a=>by
  simp only[vB] at y;split at y
  ·rename_i w g;split at y
   ·rename_i x n;cases y;injection e with o p
    injection o with _ q
    simp only[lk] at a;cases b:Nat.beq k i with
    |true=>
     have:=Aa2 b;subst this;rw[b,Aaq] at a;rw[d,Aar] at g;rw[g,←q,a]
    |false=>
     rw[b,Aar] at a;refine kq (k::s) n p i u ?_ a;rw[List.any_cons,d,Bool.or_false];cases t:Nat.beq i k with
     |false=>rfl
     |true=>
      have:=Aa2 t;subst this;rw[show Nat.beq i i=true by simp] at b;cases b
   ·cases y
  ·cases y
section
variable {P:Program}{ops:Array Oper}{C:World→Prop}{n:FN}{m:SM}
def Yf {b:SM}(d:vB b m []=some b):QF P ops C (λa=>Fr n a b) [] n m:=QF.nil λa c=>⟨c.dfr,c.siz,λi u g=>c.at_ i u (kq [] d rfl i u rfl g)⟩
def sL {l:List Oper}{c b:SM}(g:Qv ops n.1 l m=some c) (d:vB b c []=some b):QF P ops C (λa=>Fr n a b) l n m:=Nu g (Yf d)
end
section
variable {P:Program}{ex:List (Nat×AP)}{RR N:AP}{cs:List Code}{B:World}{h:AO}{n:FN}{m m':SM}{S:Nat→Prop}{L:List HP}{C:World→Prop}{l:List Oper}{fuel:Nat}{listed:Array Bool}
variable {d:Nat}{ty:TypeId}{pos:String}{af:Array Edge}{X Y:Operand}{t:TypeId}{v:Value}
def X1 (l:List Oper) (m:SM) (g:Option (Nat×Bool)):Bool:=match g with
 |none=>true
 |some (j,b)=>match (l[j]?).bind (·.dst) with
  |none=>false
  |some e=>match lk m e with
   |some (.bool c)=>c==b
   |_=>false
def T4 {o:Oper}{a:Act}(k:Fr n a m) (d:X1 l m o.guard=true):Region.wanted o (yielded l.toArray a.tmps)=true:=by
 unfold X1 at d;unfold Region.wanted;cases p:o.guard with
 |none=>rfl
 |some q=>
  obtain⟨j,b⟩:=q;rw[p] at d;simp only at d ⊢;cases g:(l[j]?).bind (·.dst) with
  |none=>rw[g] at d;cases d
  |some e=>
   rw[g] at d;simp only at d;cases i:lk m e with
   |none=>rw[i] at d;cases d
   |some u=>
    rw[i] at d;cases u with
    |bool c=>
     have s:c=b:=by simpa using d
     have:=k.at_ e _ i;subst s;simp [yielded,g,this]
    |_=>cases d
def zB (l:List Oper) (m:SM) (g:Option (Nat×Bool)):Bool:=match g with
 |none=>false
 |some (j,b)=>match (l[j]?).bind (·.dst) with
  |none=>false
  |some e=>match lk m e with
   |some (.bool c)=> !(c==b)
   |some _=>true
   |none=>false
def pL {o:Oper}{a:Act}(p:Fr n a m) (d:zB l m o.guard=true):Region.wanted o (yielded l.toArray a.tmps)=false:=by
 unfold zB at d;unfold Region.wanted;cases s:o.guard with
 |none=>rw[s] at d;cases d
 |some q=>
  obtain⟨j,b⟩:=q;rw[s] at d;simp only at d ⊢;cases g:(l[j]?).bind (·.dst) with
  |none=>rw[g] at d;cases d
  |some e=>
   rw[g] at d;simp only at d;cases i:lk m e with
   |none=>rw[i] at d;cases d
   |some u=>
    rw[i] at d;cases u with
    |bool c=>
     have t:(c==b)=false:=by simpa using d
     have:=p.at_ e _ i;have k:¬c=b:=by simpa using t
     simp [yielded,g,this,k]
    |_=>
     have:=p.at_ e _ i;simp [yielded,g,this]
def MU {o:Op}{gd:Option (Nat×Bool)}(i:Nat) (q:l[i]? =some ⟨some d,o,ty,pos,af,gd⟩) (c:R5 l listed i=true) (s:X1 l m gd=true) (t:∀w,Wd B h w→C w) (hd:Nat.blt d n.1=true)
  (b:∀a w,Fr n a m→C w→(execOp a.eval ⟨some d,o,ty,pos,af,gd⟩).run P w= .ok (.value v) w) (k:HF P l (QW P ex RR cs N) C fuel (listed.setIfInBounds i true) B h n ((d,v)::m)):HF P l (QW P ex RR cs N) C (fuel+1) listed B h n m:=by
 intro a w g p;simp only[R5,Aax] at c;exact wpAnyH_take (oi:=⟨some d,o,ty,pos,af,gd⟩) (v:=v) (by simpa using q) c.1.1 c.1.2 c.2 (λ_ _ _ u=>u.elim) (.inl ⟨T4 g s,λw' j=>b a w' g j⟩) (t w p) (k _ _ (g.put hd v) p)
def BP {o:Op}{gd:Option (Nat×Bool)}(i:Nat) (j:l[i]? =some ⟨some d,o,ty,pos,af,gd⟩) (c:R5 l listed i=true) (p:zB l m gd=true) (q:∀w,Wd B h w→C w) (hd:Nat.blt d n.1=true)
  (k:HF P l (QW P ex RR cs N) C fuel (listed.setIfInBounds i true) B h n ((d,undef)::m)):HF P l (QW P ex RR cs N) C (fuel+1) listed B h n m:=by
 intro a w b g;simp only[R5,Aax] at c;exact wpAnyH_take (oi:=⟨some d,o,ty,pos,af,gd⟩) (v:=undef) (by simpa using j) c.1.1 c.1.2 c.2 (λ_ _ _ s=>s.elim) (.inr ⟨pL b p,rfl⟩) (q w g) (k _ _ (b.put hd undef) g)
def CD {gd:Option (Nat×Bool)}(i:Nat) (b:l[i]? =some ⟨some d,.move X,ty,pos,af,gd⟩) (c:R5 l listed i=true) (g:X1 l m gd=true) (j:∀w,Wd B h w→C w) (o:Bz m X=some v) (hd:Nat.blt d n.1=true) (k:HF P l (QW P ex RR cs N) C fuel (listed.setIfInBounds i true) B h n ((d,v)::m)):HF P l (QW P ex RR cs N) C (fuel+1) listed B h n m:=
 MU i b c g j hd (λa w p _=>by simp [execOp,p.eval o]) k
def ND {gd:Option (Nat×Bool)}(i:Nat) (b:l[i]? =some ⟨some d,.assign X,ty,pos,af,gd⟩) (c:R5 l listed i=true) (g:X1 l m gd=true) (j:∀w,Wd B h w→C w) (o:Bz m X=some v) (hd:Nat.blt d n.1=true) (k:HF P l (QW P ex RR cs N) C fuel (listed.setIfInBounds i true) B h n ((d,v)::m)):HF P l (QW P ex RR cs N) C (fuel+1) listed B h n m:=
 MU i b c g j hd (λa w p _=>by simp [execOp,p.eval o]) k
def SB {gd:Option (Nat×Bool)}{xs:Array Value}{j:Nat}(i:Nat) (b:l[i]? =some ⟨some d,.extract X j,ty,pos,af,gd⟩) (c:R5 l listed i=true) (g:X1 l m gd=true) (o:∀w,Wd B h w→C w) (p:Bz m X=some (.tuple xs)) (q:xs[j]? =some v) (hd:Nat.blt d n.1=true) (k:HF P l (QW P ex RR cs N) C fuel (listed.setIfInBounds i true) B h n ((d,v)::m)):HF P l (QW P ex RR cs N) C (fuel+1) listed B h n m:=
 MU i b c g o hd (λa w s _=>by simp [execOp,s.eval p,Instr.extract,q]) k
def D6 {gd:Option (Nat×Bool)}{b:Bool}{Z:Operand}(i:Nat) (j:l[i]? =some ⟨some d,.pick Z X Y,ty,pos,af,gd⟩) (c:R5 l listed i=true) (o:X1 l m gd=true) (p:∀w,Wd B h w→C w) (q:Bz m Z=some (.bool b)) (s:Bz m (if b then X else Y)=some v) (hd:Nat.blt d n.1=true) (k:HF P l (QW P ex RR cs N) C fuel (listed.setIfInBounds i true) B h n ((d,v)::m)):HF P l (QW P ex RR cs N) C (fuel+1) listed B h n m:=
 MU i j c o p hd (λa w g _=>by cases b<;>simp [execOp,g.eval q,asBool]<;>exact g.eval (by simpa using s)) k
def biV (o:BinOp) (x y:Int):Option Value:=match o with
 | .add=>some (.int .i64 (BO (x+y)))
 | .eql=>some (.bool (decide (x=y)))
 | .neq=>some (.bool (decide (x≠y)))
 | .lss=>some (.bool (decide (x<y)))
 | .geq=>some (.bool (decide (y≤x)))
 | .leq=>some (.bool (decide (x≤y)))
 | .gtr=>some (.bool (decide (y<x)))
 |_=>none
def HE {gd:Option (Nat×Bool)}{o:BinOp}{t2:TypeId}{x y:Int}(i:Nat) (g:l[i]? =some ⟨some d,.binOp o t X Y t2,ty,pos,af,gd⟩) (c:R5 l listed i=true) (j:X1 l m gd=true) (p:∀w,Wd B h w→C w) (q:Bz m X=some (.int .i64 x)) (s:Bz m Y=some (.int .i64 y)) (u:biV o x y=some v) (hd:Nat.blt d n.1=true) (k:HF P l (QW P ex RR cs N) C fuel (listed.setIfInBounds i true) B h n ((d,v)::m)):HF P l (QW P ex RR cs N) C (fuel+1) listed B h n m:=
 MU i g c j p hd (λa w b _=>by
  have z:(eqGuard o t X Y (.int .i64 x) (.int .i64 y)).run P w= .ok () w:=by unfold eqGuard;cases o<;>simp
  have A:(binOp o t (.int .i64 x) (.int .i64 y)).run P w= .ok v w:=by
   cases o<;>cases u
   ·simp [binOp,Op.intArith]
   ·simp [binOp,Op.intCmp,PF]
   ·simp [binOp,Op.intCmp,bne,PF]
   ·simp [binOp,Op.intCmp]
   ·simp [binOp,Op.intCmp]
   ·simp [binOp,Op.intCmp]
   ·simp [binOp,Op.intCmp]
  simp [execOp,b.eval q,b.eval s,z,A]) k
def Yk {gd:Option (Nat×Bool)}{b:Option Addr}{len cap:Nat}{e sz:Nat}(i:Nat) (g:l[i]? =some ⟨some d,.call ⟨.builtin .len,#[X],#[t]⟩,ty,pos,af,gd⟩) (c:R5 l listed i=true) (j:X1 l m gd=true) (o:∀w,Wd B h w→C w) (p:Bz m X=some (.slice b len cap)) (q:OT P t e sz=true) (hd:Nat.blt d n.1=true) (k:HF P l (QW P ex RR cs N) C fuel (listed.setIfInBounds i true) B h n ((d,.int .i64 len)::m)):HF P l (QW P ex RR cs N) C (fuel+1) listed B h n m:=
 MU i g c j o hd (λa w s _=>by
  obtain⟨i,u,_⟩:=Lp q;simp [execOp,resolve,invoke,builtin,Builtin.len_,s.eval p,run_underlying u,goInt]) k
def SK (S:Nat→Prop) (h:AO) (w:World):Prop:=∀b,S b→w.heap[b]? =h[b]?
def SK.of {S S':Nat→Prop}{h h':AO}{w:World}(e:BF S h S' h'):Wd B h' w→SK S h w:=λa b c=>by rw[a.heap];exact e.same b c
def Nw {α}{r:A5 α}{xs:List α}{a:Nat→Prop}{h0:AO}{gd:Option (Nat×Bool)}{e:Nat}(i:Nat) (b:l[i]? =some ⟨some d,.call ⟨.builtin .len,#[X],#[t]⟩,ty,pos,af,gd⟩) (c:R5 l listed i=true) (g:X1 l m gd=true) (j:∀w,Wd B h w→C w) (o:Bz m X=some v) (k0:Sl a h0 r v xs) (p:OT P t e r.sz=true) (hd:Nat.blt d n.1=true) (k:xs.length≤maxLen→HF P l (QW P ex RR cs N) C fuel (listed.setIfInBounds i true) B h n ((d,.int .i64 (xs.length:Int))::m)):HF P l (QW P ex RR cs N) C (fuel+1) listed B h n m:=by
 obtain⟨s,cap,rfl,q⟩:=k0.len;exact Yk i b c g j o p hd (k q)
def TM {α}{r:A5 α}{xs:List α}{g:Nat→Prop}{h0:AO}{gd:Option (Nat×Bool)}{e:Nat}{j:Int}{x:α}(i:Nat) (p:l[i]? =some ⟨some d,.indexAddr t X Y,ty,pos,af,gd⟩) (c:R5 l listed i=true) (s:X1 l m gd=true) (u:∀w,Wd B h w→C w) (y:Bz m X=some v) (z:Bz m Y=some (.int .i64 j)) (k0:Sl g h0 r v xs) (A:OT P t e r.sz=true) (b:Go.Proofs.YtabonambpbofgaaGreat.ix xs j=some x) (hd:Nat.blt d n.1=true)
  (k:∀q,Pt g h0 r q x→HF P l (QW P ex RR cs N) C fuel (listed.setIfInBounds i true) B h n ((d,q)::m)):HF P l (QW P ex RR cs N) C (fuel+1) listed B h n m:=by
 obtain⟨D,cap,rfl,F⟩:=k0.at_ (Er b).2;have G:j.toNat<xs.length:=(Aa4.1 (Er b).2).1;exact MU i p c s u hd (λa w o _=>by simp [execOp,o.eval y,o.eval z,Lq (P:=P) (w:=w) (cap:=cap) (a:=D) A (Er b).1 G]) (k _ F)
def tE {α β}{r:A5 α}{r':A5 β}{f:α→β}{x:α}{j off:Nat}{b:Nat→Prop}{h0:AO}{gd:Option (Nat×Bool)}{p:Value}(i:Nat) (g:l[i]? =some ⟨some d,.fieldAddr t X j,ty,pos,af,gd⟩) (c:R5 l listed i=true) (o:X1 l m gd=true) (s:∀w,Wd B h w→C w) (u:Bz m X=some p) (k0:Pt b h0 r p x) (v:Fd r off r' f) (y:Zc P t j off=true) (hd:Nat.blt d n.1=true)
  (k:∀q,Pt b h0 r' q (f x)→HF P l (QW P ex RR cs N) C fuel (listed.setIfInBounds i true) B h n ((d,q)::m)):HF P l (QW P ex RR cs N) C (fuel+1) listed B h n m:=by
 obtain⟨a,rfl,z⟩:=k0.fld v;exact MU i g c o s hd (λa w A _=>by simp [execOp,A.eval u,Lr y]) (k _ z)
def RK {α}{r:A5 α}{x:α}{g:Nat→Prop}{h0:AO}{gd:Option (Nat×Bool)}{p:Value}(i:Nat) (q:l[i]? =some ⟨some d,.load t X,ty,pos,af,gd⟩) (c:R5 l listed i=true) (s:X1 l m gd=true) (u:∀w,Wd B h w→C w) (y:∀w,C w→SK g h0 w) (z:Bz m X=some p) (k0:Pt g h0 r p x) (A:KQ P t r.sz r.ag=true) (D:r.ag=false→r.sz=1) (hd:Nat.blt d n.1=true)
  (k:∀v,Rd g h0 r v x→HF P l (QW P ex RR cs N) C fuel (listed.setIfInBounds i true) B h n ((d,v)::m)):HF P l (QW P ex RR cs N) C (fuel+1) listed B h n m:=by
 obtain⟨cs',F,o⟩:=k0;have b:=r.len o;refine MU (v:=if r.ag then .agg cs'.toArray else cs'.headD undef) i q c s u hd (λa w G H=>?_) (k _ ⟨cs',rfl,o⟩);have j:Nc g w.heap p cs':=F.mono (λ_ x=>x) (y w H);have:=Mf (P:=P) (w:=w) (t:=t) j b A D;simp [execOp,G.eval z,this]
def Aal (i j:Nat) {d g:Oper}(v:l[i]? =some d) (x:l[j]? =some g) (p:d.guard=none) (s:g.guard=none) (c:Region.ready .any l.toArray listed=[i,j])
  (y:LF P l.toArray (Exit.then (λo w'=>C w'∧wpAnyH P .any l.toArray (QW P ex RR cs N) C fuel (listed.setIfInBounds i true) o w') (QW P ex RR cs N)) [d] B h n m)
  (z:LF P l.toArray (Exit.then (λo w'=>C w'∧wpAnyH P .any l.toArray (QW P ex RR cs N) C fuel (listed.setIfInBounds j true) o w') (QW P ex RR cs N)) [g] B h n m):HF P l (QW P ex RR cs N) C (fuel+1) listed B h n m:=by
 intro a w t u;refine wpAnyH_all c (by simp) λq k=>?_;rcases Aay.1 k with rfl|k
 ·unfold wpOp;have b:l.toArray[q]? =some d:=by simpa using v
  simp only[b];rw[Aav (by simp [Region.wanted,p])];exact Jz p (y a w t u)
 ·rw[Ab0] at k;subst k;unfold wpOp;have b:l.toArray[q]? =some g:=by simpa using x
  simp only[b];rw[Aav (by simp [Region.wanted,s])];exact Jz s (z a w t u)
def Rf (i:Nat) {b:Option Nat}{o:Op}{gd:Option (Nat×Bool)}(s:l[i]? =some ⟨b,o,ty,pos,af,gd⟩) (t:X1 l m gd=true) (c:Region.ready .any l.toArray listed=[i])
  (k:LF P l.toArray (Exit.then (λu w'=>C w'∧wpAnyH P .any l.toArray (QW P ex RR cs N) C fuel (listed.setIfInBounds i true) u w') (QW P ex RR cs N)) [⟨b,o,ty,pos,af,none⟩] B h n m):HF P l (QW P ex RR cs N) C (fuel+1) listed B h n m:=by
 intro a w g v;refine wpAnyH_all c (by simp) λj p=>?_;rw[Ab0] at p;subst p;unfold wpOp;have d:l.toArray[j]? =some ⟨b,o,ty,pos,af,gd⟩:=by simpa using s
 simp only[d];rw[Aav (T4 (o:=⟨b,o,ty,pos,af,gd⟩) g t)];have:=Jz (o:=⟨b,o,ty,pos,af,none⟩) rfl (k a w g v);cases gd with
 |none=>exact this
 |some q=>exact Pm this
end
def Ro (R:Nat→Int) (a b:Nat):Bool:=cond (!decide (R a=R b)) (decide (R b<R a)) (decide (a<b))
def Tc (lt:Int→Int→Bool) (x:Int):List Int→List Int
 |[]=>[x]
 |y::l=>cond (lt y x) (y::Tc lt x l) (x::y::l)
def NU (lt:Int→Int→Bool):List Int→List Int
 |[]=>[]
 |x::l=>Tc lt x (NU lt l)
def RO (c:List Int) (a b:Int):Bool:=Ro (λt=>c.getD t 0) a.toNat b.toNat
def SY (a b:List Int):Option (List Int):=
 if a.length=b.length∧1≤a.length∧a.length≤64∧(a.all λx=>decide (0≤x)&&decide (x<a.length))=true then some (NU (RO b) a) else none
def PG (lt:Int→Int→Bool) (x:Int):∀l,(Tc lt x l).Perm (x::l)
 |[]=> .refl _
 |y::l=>by
  unfold Tc;cases lt y x with
  |true=>exact((PG lt x l).cons y).trans (.swap x y l)
  |false=>exact .refl _
def Mk (lt:Int→Int→Bool):∀l,(NU lt l).Perm l
 |[]=> .refl _
 |x::l=>(PG lt x _).trans ((Mk lt l).cons x)
end Go.Proofs.YtabonambpbofgaaGreat
