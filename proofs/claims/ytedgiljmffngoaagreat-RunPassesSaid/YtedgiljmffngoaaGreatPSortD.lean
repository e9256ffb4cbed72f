import Derived.Test.YtedgiljmffngoaaGreatPCore45
import Derived.Test.YtedgiljmffngoaaGreatPCore31
import Derived.Test.YtedgiljmffngoaaGreatPCore30
namespace Go.Proofs.YtedgiljmffngoaaGreat
set_option linter.all false
open Go.RowKit
section
variable {P:Program}{ex:List (Nat×AP)}{RR N:AP}{cs:List Code}{B:World}{h:AS}{n:FN}{m m':SM}{S:Nat→Prop}{L:List HP}{C:World→Prop}{l:List Oper}{fuel:Nat}{listed:Array Bool}
variable {d:Nat}{ty:TypeId}{pos:String}{af:Array Edge}{X Y:Operand}{t:TypeId}{v:Value}
def Yz (i:Nat) {b:Addr}(g:l[i]? =some ⟨some d,.nilCheck X,ty,pos,af,none⟩) (c:gH l listed i=true) (j:∀w,Wd B h w→C w) (o:BV m X=some (.pointer (some b))) (hd:Nat.blt d n.1=true) (k:HF P l (QW P ex RR cs N) C fuel (listed.setIfInBounds i true) B h n ((d,.pointer (some b))::m)):HF P l (QW P ex RR cs N) C (fuel+1) listed B h n m:=
 PT i g c j hd (λa w p _=>by simp [execOp,p.eval o]) k
def gC (i:Nat) {o:Option Addr}{q z:Nat}(b:l[i]? =some ⟨some d,.call ⟨.builtin .unsafeSliceData,#[X],#[t]⟩,ty,pos,af,none⟩) (c:gH l listed i=true) (g:∀w,Wd B h w→C w) (j:BV m X=some (.slice o q z)) (h0:o.isSome=true→z≠0) (hd:Nat.blt d n.1=true) (k:HF P l (QW P ex RR cs N) C fuel (listed.setIfInBounds i true) B h n ((d,.pointer o)::m)):HF P l (QW P ex RR cs N) C (fuel+1) listed B h n m:=
 PT i b c g hd (λa w p _=>by
  have e:(Builtin.unsafeSliceData_ #[t] ty #[.slice o q z]).run P w= .ok (.pointer o) w:=by
   cases o with
   |none=>exact Lib.run_unsafeSliceData_nil w _ _ _ _
   |some a=>exact Lib.run_unsafeSliceData_row w _ _ _ _ _ (h0 rfl)
  simp [execOp,resolve,invoke,builtin,p.eval j,e]) k
def Y0 (i:Nat) {o:Option Addr}{q z e sz:Nat}(b:l[i]? =some ⟨some d,.call ⟨.builtin .len,#[X],#[t]⟩,ty,pos,af,none⟩) (c:gH l listed i=true) (g:∀w,Wd B h w→C w) (j:BV m X=some (.slice o q z)) (p:Pp P t e sz=true) (hd:Nat.blt d n.1=true) (k:HF P l (QW P ex RR cs N) C fuel (listed.setIfInBounds i true) B h n ((d,.int .i64 q)::m)):HF P l (QW P ex RR cs N) C (fuel+1) listed B h n m:=
 PT i b c g hd (λa w s _=>by
  obtain⟨i,u,_⟩:=MY p;simp [execOp,resolve,invoke,builtin,Builtin.len_,s.eval j,run_underlying u,goInt]) k
end
def Wt {P:Program}{ops:Array Oper}{Q:Exit→Act→World→Prop}(hb:PI ops=true) {f g:Nat}{d:List Nat}{of n:Oper}{o:List Oper}{c:Nat}{b:Array Bool}{a:Act}{w:World}(hu:T5 b=c) (hs:b.size=ops.size)
  (K:∀i,i<ops.size→i∉f::g::d→b.getD i true=true) (q:∀t,t∈f::g::d→t<ops.size∧b.getD t true=false) (s:L3 ops (f::d)) (M:L3 ops (g::d)) (U:(f::g::d).Nodup)
  (hf:ops[f]? =some of) (ho:ops[g]? =some n) (V:(d.filterMap λt=>ops[t]?)=o)
  (hA:wpList P ops Q (of::n::o) a w) (hB:wpList P ops Q (n::of::o) a w):wpAny P .any ops Q c b a w:=by
 obtain⟨u,k⟩:=q f (by simp);obtain⟨aj,v⟩:=q g (by simp);have ak:0<T5 b:=by have:=MB k;omega
 obtain⟨c,rfl⟩:∃f,c=f+1:=⟨c-1,by omega⟩
 obtain⟨n1,n2⟩:=Ace.1 U;obtain⟨n3,n4⟩:=Ace.1 n2;have A:f≠g:=λh=>n1 (h▸Aax);have B:f∉d:=λh=>n1 (Aa1 _ h);have only:∀j,j∈Region.ready .any ops b→j=f∨j=g:=λj W=>by
  obtain⟨H,oj,C,D⟩:=mem_ready.1 W;have X:=(Abb.1 C).1;by_cases F:j∈f::g::d
  ·rcases Aae.1 F with rfl|hjr
   ·exact .inl rfl
   ·rcases Aae.1 hjr with rfl|hjr
    ·exact .inr rfl
    ·obtain⟨p,Y,l⟩:=Ml s j hjr;obtain⟨o',Z,e',aa,ab,ac⟩:=Region.waitsFor_spec l;have:o'=oj:=zZ (Z.symm.trans C);subst this;have g3:=D e' aa ab;have ad:p∈f::g::d:=by
      rcases Aae.1 Y with rfl|Y
      ·simp
      ·simp [Y]
     rw[ac,getD_both (q p ad).2] at g3;cases g3
  ·rw[K j X F] at H;cases H
 obtain⟨i,_,q2,_⟩:=M7 hb hs u k;refine⟨λh0=>absurd (h0▸q2) (by simp),λj W=>?_⟩;have step:∀(x y:Nat) (ox I:Oper),ops[x]? =some ox→ops[y]? =some I→x≠y→x∉d→y∉d→b.getD x true=false→b.getD y true=false→(∀i,i<ops.size→i∉x::y::d→b.getD i true=true)→(∀t,t∈x::y::d→t<ops.size∧b.getD t true=false)→L3 ops (y::d)→wpList P ops Q (ox::I::o) a w→wpOp P ops Q x (wpAny P .any ops Q c (b.setIfInBounds x true)) a w:=by
  intro x y ox I hx hy ae af ag ah al H g2 hc l;have ih:=λa w=>JW (P:=P) (Q:=Q) hb (y::d) c (b.setIfInBounds x true) a w (by have:=MB ah;omega) (by simpa using hs)
   (λi hi ai=>by
    by_cases e:i=x
    ·subst e;have:i<b.size:=by omega
     simp [Ab1,Abw,this]
    ·rw[getD_set_ne true (λz=>e z.symm)];exact H i hi (λh=>(Aae.1 h).elim e ai))
   (λt J=>by
    obtain⟨z1,z2⟩:=g2 t (Aa1 _ J);refine⟨z1,?_⟩;rw[getD_set_ne true (λz:x=t=>?_)]
    ·exact z2
    ·subst z;rcases Aae.1 J with e|e
     ·exact ae e
     ·exact af e)
   hc (Ace.2 ⟨ag,n4⟩)
  have G:((y::d).filterMap λt=>ops[t]?)=I::o:=by rw[Adn,hy];simp only;rw[V]
  unfold wpOp;simp only[hx];unfold wpList at l;split
  ·rename_i m;rw[Aab m] at l;exact l.imp (Oper.wp_mono λa w h=>ih a w (by rw[G];exact h)) id
  ·rename_i m;rw[zY m] at l;exact ih _ w (by rw[G];exact l)
 rcases only j W with rfl|rfl
 ·exact step j g of n hf ho A B n3 k v K q M hA
 ·refine step j f n of ho hf (λe=>A e.symm) n3 B v k (λi hi hn=>K i hi λh=>hn ?_) (λt J=>q t ?_) s hB
  ·rcases Aae.1 h with e|h
   ·simp [e]
   ·rcases Aae.1 h with e|h
    ·simp [e]
    ·simp [h]
  ·rcases Aae.1 J with e|h
   ·simp [e]
   ·rcases Aae.1 h with e|h
    ·simp [e]
    ·simp [h]
section
variable {P:Program}{ops:Array Oper}{n:FN}{m:SM}{d:Nat}{ty:TypeId}{pos:String}{af:Array Edge}{X Y:Operand}{t:TypeId}{kd:IntKind}{v:Value}{S:Nat→Prop}{h:AS}
end
def mC (ops:Array Oper) (b f c:Nat) (a F:List Nat):Bool:=
 (F.all λx=> ![f].contains x&&match ops[x]? with|some o=>o.after.all λe=> !Region.binds .any e||(Nat.blt e.on ops.size&& !(b::c::a).contains e.on&& !(F++[f]).contains e.on)|none=>false)&&
 (b::c::a).all (λt=>Nat.blt t ops.size)&&decide (f::b::c::a).Nodup&&Rx ops (b::c::a) (F++[f])&&N5 ops (b::c::a)&&N5 ops (f::a)&&N4 ops (b::c::a)&&PI ops&&Region.noSelect ops&&Nat.blt f ops.size
section
variable {P:Program}{ex:List (Nat×AP)}{RR N:AP}{cs:List Code}{B:World}{h:AS}{n:FN}{m m0:SM}
def jV {l:List Oper}{id:Nat}(g f q:Nat) (s F:List Nat) (R:AR) (pss:List (List (Nat×Nat))) (ak al:List (Nat×Nat)) {U of J:Oper}{K:List Oper}(hm:P.follows .mixedOrders=true) (hc:mC l.toArray g f q s F=true) (ms:List Nat) (a3:m.map (·.1)=ms) (am:Ts l.toArray (g::q::s) n ms=true)
  (ae:TD l.toArray (g::q::s) l pss=true) (an:(ak.all λp=>Nat.blt p.1 l.length&& !(g::q::s).contains p.1&&(HA l.toArray p.1).any (Nat.beq p.2 ·))=true)
  (ao:(al.all λp=>Nat.blt p.1 l.length&& !(g::q::s).contains p.1&& !Nat.beq p.1 f&&(HA l.toArray p.1).any (Nat.beq p.2 ·))=true)
  (a4:l[g]? =some U) (a5:l[f]? =some of) (a6:l[q]? =some J) (af:U.guard=none) (a7:(s.filterMap λt=>l[t]?)=K) (ap:Ty m0 m)
  (ag:∀i v h1 h2,DT h h1→DT h1 h2→R i v h1→R i v h2)
  (hF:P6 P l.toArray (g::q::s) n m h R F)
  (step:DQ P l.toArray (Qx ex RR (W P ex RR cs N)) B n m h R (g::q::s) [] ZB.none 0 l pss)
  (aq:∀h',DT h h'→PA R h' (λfr=>LF P l.toArray (Qx ex RR (W P ex RR cs N)) (U::J::K) B h' n (fr++m)) ak [])
  (ar:∀h',DT h h'→PA R h' (λfr=>LF P l.toArray (Exit.then (λa w=>wpList P l.toArray (Qx ex RR (W P ex RR cs N)) (of::J::K) a w∧wpList P l.toArray (Qx ex RR (W P ex RR cs N)) (J::of::K) a w) (Qx ex RR (W P ex RR cs N))) [U] B h' n (fr++m)) al []):WF P ex RR (.region id l.toArray true::cs) N B h n m0:=by
 intro a w hf hw;subst a3;simp only[mC,Aaa,Aam] at hc;obtain⟨⟨⟨⟨⟨⟨⟨⟨⟨c0,c1⟩,c2⟩,c3⟩,c4⟩,a8⟩,c5⟩,c6⟩,c7⟩,c8⟩:=hc;simp only[TD,Aaa] at ae;have au:l.length=pss.length:=Aah ae.1;obtain⟨nf,av⟩:=Ace.1 c2;obtain⟨n1,aa⟩:=Ace.1 av;have a9:f∉q::s:=λh=>nf (Aa1 _ h);have ba:f≠g:=λh=>nf (h▸Aax);have aw:f<l.toArray.size:=Acr c8;have hQ:∀c a w,¬(Qx ex RR (W P ex RR cs N)) (.panic c) a w:=λc a w hq=>hq;have V:∀t,t∈g::q::s→t<l.toArray.size:=λt I=>by have:=Aaf.1 c1 t I;simp [Nat.blt] at this ⊢;omega
 have ab:(s.filterMap λt=>l.toArray[t]?)=K:=by rw[←a7];congr 1;funext t;simp
 have ho:l.toArray[g]? =some U:=by simpa using a4
 have ax:l.toArray[f]? =some of:=by simpa using a5
 have ac:l.toArray[q]? =some J:=by simpa using a6
 have ad:((q::s).filterMap λt=>l.toArray[t]?)=J::K:=by rw[Adn,ac];simp only;rw[ab]
 have bb:∀x,x∈F→∀o,l.toArray[x]? =some o→∀e,e∈o.after→Region.binds .any e=true→e.on<l.toArray.size∧e.on∉g::q::s∧e.on∉F++[f]:=λx hf o ho e he hb=>by
  have:=Aaf.1 c0 x hf;rw[Aaa,ho] at this;have:=this.2;simp only[Acy] at this;have:=this e he;simp only[hb,Abo,Aci,Aaa,Aau] at this;exact⟨(by simpa [Nat.blt] using this.1.1:e.on+1≤l.toArray.size),λh=>(by rw[Aag.2 h] at this;cases this.1.2),λh=>(by rw[Aag.2 h] at this;cases this.2)⟩
 have hA:∀(a:Act) (w:World) (h':AS),Wd B h' w→DT h h'→Fr n a m→(∀i,i<l.toArray.size→i∉g::q::s→∃d v,HA l.toArray i=some d∧a.tmps[d]? =some v∧R i v h')→wpList P l.toArray (Qx ex RR (W P ex RR cs N)) (U::J::K) a w:=by
  intro a w h' g1 g2 G g4;obtain⟨fr,X,M⟩:=LR (a:=a) (n:=n) _ _ (aq h' g2) (λp hp=>by
   have e:=Aaf.1 an p hp;simp only[Aaa,Aau] at e;have Y:p.1<l.toArray.size:=by have:=e.1.1;simp [Nat.blt] at this ⊢;omega
   obtain⟨d,v,X,M,q3⟩:=g4 p.1 Y (λh=>by rw[Aag.2 h] at e;cases e.1.2);have e2:=e.2;rw[X] at e2;have:p.2=d:=Aah (by simpa using e2);exact⟨v,by rw[this];exact M,q3⟩) ⟨G.dfr,G.siz,λi v y=>by simp [lk] at y⟩
  exact X a w (M.append G) g1
 have hB:∀(a:Act) (w:World) (h':AS),Wd B h' w→DT h h'→Fr n a m→(∀i,i<l.toArray.size→i∉g::q::s→i≠f→∃d v,HA l.toArray i=some d∧a.tmps[d]? =some v∧R i v h')→U.wp P a w (λa w=>wpList P l.toArray (Qx ex RR (W P ex RR cs N)) (of::J::K) a w∧wpList P l.toArray (Qx ex RR (W P ex RR cs N)) (J::of::K) a w) (Qx ex RR (W P ex RR cs N))∨(U.asks P a w∧LetsOut (Qx ex RR (W P ex RR cs N))):=by
  intro a w h' g1 g2 G g4;obtain⟨fr,X,M⟩:=LR (a:=a) (n:=n) _ _ (ar h' g2) (λp hp=>by
   have e:=Aaf.1 ao p hp;simp only[Aaa,Aau] at e;have Y:p.1<l.toArray.size:=by have:=e.1.1.1;simp [Nat.blt] at this ⊢;omega
   obtain⟨d,v,X,M,q3⟩:=g4 p.1 Y (λh=>by rw[Aag.2 h] at e;cases e.1.1.2) (λx=>by
    have:=e.1.2;rw[x] at this;simp at this)
   have e2:=e.2;rw[X] at e2;have:p.2=d:=Aah (by simpa using e2);exact⟨v,by rw[this];exact M,q3⟩) ⟨G.dfr,G.siz,λi v y=>by simp [lk] at y⟩
  exact LG af (X a w (M.append G) g1)
 have bc:∀(u:Nat) (b:Array Bool) (a:Act) (w:World),T5 b=u+1→Rs l.toArray (g::q::s) b→Wj B h n m l.toArray (g::q::s++[]) [] ZB.none R b a w→(∀i,i<l.toArray.size→i∉g::q::s→i∉[f]→b.getD i false=true)→g∈Region.ready .any l.toArray b→wpOp P l.toArray (Qx ex RR (W P ex RR cs N)) g (wpAny P .any l.toArray (Qx ex RR (W P ex RR cs N)) u (b.setIfInBounds g true)) a w:=by
  intro u b a w hu Z ai A hr;obtain⟨h1,g1,g2,G,g4⟩:=ai.ex;have ay:∀i,i∉g::q::s→b.getD i false=true→∃d v,HA l.toArray i=some d∧a.tmps[d]? =some v∧R i v h1:=λi y A=>g4 i (by rw[Aa3];exact y) A;have az:T5 (b.setIfInBounds g true)=u:=by have:=MB (mem_ready.1 hr).1;omega
  have C:=Z.head hr n1;have a0:∀i,i<l.toArray.size→∀(L:Array Bool),L.size=l.toArray.size→L.getD i false=true→L.getD i true=true:=λi y L hs Q=>by
   have:i<L.size:=by omega
   simpa [this] using Q
  unfold wpOp;simp only[ho];rw[Aab (by simp [Region.wanted,af])];cases ah:b.getD f false with
  |true=>
   have Q:=hA a w h1 g1 g2 G λi D H=>ay i H (by
    by_cases e:i=f
    ·rw[e];exact ah
    ·exact A i D H λh=>e (by simpa using h))
   unfold wpList at Q;rw[Aab (by simp [Region.wanted,af])] at Q;refine Q.imp (Oper.wp_mono λa2 w2 hk=>?_) λx=>x;refine JW c6 (q::s) u _ a2 w2 az C.size (λi D H=>a0 i D _ C.size ?_) (λt I=>⟨V t (Aa1 _ I),C.tail t I⟩) ?_ aa (by rw[ad];exact hk)
   ·by_cases Y:g=i
    ·subst Y;have:g<b.size:=by rw[Z.size];exact D
     simp [this]
    ·refine getD_set_true ?_;by_cases e:i=f
     ·rw[e];exact ah
     ·exact A i D (λh=>(Aae.1 h).elim (λx=>Y x.symm) H) λh=>e (by simpa using h)
   ·exact(JO c4).2
  |false=>
   have Q:=hB a w h1 g1 g2 G λi D H p3=>ay i H (A i D H λh=>p3 (by simpa using h));refine Q.imp (Oper.wp_mono λa2 w2 hk=>?_) λx=>x;have be:L3 l.toArray (q::s):=(JO c4).2;refine Wt c6 az C.size (λi D H=>a0 i D _ C.size ?_) (λt I=>?_) (JO a8) be (Ace.2 ⟨a9,aa⟩) ax ac ab hk.1 hk.2
   ·by_cases Y:g=i
    ·subst Y;have:g<b.size:=by rw[Z.size];exact D
     simp [this]
    ·refine getD_set_true (A i D (λh=>(Aae.1 h).elim (λx=>Y x.symm) λx=>H (Aa1 _ x)) λh=>H ?_);rw[Abi.1 h];exact Aax
   ·rcases Aae.1 I with rfl|I
    ·refine⟨aw,?_⟩;rw[getD_set_ne true (λe=>ba e.symm)];exact getD_in (by rw[Z.size];exact aw) ah
    ·exact⟨V t (Aa1 _ I),C.tail t I⟩
 refine λrd bf=>Ov bf NI hm (TX (R:=R) (B:=B) (h0:=h) (n:=n) (m:=m) (g::q::s) [] [] ZB.none tC.none (λz hz=>by cases hz) (λi y=>by cases y) V av c6 F [f] (.inr rfl) (.inr (by rw[Aa3];exact c3)) (JO c4) c5 c7 hQ (λx Q=>⟨λh=>(by cases h),λsl h=>(by cases h)⟩) (λx Q=>hF.at_ x Q) (by rw[Aa3];exact am) ag (λi y=>by cases y) (λi o d y ho hd=>?_) (λa w h' g1 g2 G g4 _ _=>?_) (.inr ⟨bb,λbg bh e u b a w=>by cases e;exact bc u b a w⟩) _ _ _ _ ?_ ⟨by simp,λj oj _ A=>(by rw[getD_replicate_false] at A;cases A),λt I=>getD_in (by simpa using V t I) (getD_replicate_false _ _)⟩ (λi y=>by cases y) ⟨⟨h,hw.drew,DT.refl h,hf.sub ap,λi _ A=>(by rw[getD_replicate_false] at A;cases A)⟩,λi _ j _ _ A=>(by rw[getD_replicate_false] at A;cases A),λz hz=>by cases hz⟩)
 ·rw[Aa3] at y;have a1:l[i]? =some o:=by simpa using ho
  obtain⟨ps,X,M⟩:=DQ.at_ (k:=0) step au (by rw[Aa7];exact y) a1 hd;rw[Aa7] at M;refine⟨ps,?_,λ_ _=>Aaw,M⟩;have hz:((o,ps),i)∈(l.zip pss).zipIdx:=by
   rw[Ab3];exact⟨i,by rw[Adq,(Adr (z:=(o,ps))).2 ⟨a1,X⟩];simp⟩
  have:=Aaf.1 ae.2 _ hz;rw[Aay] at this;exact this.resolve_left λh=>y (Aag.1 h)
 ·have aj:((g::q::s).filterMap λt=>l.toArray[t]?)=U::J::K:=by
   rw[Adn,ho];simp only;rw[ad]
  rw[aj];exact hA a w h' g1 g2 G λi D H=>g4 i D (by rw[Aa3];exact H)
 ·unfold T5;rw[Ads];simp
def sX {ops:Array Oper}{Q:Exit→Act→World→Prop}{l1 b:List Oper}(g:LF P ops Q l1 B h n m) (i:LF P ops Q b B h n m):LF P ops (Exit.then (λa w=>wpList P ops Q l1 a w∧wpList P ops Q b a w) Q) [] B h n m:=
 λa w c d=>⟨g a w c d,i a w c d⟩
end
def vF:SM→SM→List Nat→Option SM
 |[],_,_=>some []
 |(k,v)::r,m,s=>match cond (s.any λj=>Nat.beq k j) (some v) (lk m k) with
  |some w=>match vF r m (k::s) with
   |some l=>some ((k,w)::l)
   |none=>none
  |none=>none
def kq:∀{c m l:SM}(s:List Nat),vF c m s=some l→c=l→∀i u,(s.any λj=>Nat.beq i j)=false→lk c i=some u→lk m i=some u
 |[],m,l,s,_,_,i,u,_,y=>by cases y
 |(k,v)::r,m,l,s,y,e,i,u,d,a=>by
  simp only[vF] at y;split at y
  ·rename_i w g;split at y
   ·rename_i x n;cases y;injection e with o p
    injection o with _ q
    simp only[lk] at a;cases b:Nat.beq k i with
    |true=>
     have:=Aah b;subst this;rw[b,zV] at a;rw[d,zX] at g;rw[g,←q,a]
    |false=>
     rw[b,zX] at a;refine kq (k::s) n p i u ?_ a;rw[List.any_cons,d,Bool.or_false];cases t:Nat.beq i k with
     |false=>rfl
     |true=>
      have:=Aah t;subst this;rw[show Nat.beq i i=true by simp] at b;cases b
   ·cases y
  ·cases y
section
variable {P:Program}{ops:Array Oper}{C:World→Prop}{n:FN}{m:SM}
def Yr {b:SM}(d:vF b m []=some b):QF P ops C (λa=>Fr n a b) [] n m:=QF.nil λa c=>⟨c.dfr,c.siz,λi u g=>c.at_ i u (kq [] d rfl i u rfl g)⟩
def sJ {l:List Oper}{c b:SM}(g:RO ops n.1 l m=some c) (d:vF b c []=some b):QF P ops C (λa=>Fr n a b) l n m:=N8 g (Yr d)
end
def SH (R:Nat→Int) (a b:Nat):Bool:=cond (!decide (R a=R b)) (decide (R b<R a)) (decide (a<b))
def Tt (lt:Int→Int→Bool) (x:Int):List Int→List Int
 |[]=>[x]
 |y::l=>cond (lt y x) (y::Tt lt x l) (x::y::l)
def Nb (lt:Int→Int→Bool):List Int→List Int
 |[]=>[]
 |x::l=>Tt lt x (Nb lt l)
def Ry (c:List Int) (a b:Int):Bool:=SH (λt=>c.getD t 0) a.toNat b.toNat
def Sw (a b:List Int):Option (List Int):=
 if a.length=b.length∧1≤a.length∧a.length≤64∧(a.all λx=>decide (0≤x)&&decide (x<a.length))=true then some (Nb (Ry b) a) else none
def Pd (lt:Int→Int→Bool) (x:Int):∀l,(Tt lt x l).Perm (x::l)
 |[]=> .refl _
 |y::l=>by
  unfold Tt;cases lt y x with
  |true=>exact((Pd lt x l).cons y).trans (.swap x y l)
  |false=>exact .refl _
def Md (lt:Int→Int→Bool):∀l,(Nb lt l).Perm l
 |[]=> .refl _
 |x::l=>(Pd lt x _).trans ((Md lt l).cons x)
end Go.Proofs.YtedgiljmffngoaaGreat
