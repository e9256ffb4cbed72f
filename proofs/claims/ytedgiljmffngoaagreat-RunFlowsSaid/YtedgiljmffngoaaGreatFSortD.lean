import Derived.Test.YtedgiljmffngoaaGreatFCore45
import Derived.Test.YtedgiljmffngoaaGreatFCore44
import Derived.Test.YtedgiljmffngoaaGreatFCore31
namespace Go.Proofs.YtedgiljmffngoaaGreat
set_option linter.all false
open Go.RowKit
section
variable {P:Program}{ex:List (Nat×AP)}{RR N:AP}{cs:List Code}{B:World}{h:AT}{n:FN}{m m':SM}{S:Nat→Prop}{L:List HP}{C:World→Prop}{l:List Oper}{fuel:Nat}{listed:Array Bool}
variable {d:Nat}{ty:TypeId}{pos:String}{af:Array Edge}{X Y:Operand}{t:TypeId}{v:Value}
def Uj (i:Nat) {b:Addr}(g:l[i]? =some ⟨some d,.nilCheck X,ty,pos,af,none⟩) (c:Wk l listed i=true) (j:∀w,Wd B h w→C w) (o:BU m X=some (.pointer (some b))) (hd:Nat.blt d n.1=true) (k:HF P l (QW P ex RR cs N) C fuel (listed.setIfInBounds i true) B h n ((d,.pointer (some b))::m)):HF P l (QW P ex RR cs N) C (fuel+1) listed B h n m:=
 Np i g c j hd (λa w p _=>by simp [execOp,p.eval o]) k
def Wh (i:Nat) {o:Option Addr}{q z:Nat}(b:l[i]? =some ⟨some d,.call ⟨.builtin .unsafeSliceData,#[X],#[t]⟩,ty,pos,af,none⟩) (c:Wk l listed i=true) (g:∀w,Wd B h w→C w) (j:BU m X=some (.slice o q z)) (h0:o.isSome=true→z≠0) (hd:Nat.blt d n.1=true) (k:HF P l (QW P ex RR cs N) C fuel (listed.setIfInBounds i true) B h n ((d,.pointer o)::m)):HF P l (QW P ex RR cs N) C (fuel+1) listed B h n m:=
 Np i b c g hd (λa w p _=>by
  have e:(Builtin.unsafeSliceData_ #[t] ty #[.slice o q z]).run P w= .ok (.pointer o) w:=by
   cases o with
   |none=>exact Lib.run_unsafeSliceData_nil w _ _ _ _
   |some a=>exact Lib.run_unsafeSliceData_row w _ _ _ _ _ (h0 rfl)
  simp [execOp,resolve,invoke,builtin,p.eval j,e]) k
def Uk (i:Nat) {o:Option Addr}{q z e sz:Nat}(b:l[i]? =some ⟨some d,.call ⟨.builtin .len,#[X],#[t]⟩,ty,pos,af,none⟩) (c:Wk l listed i=true) (g:∀w,Wd B h w→C w) (j:BU m X=some (.slice o q z)) (p:N5 P t e sz=true) (hd:Nat.blt d n.1=true) (k:HF P l (QW P ex RR cs N) C fuel (listed.setIfInBounds i true) B h n ((d,.int .i64 q)::m)):HF P l (QW P ex RR cs N) C (fuel+1) listed B h n m:=
 Np i b c g hd (λa w s _=>by
  obtain⟨i,u,_⟩:=LH p;simp [execOp,resolve,invoke,builtin,Builtin.len_,s.eval j,run_underlying u,goInt]) k
end
def TN {P:Program}{c:Array Oper}{Q:Exit→Act→World→Prop}(hb:K3 c=true) {f k:Nat}{g:List Nat}{of o:Oper}{q:List Oper}{d:Nat}{b:Array Bool}{a:Act}{w:World}(hu:Oq b=d) (hs:b.size=c.size)
  (M:∀i,i<c.size→i∉f::k::g→b.getD i true=true) (s:∀t,t∈f::k::g→t<c.size∧b.getD t true=false) (u:Kx c (f::g)) (U:Kx c (k::g)) (V:(f::k::g).Nodup)
  (hf:c[f]? =some of) (ho:c[k]? =some o) (W:(g.filterMap λt=>c[t]?)=q)
  (hA:wpList P c Q (of::o::q) a w) (hB:wpList P c Q (o::of::q) a w):wpAny P .any c Q d b a w:=by
 obtain⟨v,l⟩:=s f (by simp);obtain⟨ak,A⟩:=s k (by simp);have al:0<Oq b:=by have:=JL l;omega
 obtain⟨d,rfl⟩:∃f,d=f+1:=⟨d-1,by omega⟩
 obtain⟨n1,n2⟩:=iY.1 V;obtain⟨n3,n4⟩:=iY.1 n2;have B:f≠k:=λh=>n1 (h▸gY);have C:f∉g:=λh=>n1 (hE _ h);have only:∀j,j∈Region.ready .any c b→j=f∨j=k:=λj X=>by
  obtain⟨I,oj,D,F⟩:=mem_ready.1 X;have Y:=(gR.1 D).1;by_cases G:j∈f::k::g
  ·rcases gK.1 G with rfl|hjr
   ·exact .inl rfl
   ·rcases gK.1 hjr with rfl|hjr
    ·exact .inr rfl
    ·obtain⟨p,Z,m⟩:=LY u j hjr;obtain⟨o',aa,e',ab,ac,ad⟩:=Region.waitsFor_spec m;have:o'=oj:=gC (aa.symm.trans D);subst this;have g3:=F e' ab ac;have ae:p∈f::k::g:=by
      rcases gK.1 Z with rfl|Z
      ·simp
      ·simp [Z]
     rw[ad,getD_both (s p ae).2] at g3;cases g3
  ·rw[M j Y G] at I;cases I
 obtain⟨i,_,q2,_⟩:=Gi hb hs v l;refine⟨λh0=>absurd (h0▸q2) (by simp),λj X=>?_⟩;have step:∀(x y:Nat) (ox J:Oper),c[x]? =some ox→c[y]? =some J→x≠y→x∉g→y∉g→b.getD x true=false→b.getD y true=false→(∀i,i<c.size→i∉x::y::g→b.getD i true=true)→(∀t,t∈x::y::g→t<c.size∧b.getD t true=false)→Kx c (y::g)→wpList P c Q (ox::J::q) a w→wpOp P c Q x (wpAny P .any c Q d (b.setIfInBounds x true)) a w:=by
  intro x y ox J hx hy af ag ah ai am I g2 hc m;have ih:=λa w=>Gh (P:=P) (Q:=Q) hb (y::g) d (b.setIfInBounds x true) a w (by have:=JL ai;omega) (by simpa using hs)
   (λi hi aj=>by
    by_cases e:i=x
    ·subst e;have:i<b.size:=by omega
     simp [iE,iA,this]
    ·rw[getD_set_ne true (λz=>e z.symm)];exact I i hi (λh=>(gK.1 h).elim e aj))
   (λt K=>by
    obtain⟨z1,z2⟩:=g2 t (hE _ K);refine⟨z1,?_⟩;rw[getD_set_ne true (λz:x=t=>?_)]
    ·exact z2
    ·subst z;rcases gK.1 K with e|e
     ·exact af e
     ·exact ag e)
   hc (iY.2 ⟨ah,n4⟩)
  have H:((y::g).filterMap λt=>c[t]?)=J::q:=by rw[List.filterMap_cons,hy];simp only;rw[W]
  unfold wpOp;simp only[hx];unfold wpList at m;split
  ·rename_i n;rw[gO n] at m;exact m.imp (Oper.wp_mono λa w h=>ih a w (by rw[H];exact h)) id
  ·rename_i n;rw[gL n] at m;exact ih _ w (by rw[H];exact m)
 rcases only j X with rfl|rfl
 ·exact step j k of o hf ho B C n3 l A M s U hA
 ·refine step j f o of ho hf (λe=>B e.symm) n3 C A l (λi hi hn=>M i hi λh=>hn ?_) (λt K=>s t ?_) u hB
  ·rcases gK.1 h with e|h
   ·simp [e]
   ·rcases gK.1 h with e|h
    ·simp [e]
    ·simp [h]
  ·rcases gK.1 K with e|h
   ·simp [e]
   ·rcases gK.1 h with e|h
    ·simp [e]
    ·simp [h]
def X6 (a:Array Oper) (c f d:Nat) (b F:List Nat):Bool:=
 (F.all λx=> ![f].contains x&&match a[x]? with|some o=>o.after.all λe=> !Region.binds .any e||(Nat.blt e.on a.size&& !(c::d::b).contains e.on&& !(F++[f]).contains e.on)|none=>false)&&
 (c::d::b).all (λt=>Nat.blt t a.size)&&decide (f::c::d::b).Nodup&&Pe a (c::d::b) (F++[f])&&Mo a (c::d::b)&&Mo a (f::b)&&Mn a (c::d::b)&&K3 a&&Region.noSelect a&&Nat.blt f a.size
section
variable {P:Program}{ex:List (Nat×AP)}{RR N:AP}{cs:List Code}{B:World}{h:AT}{n:FN}{m m0:SM}
def XF {l:List Oper}{id:Nat}(g f q:Nat) (s F:List Nat) (R:AR) (pss:List (List (Nat×Nat))) (ak al:List (Nat×Nat)) {U of J:Oper}{K:List Oper}(hm:P.follows .mixedOrders=true) (hc:X6 l.toArray g f q s F=true) (ms:List Nat) (a3:m.map (·.1)=ms) (am:Sq l.toArray (g::q::s) n ms=true)
  (ae:QQ l.toArray (g::q::s) l pss=true) (an:(ak.all λp=>Nat.blt p.1 l.length&& !(g::q::s).contains p.1&&(Ct l.toArray p.1).any (Nat.beq p.2 ·))=true)
  (ao:(al.all λp=>Nat.blt p.1 l.length&& !(g::q::s).contains p.1&& !Nat.beq p.1 f&&(Ct l.toArray p.1).any (Nat.beq p.2 ·))=true)
  (a4:l[g]? =some U) (a5:l[f]? =some of) (a6:l[q]? =some J) (af:U.guard=none) (a7:(s.filterMap λt=>l[t]?)=K) (ap:RE m0 m)
  (ag:∀i v h1 h2,CF h h1→CF h1 h2→R i v h1→R i v h2)
  (hF:OL P l.toArray (g::q::s) n m h R F)
  (step:Cf P l.toArray (Qx ex RR (W P ex RR cs N)) B n m h R (g::q::s) [] ZB.none 0 l pss)
  (aq:∀h',CF h h'→PA R h' (λfr=>LF P l.toArray (Qx ex RR (W P ex RR cs N)) (U::J::K) B h' n (fr++m)) ak [])
  (ar:∀h',CF h h'→PA R h' (λfr=>LF P l.toArray (Exit.then (λa w=>wpList P l.toArray (Qx ex RR (W P ex RR cs N)) (of::J::K) a w∧wpList P l.toArray (Qx ex RR (W P ex RR cs N)) (J::of::K) a w) (Qx ex RR (W P ex RR cs N))) [U] B h' n (fr++m)) al []):WF P ex RR (.region id l.toArray true::cs) N B h n m0:=by
 intro a w hf hw;subst a3;simp only[X6,gG,hO] at hc;obtain⟨⟨⟨⟨⟨⟨⟨⟨⟨c0,c1⟩,c2⟩,c3⟩,c4⟩,a8⟩,c5⟩,c6⟩,c7⟩,c8⟩:=hc;simp only[QQ,gG] at ae;have au:l.length=pss.length:=gH ae.1;obtain⟨nf,av⟩:=iY.1 c2;obtain⟨n1,aa⟩:=iY.1 av;have a9:f∉q::s:=λh=>nf (hE _ h);have ba:f≠g:=λh=>nf (h▸gY);have aw:f<l.toArray.size:=jE c8;have hQ:∀c a w,¬(Qx ex RR (W P ex RR cs N)) (.panic c) a w:=λc a w hq=>hq;have V:∀t,t∈g::q::s→t<l.toArray.size:=λt I=>by have:=gE.1 c1 t I;simp [Nat.blt] at this ⊢;omega
 have ab:(s.filterMap λt=>l.toArray[t]?)=K:=by rw[←a7];congr 1;funext t;simp
 have ho:l.toArray[g]? =some U:=by simpa using a4
 have ax:l.toArray[f]? =some of:=by simpa using a5
 have ac:l.toArray[q]? =some J:=by simpa using a6
 have ad:((q::s).filterMap λt=>l.toArray[t]?)=J::K:=by rw[List.filterMap_cons,ac];simp only;rw[ab]
 have bb:∀x,x∈F→∀o,l.toArray[x]? =some o→∀e,e∈o.after→Region.binds .any e=true→e.on<l.toArray.size∧e.on∉g::q::s∧e.on∉F++[f]:=λx hf o ho e he hb=>by
  have:=gE.1 c0 x hf;rw[gG,ho] at this;have:=this.2;simp only[iV] at this;have:=this e he;simp only[hb,iP,iN,gG,gS] at this;exact⟨(by simpa [Nat.blt] using this.1.1:e.on+1≤l.toArray.size),λh=>(by rw[gI.2 h] at this;cases this.1.2),λh=>(by rw[gI.2 h] at this;cases this.2)⟩
 have hA:∀(a:Act) (w:World) (h':AT),Wd B h' w→CF h h'→Fr n a m→(∀i,i<l.toArray.size→i∉g::q::s→∃d v,Ct l.toArray i=some d∧a.tmps[d]? =some v∧R i v h')→wpList P l.toArray (Qx ex RR (W P ex RR cs N)) (U::J::K) a w:=by
  intro a w h' g1 g2 G g4;obtain⟨fr,X,M⟩:=Hu (a:=a) (n:=n) _ _ (aq h' g2) (λp hp=>by
   have e:=gE.1 an p hp;simp only[gG,gS] at e;have Y:p.1<l.toArray.size:=by have:=e.1.1;simp [Nat.blt] at this ⊢;omega
   obtain⟨d,v,X,M,q3⟩:=g4 p.1 Y (λh=>by rw[gI.2 h] at e;cases e.1.2);have e2:=e.2;rw[X] at e2;have:p.2=d:=gH (by simpa using e2);exact⟨v,by rw[this];exact M,q3⟩) ⟨G.dfr,G.siz,λi v y=>by simp [lk] at y⟩
  exact X a w (M.append G) g1
 have hB:∀(a:Act) (w:World) (h':AT),Wd B h' w→CF h h'→Fr n a m→(∀i,i<l.toArray.size→i∉g::q::s→i≠f→∃d v,Ct l.toArray i=some d∧a.tmps[d]? =some v∧R i v h')→U.wp P a w (λa w=>wpList P l.toArray (Qx ex RR (W P ex RR cs N)) (of::J::K) a w∧wpList P l.toArray (Qx ex RR (W P ex RR cs N)) (J::of::K) a w) (Qx ex RR (W P ex RR cs N))∨(U.asks P a w∧LetsOut (Qx ex RR (W P ex RR cs N))):=by
  intro a w h' g1 g2 G g4;obtain⟨fr,X,M⟩:=Hu (a:=a) (n:=n) _ _ (ar h' g2) (λp hp=>by
   have e:=gE.1 ao p hp;simp only[gG,gS] at e;have Y:p.1<l.toArray.size:=by have:=e.1.1.1;simp [Nat.blt] at this ⊢;omega
   obtain⟨d,v,X,M,q3⟩:=g4 p.1 Y (λh=>by rw[gI.2 h] at e;cases e.1.1.2) (λx=>by
    have:=e.1.2;rw[x] at this;simp at this)
   have e2:=e.2;rw[X] at e2;have:p.2=d:=gH (by simpa using e2);exact⟨v,by rw[this];exact M,q3⟩) ⟨G.dfr,G.siz,λi v y=>by simp [lk] at y⟩
  exact Fh af (X a w (M.append G) g1)
 have bc:∀(u:Nat) (b:Array Bool) (a:Act) (w:World),Oq b=u+1→Pb l.toArray (g::q::s) b→TG B h n m l.toArray (g::q::s++[]) [] ZB.none R b a w→(∀i,i<l.toArray.size→i∉g::q::s→i∉[f]→b.getD i false=true)→g∈Region.ready .any l.toArray b→wpOp P l.toArray (Qx ex RR (W P ex RR cs N)) g (wpAny P .any l.toArray (Qx ex RR (W P ex RR cs N)) u (b.setIfInBounds g true)) a w:=by
  intro u b a w hu Z ai A hr;obtain⟨h1,g1,g2,G,g4⟩:=ai.ex;have ay:∀i,i∉g::q::s→b.getD i false=true→∃d v,Ct l.toArray i=some d∧a.tmps[d]? =some v∧R i v h1:=λi y A=>g4 i (by rw[iD];exact y) A;have az:Oq (b.setIfInBounds g true)=u:=by have:=JL (mem_ready.1 hr).1;omega
  have C:=Z.head hr n1;have a0:∀i,i<l.toArray.size→∀(L:Array Bool),L.size=l.toArray.size→L.getD i false=true→L.getD i true=true:=λi y L hs Q=>by
   have:i<L.size:=by omega
   simpa [this] using Q
  unfold wpOp;simp only[ho];rw[gO (by simp [Region.wanted,af])];cases ah:b.getD f false with
  |true=>
   have Q:=hA a w h1 g1 g2 G λi D H=>ay i H (by
    by_cases e:i=f
    ·rw[e];exact ah
    ·exact A i D H λh=>e (by simpa using h))
   unfold wpList at Q;rw[gO (by simp [Region.wanted,af])] at Q;refine Q.imp (Oper.wp_mono λa2 w2 hk=>?_) λx=>x;refine Gh c6 (q::s) u _ a2 w2 az C.size (λi D H=>a0 i D _ C.size ?_) (λt I=>⟨V t (hE _ I),C.tail t I⟩) ?_ aa (by rw[ad];exact hk)
   ·by_cases Y:g=i
    ·subst Y;have:g<b.size:=by rw[Z.size];exact D
     simp [this]
    ·refine getD_set_true ?_;by_cases e:i=f
     ·rw[e];exact ah
     ·exact A i D (λh=>(gK.1 h).elim (λx=>Y x.symm) H) λh=>e (by simpa using h)
   ·exact(Iy c4).2
  |false=>
   have Q:=hB a w h1 g1 g2 G λi D H p3=>ay i H (A i D H λh=>p3 (by simpa using h));refine Q.imp (Oper.wp_mono λa2 w2 hk=>?_) λx=>x;have be:Kx l.toArray (q::s):=(Iy c4).2;refine TN c6 az C.size (λi D H=>a0 i D _ C.size ?_) (λt I=>?_) (Iy a8) be (iY.2 ⟨a9,aa⟩) ax ac ab hk.1 hk.2
   ·by_cases Y:g=i
    ·subst Y;have:g<b.size:=by rw[Z.size];exact D
     simp [this]
    ·refine getD_set_true (A i D (λh=>(gK.1 h).elim (λx=>Y x.symm) λx=>H (hE _ x)) λh=>H ?_);rw[kG.1 h];exact gY
   ·rcases gK.1 I with rfl|I
    ·refine⟨aw,?_⟩;rw[getD_set_ne true (λe=>ba e.symm)];exact getD_in (by rw[Z.size];exact aw) ah
    ·exact⟨V t (hE _ I),C.tail t I⟩
 refine λrd bf=>Mb bf LI hm (Qg (R:=R) (B:=B) (h0:=h) (n:=n) (m:=m) (g::q::s) [] [] ZB.none aT.none (λz hz=>by cases hz) (λi y=>by cases y) V av c6 F [f] (.inr rfl) (.inr (by rw[iD];exact c3)) (Iy c4) c5 c7 hQ (λx Q=>⟨λh=>(by cases h),λsl h=>(by cases h)⟩) (λx Q=>hF.at_ x Q) (by rw[iD];exact am) ag (λi y=>by cases y) (λi o d y ho hd=>?_) (λa w h' g1 g2 G g4 _ _=>?_) (.inr ⟨bb,λbg bh e u b a w=>by cases e;exact bc u b a w⟩) _ _ _ _ ?_ ⟨by simp,λj oj _ A=>(by rw[getD_replicate_false] at A;cases A),λt I=>getD_in (by simpa using V t I) (getD_replicate_false _ _)⟩ (λi y=>by cases y) ⟨⟨h,hw.drew,CF.refl h,hf.sub ap,λi _ A=>(by rw[getD_replicate_false] at A;cases A)⟩,λi _ j _ _ A=>(by rw[getD_replicate_false] at A;cases A),λz hz=>by cases hz⟩)
 ·rw[iD] at y;have a1:l[i]? =some o:=by simpa using ho
  obtain⟨ps,X,M⟩:=Cf.at_ (k:=0) step au (by rw[hM];exact y) a1 hd;rw[hM] at M;refine⟨ps,?_,λ_ _=>gV,M⟩;have hz:((o,ps),i)∈(l.zip pss).zipIdx:=by
   rw[kI];exact⟨i,by rw[kJ,(kK (z:=(o,ps))).2 ⟨a1,X⟩];simp⟩
  have:=gE.1 ae.2 _ hz;rw[gT] at this;exact this.resolve_left λh=>y (gI.1 h)
 ·have aj:((g::q::s).filterMap λt=>l.toArray[t]?)=U::J::K:=by
   rw[List.filterMap_cons,ho];simp only;rw[ad]
  rw[aj];exact hA a w h' g1 g2 G λi D H=>g4 i D (by rw[iD];exact H)
 ·unfold Oq;rw[jY];simp
def aQ {b:Array Oper}{Q:Exit→Act→World→Prop}{c d:List Oper}(j:LF P b Q c B h n m) (k:LF P b Q d B h n m):LF P b (Exit.then (λa w=>wpList P b Q c a w∧wpList P b Q d a w) Q) [] B h n m:=
 λa w g i=>⟨j a w g i,k a w g i⟩
end
def Pw (R:Nat→Int) (a b:Nat):Bool:=cond (!decide (R a=R b)) (decide (R b<R a)) (decide (a<b))
def Tc (a:Int→Int→Bool) (x:Int):List Int→List Int
 |[]=>[x]
 |y::l=>cond (a y x) (y::Tc a x l) (x::y::l)
def Sv (a:Int→Int→Bool):List Int→List Int
 |[]=>[]
 |x::l=>Tc a x (Sv a l)
def T1 (c:List Int) (a b:Int):Bool:=Pw (λt=>c.getD t 0) a.toNat b.toNat
def TS (a b:List Int):Option (List Int):=
 if a.length=b.length∧1≤a.length∧a.length≤64∧(a.all λx=>decide (0≤x)&&decide (x<a.length))=true then some (Sv (T1 b) a) else none
def PP (a:Int→Int→Bool) (x:Int):∀l,(Tc a x l).Perm (x::l)
 |[]=> .refl _
 |y::l=>by
  unfold Tc;cases a y x with
  |true=>exact((PP a x l).cons y).trans (.swap x y l)
  |false=>exact .refl _
def OT (a:Int→Int→Bool):∀l,(Sv a l).Perm l
 |[]=> .refl _
 |x::l=>(PP a x _).trans ((OT a l).cons x)
end Go.Proofs.YtedgiljmffngoaaGreat
