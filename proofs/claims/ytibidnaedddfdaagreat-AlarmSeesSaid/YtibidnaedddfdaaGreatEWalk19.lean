import Derived.Test.YtibidnaedddfdaaGreatEFacts
import Derived.Test.YtibidnaedddfdaaGreatEForms
import Derived.Test.YtibidnaedddfdaaGreatEInsert
import Derived.Test.YtibidnaedddfdaaGreatEWalk16
import Derived.Test.YtibidnaedddfdaaGreatEWalk18
namespace Go.Proofs.YtibidnaedddfdaaGreat
set_option linter.all false
open Go.RowKit
open Go.Proofs.Tryz
set_option maxRecDepth 10000
set_option maxHeartbeats 2000000
variable {N:Nat}{S:Nat→Prop}{L:List HP}{h:AX}
def Ib (l:St S L h) {g:Int}(i:AA g) {a:Int}(c:AA a) {b:Int}(d:AA b) {r:Int}(E:FM N g a b=some r):
 CD prog 186 #[vI g,vI a,vI b] S h (λv S' h'=>v=vI r∧AA r∧St S' (L) h'):=by
 refine A7 19 func186 O ntmps186 O λB=>?_;rw[FM] at E;refine AU ?_;refine WF.rc (.inl O) l (AU ?_);obtain⟨j,k,E⟩:=bd E;refine Hu (v:= .tuple #[vI j.1,vI j.2.1,.bool j.2.2]) (Ψ:=AA j.1∧AA j.2.1) O O O Uu O (λh' o=>(Jc (St.all h') i c d k).mono λ_ _ _ _ p=>⟨p.1,⟨p.2.1,p.2.2.1⟩⟩) λm=>?_;obtain⟨q,s⟩:=m;refine AU ?_;exact BD (kp [7] O) λt n u=>RT
def Ml (c:St S L h) {a:Int}(b:AA a) {r:Bool}(E:Jr N a=some r):
 CD prog 181 #[vI a] S h (λv S' h'=>v= .bool r∧St S' (L) h'):=by
 refine A7 9 func181 O ntmps181 O λB=>?_;rw[Jr] at E;exact RT
def Lz (hs:St S L h) {k:Value}{l:(List AV)}(b:Sl S h B8 k l) {r:Bool}(E:H2 N l=some r):
 CD prog 168 #[k] S h (λv S' h'=>v= .bool r∧St S' (L) h'):=by
 refine A7 66 func168 O ntmps168 O λB=>?_;rw[H2] at E;refine AU ?_;refine AQ (λa w=>IV B S h (66,[]) a w [(0,k)] (L) λ_ _=>Hp N l=some r) ?_ ?_
 ·refine BJ (λn1=>λa w=>∃(u:Int),IV B S h (66,[]) a w [(0,k),(3,vI u)] (L) λ_ _=>AA u∧FP N l (Hp N l) n1 u=some r) N ?_ ?_ ?_
  ·intro s t m p;exact⟨0,_,_,m.sub (kp [0,3] O),p,hs,(Cc.refl S h),(iq (n:=0) O),E⟩
  ·rintro s t ⟨_,_,_,_,_,_,_,_,E⟩;rw[FP] at E;cases E
  rintro n1 s t ⟨u,S5,h6,m,p,x,q,r4,E⟩;refine AI ?_ m p;clear m p t s;rw[FP] at E;have k9:=b.mono' q;refine AU ?_;refine AE O E (λM E=>?_) (λM E=>?_)
  ·refine AU ?_;refine BQ (AU ?_);refine WF.rc (.inr ⟨mo,by kernel_rfl⟩) x (AU ?_);have Q:=b.mono' q;refine AN E O O Q sl_54.1 O λao E ap U=>?_;have V:=U.fl Tf;have W:=V.i;refine AU ?_;refine BC E O O O aL O (λy z h' o=>Ml (St.all h') W z) λy E=>AU ?_;obtain⟨A,d,E⟩:=bd E;refine A6 8 25 (.bool A) ?_ ?_
   ·cases C:(!y)
    ·have d:=H8 C d;refine AU ?_;have X:=b.mono' q;refine AN d O O X sl_54.1 O λaq d ar Y=>?_;have Z:=Y.fl NG;have ab:=Z.i;refine AU ?_;refine BC d O O O aL O (λac D h' o=>Ml (St.all h') ab D) λac d=>AU ?_;cases d;exact A5 O
    have d:=H7 C d;cases d;exact BO O O
   refine AU ?_;obtain⟨ad,j,E⟩:=bd E;refine A6 31 57 (.bool ad) ?_ ?_
   ·cases F:A
    ·have j:=H8 F j;refine AU ?_;obtain⟨ae,c,j⟩:=bd j;refine A6 27 56 (.bool ae) ?_ ?_
     ·cases G:(decide (0<u))
      ·have c:=H8 G c;cases c;exact BO O O
      have c:=H7 G c;refine AU ?_;have af:=b.mono' q;refine AN c O O af sl_54.1 O λag c au av=>AU ?_;have ah:=b.mono' q;refine AN c O O ah sl_54.1 O λai c aw ax=>AU ?_;obtain⟨aj,g,c⟩:=bd c;refine A6 13 55 (.bool aj) ?_ ?_
      ·cases I:(decide (ag.H≤ai.H))
       ·have g:=H8 I g;refine AU ?_;have ak:=b.mono' q;refine AN g O O ak sl_54.1 O λay g az a0=>AU ?_;have al:=b.mono' q;refine AN g O O al sl_54.1 O λa1 g a2 a3=>AU ?_;cases g;exact A5 O
       have g:=H7 I g;cases g;exact BO O O
      refine AU ?_;cases c;exact A5 O
     refine AU ?_;cases j;exact A5 O
    have j:=H7 F j;cases j;exact BO O O
   refine BD (kp [57,0,3] O) λa4 J a5=>AE O E (λam E=>?_) (λam E=>?_)
   ·exact RT
   refine AU ?_;refine B3 (AU ?_);refine WF.nil (λs t m p=>?_);exact⟨(BR (u+1)),_,_,m.sub (kp [0,3] O),p,J,EX,(B1 _),E⟩
  refine WF.exit O (λs t m p=>?_);exact⟨_,_,m.sub (kp [0] O),p,x,q,E⟩
 rintro s t ⟨a6,a7,m,p,an,K,E⟩;refine AI ?_ m p;clear m p t s;rw[Hp] at E;have a8:=b.mono' K;have a9:=b.mono' K;exact RT
def Oo (hs:St S L h) {c:Value}{j:(List AV)}(b:Sl S h B8 c j) {k:Int}(C:AA k) {r:Int×Bool}(E:Iu N j k=some r):
 CD prog 188 #[c,vI k] S h (λv S' h'=>v= .tuple #[vI r.1,.bool r.2]∧AA r.1∧St S' (L) h'):=by
 refine A7 87 func188 O ntmps188 O λB=>?_;rw[Iu] at E;refine AU ?_;refine AN E O O b sl_54.1 O λx1 E q2 k3=>AU ?_;refine AE O E (λc7 E=>?_) (λc7 E=>?_)
 ·refine AU ?_;refine AN E O O b sl_54.1 O λx8 E q9 D=>?_;have F:=D.fl NG;have G:=F.i;refine AU ?_;refine WF.ret (λt u d l=>?_);cases E;exact IS d O l (GB (KG d (v:=_) O) (GB (KG d (v:=_) O) ID)) O (Cc.refl S h) ⟨O,G,hs⟩
 refine AU ?_;refine AQ (λa w=>IV B S h (87,[]) a w [(0,c)] (L) λ_ _=>Gm N j=some r) ?_ ?_
 ·refine BJ (λn1=>λa w=>∃(m:Int),IV B S h (87,[]) a w [(0,c),(1,vI k),(6,vI m)] (L) λ_ _=>AA m∧FO N j k (Gm N j) n1 m=some r) N ?_ ?_ ?_
  ·intro t u d l;exact⟨1,_,_,d.sub (kp [0,1,6] O),l,hs,(Cc.refl S h),(iq (n:=1) O),E⟩
  ·rintro t u ⟨_,_,_,_,_,_,_,_,E⟩;rw[FO] at E;cases E
  rintro n1 t u ⟨m,ad,ae,d,l,q,g,af,E⟩;refine AI ?_ d l;clear d l u t;rw[FO] at E;have ag:=b.mono' g;refine AU ?_;refine AE O E (λH E=>?_) (λH E=>?_)
  ·refine AU ?_;refine BQ (AU ?_);have I:=b.mono' g;refine AN E O O I sl_54.1 O λah E ai aj=>AU ?_;refine AE O E (λJ E=>?_) (λJ E=>?_)
   ·refine AU ?_;refine WF.rc (.inr ⟨mo,by kernel_rfl⟩) q (AU ?_);have K:=b.mono' g;refine AN E O O K sl_54.1 O λak E al am=>AU ?_;have M:=b.mono' g;refine AN E O O M sl_54.1 O λan E ao ap=>AU ?_;have Q:=b.mono' g;refine AN E O O Q sl_54.1 O λaq E ar au=>AU ?_;have U:=b.mono' g;refine AN E O O U sl_54.1 O λav E aw ax=>AU ?_;have V:=b.mono' g;refine AN E O O V sl_54.1 O λay E az a0=>AU ?_;obtain⟨s,y,E⟩:=bd E;refine Hu (v:= .tuple #[vI s.1,vI s.2.1,.bool s.2.2]) (Ψ:=AA s.1∧AA s.2.1) O O O Uu O (λh' o=>(Jc (St.all h') (B1 _) (B1 _) (B1 _) y).mono λ_ _ _ _ p=>⟨p.1,⟨p.2.1,p.2.2.1⟩⟩) λW=>?_;obtain⟨a1,a2⟩:=W;refine AU ?_;refine BD (kp [8,7,0,6] O) λa3 z a4=>AU ?_;have X:=b.nw;refine AN E O O X sl_54.1 O λa5 E a6 a7=>AU ?_;refine WF.ret (λt u d l=>?_);cases E;exact IS d O l (GB (KG d (v:=_) O) (GB (KG d (v:=_) O) ID)) O EX ⟨O,(B1 _),z⟩
   refine AU ?_;refine B3 (AU ?_);refine WF.nil (λt u d l=>?_);exact⟨(BR (m+1)),_,_,d.sub (kp [0,1,6] O),l,q,g,(B1 _),E⟩
  refine WF.exit O (λt u d l=>?_);exact⟨_,_,d.sub (kp [0] O),l,q,g,E⟩
 rintro t u ⟨a8,a9,d,l,A,x,E⟩;refine AI ?_ d l;clear d l u t;rw[Gm] at E;have ba:=b.mono' x;refine AU ?_;have Y:=b.mono' x;refine AN E O O Y sl_54.1 O λbb E bc Z=>?_;have ab:=Z.fl NG;have ac:=ab.i;refine AU ?_;refine WF.ret (λt u d l=>?_);cases E;exact IS d O l (GB (KG d (v:=_) O) (GB (KG d (v:=_) O) ID)) O x ⟨O,ac,A⟩
def NC (l:St S L h) {a:Value}{g:(List AV)}(b:Sl S h B8 a g) {c:Int}(d:AA c) {r:Int}(E:II N g c=some r):
 CD prog 182 #[a,vI c] S h (λv S' h'=>v=vI r∧AA r∧St S' (L) h'):=by
 refine A7 17 func182 O ntmps182 O λB=>?_;rw[II] at E;refine AU ?_;refine WF.rc (.inl O) l (AU ?_);refine BC E O O O aQ O (λn j h' o=>Lz (St.all h') (b.mono' (o.all l.1)) j) λn E=>AU ?_;refine BD (kp [9,0,1] O) λz i p=>AE O E (λq E=>?_) (λq E=>?_)
 ·exact RT
 refine AU ?_;refine WF.rc (.inl O) i (AU ?_);have s:=b.mono' p;refine BB E O O O kO O (λt k h' o=>Oo (St.all h') (s.mono' (o.all i.1)) d k) λt E u=>?_;have w:=u;refine AU ?_;exact BD (kp [5] O) λx m y=>RT
def MM (hs:St S L h) {q:Value}{s:AO}(x:Rd S h BI q s) {d:Int}(j:AA d) {g:Bool}{k:Value}{t:(List AV)}(y:Sl S h B8 k t) {b:Int}(c:AA b) {p:Int}(u:AA p) {r:Int}(E:IH N s d g t b p=some r):
 CD prog 179 #[q,vI d,.bool g,k,vI b,vI p] S h (λv S' h'=>v=vI r∧AA r∧St S' (L) h'):=by
 refine A7 88 func179 O ntmps179 O λB=>?_;rw[IH] at E;refine AU ?_;refine AT O x CE O hs λq1 S2 h3 ak e5 k6=>AU ?_;refine WF.rc (.inl O) ak ?_;have k8:=k6.fl AO.f_Crest;have r9:=k8.i;refine AU ?_;refine BB E O O O Nh O (λC I h' o=>EO (St.all h') c r9 I) λC E al=>?_;have am:=al;refine Ku O O O (AU ?_);refine BD (kp [13,6,1,2,3,4,5] O) λJ A an=>?_;have D:=k6.mono an;refine AU ?_;refine Er (λa w=>∃(z:Int),IV B S2 J (88,[]) a w [(13,vI (max 0 C)),(6,q1),(1,vI d),(2,.bool g),(3,k),(4,vI b),(14,vI z)] (L) λ_ _=>AA z∧IC N s d g t b C z=some r) ?_ ?_
 ·refine AE O E (λao E=>?_) (λao E=>?_)
  ·refine WF.rc (.inl O) A ?_;have ap:=D.fl Ip;have aq:=ap.i;have ar:=D.fl Iq;have au:=ar.i;refine AU ?_;refine BB E O O O TP O (λav K h' o=>Ib (St.all h') u aq au K) λav E aw=>?_;have ax:=aw;refine BB E O O O Nh O (λM Q h' o=>EO (St.all h') c ax Q) λM E ay=>?_;have az:=ay;refine Ku O O O (AU ?_);refine BD (kp [14,13,6,1,2,3,4] O) λb7 U a0=>WF.nil (λaa ww G H=>?_);exact⟨(max 0 M),_,_,G.sub (kp [13,6,1,2,3,4,14] O),H,U,a0,(HK (iq (n:=0) O) az),E⟩
  refine AU ?_;refine WF.nil (λaa ww G H=>?_);exact⟨b,_,_,G.sub (kp [13,6,1,2,3,4,14] O),H,A,(Cc.refl S2 J),c,E⟩
 rintro aa ww ⟨z,b8,b9,G,H,l,a1,a2,E⟩;refine AI ?_ G H;clear G H ww aa;rw[IC] at E;refine AU ?_;refine BQ ?_;have m:=D.mono a1;refine AU ?_;refine AE O E (λa3 E=>?_) (λa3 E=>?_)
 ·refine AU ?_;refine WF.rc (.inr ⟨mo,by kernel_rfl⟩) l (AU ?_);have a4:=y.nw;refine BB E O O O aK O (λa5 V h' o=>NC (St.all h') (a4.mono' (o.all l.1)) a2 V) λa5 E a6=>?_;have a7:=a6;have a8:=m.fl Cv;have a9:=a8.i;refine AU ?_;refine BB E O O O TP O (λba W h' o=>Ib (St.all h') a7 j a9 W) λba E bb=>?_;have bc:=bb;have be:=m.fl Mt;have bf:=be.i;refine AU ?_;refine BB E O O O R7 O (λbg X h' o=>Fm (St.all h') bc bf X) λbg E bh=>?_;have bi:=bh;refine AU ?_;refine BD (kp [12] O) λca Y bj=>?_;cases E;exact Kt ⟨O,bi,Y⟩ O O ((e5.trans EX).trans bj)
 refine AU ?_;refine AE O E (λbk E=>?_) (λbk E=>?_)
 ·refine AU ?_;refine WF.rc (.inl O) l ?_;have bl:=m.fl AO.f_Num;have bm:=bl.i;have bn:=m.fl AO.f_Den;have bo:=bn.i;refine AU ?_;refine BB E O O O TP O (λbp Z h' o=>Ib (St.all h') (HK (iq (n:=0) O) am) bm bo Z) λbp E bq=>?_;have cb:=bq;refine AU ?_;exact BD (kp [12] O) λcc b0 cd=>RT
 refine AU ?_;refine AE O E (λbr E=>?_) (λbr E=>?_)
 ·refine AU ?_;refine WF.rc (.inl O) l ?_;have bs:=m.fl AO.f_Num;have bt:=bs.i;have bu:=m.fl Cv;have bv:=bu.i;refine AU ?_;refine BB E O O O TP O (λbw ab h' o=>Ib (St.all h') bt j bv ab) λbw E ac=>?_;have b1:=ac;refine AU ?_;exact BD (kp [12] O) λb2 bx b3=>RT
 refine AU ?_;refine AE O E (λad E=>?_) (λad E=>?_)
 ·refine AU ?_;refine WF.rc (.inl O) l ?_;have ae:=m.fl AO.f_Num;have af:=ae.i;have ag:=m.fl AO.f_Den;have ah:=ag.i;refine AU ?_;refine BB E O O O TP O (λai F h' o=>Ib (St.all h') c af ah F) λai E aj=>?_;have b4:=aj;refine AU ?_;exact BD (kp [12] O) λb5 bz b6=>RT
 refine AU ?_;exact B3 (RT)
def OG (hs:St S L h) {g:Value}{u:AO}(q:Rd S h BI g u) {j:Value}{w:AH}(s:Rd S h AM j w) {a:Value}{b:AB}(d:Rd S h AC a b) {c:Value}{k:AB}(l:Rd S h AC c k) {r:AB}(E:GO N u w b k=some r):
 CD prog 163 #[g,j,a,c] S h (λv S' h'=>v= .agg #[vI r.B,vI r.A]∧AB.ok r∧St S' (L) h'):=by
 refine A7 46 func163 O ntmps163 O λB=>?_;rw[GO] at E;refine AU ?_;refine AT O q CE O hs λq1 S2 h3 V e5 k6=>?_;have k7:=s.mono e5;refine AT O k7 CE O V λq8 S9 be C bf W=>?_;have X:=d.nw;refine AT O X CE O C λbg bh bi D bj Y=>?_;have Z:=l.nw;refine AT O Z CE O D λbk bl bm F bn ab=>BZ EA O F λbo bp m ac=>AU ?_;refine WF.rc (.inl O) m ?_;have x:=k6.nw;obtain⟨bq,_,ad⟩:=x.lv;have G:=W.nw;have ae:=G.fl AH.f_Pos;have af:=ae.fl AB.f_Lo;have ag:=af.i;have ah:=x.fl JE;have ai:=ah.fl MN.f_Lo;obtain⟨br,_,aj⟩:=ai.ll;have H:=Y.nw;have ak:=H.fl AB.f_Lo;have am:=ak.i;have I:=ab.mono ac;have an:=I.fl AB.f_Hi;have ao:=an.i;refine AU ?_;refine BB E O O O aN O (λJ K h' o=>MM (St.all h') (ad.mono (o.all m.1)) ag (aj.mono' (o.all m.1)) am ao K) λJ E ap=>?_;have aq:=ap;refine AU ?_;refine BD (kp [9,8,7,6,5,4] O) λbs n t=>AU ?_;refine WF.rc (.inl O) n ?_;have M:=x.mono t;obtain⟨bt,_,ar⟩:=M.lv;have au:=G.mono t;have av:=au.fl AH.f_Pos;have aw:=av.fl AB.f_Hi;have ax:=aw.i;have ay:=M.fl JE;have az:=ay.fl MN.f_Hi;obtain⟨bu,_,a0⟩:=az.ll;have a1:=H.mono t;have a2:=a1.fl AB.f_Hi;have a3:=a2.i;have a4:=I.mono t;have a5:=a4.fl AB.f_Lo;have a6:=a5.i;refine AU ?_;refine BB E O O O aN O (λQ U h' o=>MM (St.all h') (ar.mono (o.all n.1)) ax (a0.mono' (o.all n.1)) a3 a6 U) λQ E a7=>?_;have a8:=a7;refine AU ?_;refine BD (kp [10,9,8] O) λa9 y ba=>AU ?_;refine B6 (cs:=[vI J,vI Q]) Fv O O O (AU ?_);refine AW O O O O ty_51.1 O y .head O λbb p bc=>AU ?_;refine WF.ret (λaa ww hf hw=>?_);have z:=p.drop .head;cases E;exact IS hf O hw (GB (K5 hf hw p O mh ty_51.1 O) ID) O EX ⟨O,⟨aq,a8⟩,z⟩
def ML (l:St S L h) {g:Int}(i:AA g) {a:Int}(c:AA a) {b:Int}(d:AA b) {r:Int}(E:IG N g a b=some r):
 CD prog 187 #[vI g,vI a,vI b] S h (λv S' h'=>v=vI r∧AA r∧St S' (L) h'):=by
 refine A7 19 func187 O ntmps187 O λB=>?_;rw[IG] at E;refine AU ?_;refine WF.rc (.inl O) l (AU ?_);obtain⟨j,k,E⟩:=bd E;refine Hu (v:= .tuple #[vI j.1,vI j.2.1,.bool j.2.2]) (Ψ:=AA j.1∧AA j.2.1) O O O Uu O (λh' o=>(Jc (St.all h') i c d k).mono λ_ _ _ _ p=>⟨p.1,⟨p.2.1,p.2.2.1⟩⟩) λm=>?_;obtain⟨q,s⟩:=m;refine AU ?_;exact BD (kp [7] O) λt n u=>RT
def Mk (I:St S L h) {d:Value}{k:AO}(j:Rd S h BI d k) {a:Int}(b:AA a) {c:Int}(g:AA c) {r:Int}(E:Ii N k a c=some r):
 CD prog 180 #[d,vI a,vI c] S h (λv S' h'=>v=vI r∧AA r∧St S' (L) h'):=by
 refine A7 23 func180 O ntmps180 O λB=>?_;rw[Ii] at E;refine AU ?_;refine AT O j CE O I λU V W p X n=>AU ?_;refine AE O E (λq E=>?_) (λq E=>?_)
 ·exact RT
 refine AU ?_;refine WF.rc (.inr ⟨mo,by kernel_rfl⟩) p ?_;have s:=n.fl AO.f_Num;have t:=s.i;have u:=n.fl AO.f_Den;have w:=u.i;refine AU ?_;refine BB E O O O aJ O (λx l h' o=>ML (St.all h') b t w l) λx E y=>?_;have J:=y;have z:=n.fl Ip;have A:=z.i;have C:=n.fl Iq;have D:=C.i;refine AU ?_;refine BB E O O O aJ O (λF m h' o=>ML (St.all h') g A D m) λF E G=>?_;have K:=G;refine AU ?_;exact BD (kp [6] O) λM H Q=>RT
def Ll (hs:St S L h) {g:Value}{n:AO}(m:Rd S h BI g n) {a:Value}{b:AB}(d:Rd S h AC a b) {c:Value}{j:AB}(k:Rd S h AC c j) {r:AB}(E:E9 N n b j=some r):
 CD prog 164 #[g,a,c] S h (λv S' h'=>v= .agg #[vI r.B,vI r.A]∧AB.ok r∧St S' (L) h'):=by
 refine A7 20 func164 O ntmps164 O λB=>?_;rw[E9] at E;refine AU ?_;refine AT O m CE O hs λq1 S2 h3 G e5 k6=>?_;have k7:=d.mono e5;refine AT O k7 CE O G λq8 S9 ah q ai H=>?_;have I:=k.nw;refine AT O I CE O q λaj ak am s an J=>BZ EA O s λao ap l K=>AU ?_;refine Gs 13 mo (by kernel_rfl) O l ?_;have t:=k6.nw;obtain⟨aq,_,M⟩:=t.lv;have u:=H.nw;have Q:=u.fl AB.f_Lo;have U:=Q.i;have w:=J.mono K;have V:=w.fl AB.f_Hi;have W:=V.i;refine AU ?_;refine BB E O O O aM O (λx y h' o=>Mk (St.all h') (M.mono (o.all l.1)) U W y) λx E X=>?_;have Y:=X;obtain⟨ar,_,Z⟩:=t.lv;have ab:=u.fl AB.f_Hi;have ac:=ab.i;have ad:=w.fl AB.f_Lo;have ae:=ad.i;refine AU ?_;refine BB E O O O aM O (λz C h' o=>Mk (St.all h') (Z.mono (o.all l.1)) ac ae C) λz E af=>?_;have ag:=af;refine B6 (cs:=[vI x,vI z]) Fv O O O (Em λau D av=>?_);refine AW O O O O ty_51.1 O D .head O λaw p ax=>AU ?_;refine WF.ret (λaa ww hf hw=>?_);have F:=p.drop .head;cases E;exact IS hf O hw (GB (K5 hf hw p O mh ty_51.1 O) ID) O EX ⟨O,⟨Y,ag⟩,F⟩
def IQ (w:St S L h) {a:Value}{b:AB}(c:Rd S h AC a b) {r:AB}(E:DW N b=some r):
 CD prog 134 #[a] S h (λv S' h'=>v= .agg #[vI r.B,vI r.A]∧AB.ok r∧St S' (L) h'):=by
 refine A7 10 func134 O ntmps134 O λB=>?_;rw[DW] at E;refine AU ?_;refine AT O c CE O w λC D F k G x=>BZ EA O k λH I l m=>?_;have g:=x.mono m;have o:=g.fl AB.f_Lo;have p:=o.i;refine AU ?_;refine Ku O O O ?_;have q:=g.fl AB.f_Hi;have s:=q.i;refine AU ?_;refine Ku O O O (B6 (cs:=[vI (max b.B 0),vI (max b.A 0)]) Fv O O O (AU ?_));refine AW O O O O ty_51.1 O l .head O λy d z=>AU ?_;refine WF.ret (λJ K t u=>?_);have j:=d.drop .head;cases E;exact IS t O u (GB (K5 t u d O mh ty_51.1 O) ID) O EX ⟨O,⟨(HK p (iq (n:=0) O)),(HK s (iq (n:=0) O))⟩,j⟩
def Fi {d:Nat}{p0_w:AJ}{u:Value}{y:Value}{z:Value}{H:Value}{U:Value}{W:Value}{ab:Value}{ac:Value}{k:Value}{l:Value}{q:Value}{g:Value}(hs:St S (Bx d 141 [.string p0_w.G.M,u,vI p0_w.G.S,y,z,H,U,W,ab,ac,vI p0_w.G.T,vI p0_w.J.I,k,l,q,g]::OS AC 51 k p0_w.J.K::OS BS 93 l p0_w.J.N::OS AM 97 q p0_w.J.D::OS AC 51 g p0_w.Aj::L) h) (dr:p0_w.G.M.size≤maxLen) (ds:Sl S h BU.str u p0_w.G.Aq) (dt:AA p0_w.G.S) (a0:Sl S h B4 y p0_w.G.E) (a1:Sl S h BI z p0_w.G.D) (du:Sl S h Dn H p0_w.G.Ad) (dv:Sl S h De U p0_w.G.Ab) (dw:Sl S h GQ W p0_w.G.Ar) (dx:Sl S h DB ab p0_w.G.At) (dy:Sl S h AY ac p0_w.G.As) (cf:AA p0_w.G.T) (cg:AA p0_w.J.I) {au:Int}(ig:AA au) {av:Value}{af:AD}(b1:Rd S h AL av af) {t:Int}(ah:AA t) {r:AB}(E:Cd N p0_w au af t=some r):
 CD prog 133 #[vP d 0,vI au,av,vI t] S h (λv S' h'=>v= .agg #[vI r.B,vI r.A]∧AB.ok r∧St S' (Bx d 141 [.string p0_w.G.M,u,vI p0_w.G.S,y,z,H,U,W,ab,ac,vI p0_w.G.T,vI p0_w.J.I,k,l,q,g]::OS AC 51 k p0_w.J.K::OS BS 93 l p0_w.J.N::OS AM 97 q p0_w.J.D::OS AC 51 g p0_w.Aj::L) h'):=by
 refine A7 133 func133 O ntmps133 O λB=>?_;rw[Cd] at E;refine AU ?_;refine AT O b1 CE O hs λq1 S2 h3 ih e5 k6=>BZ EA O ih λb7 h8 ai ii=>?_;have ch:=k6.mono ii;refine AU ?_;refine AE O E (λij E=>?_) (λij E=>?_)
 ·have ik:=ch.fl LH;have il:=ik.i;refine AU ?_;refine B6 (cs:=[vI 0,vI af.Bk]) Fv O O O (AU ?_);refine AW O O O O ty_51.1 O ai .head O λmf b2 mg=>AU ?_;refine WF.ret (λaa ww hf hw=>?_);have dz:=b2.sel [1,1,1,1,1] 1 O;cases E;exact IS hf O hw (GB (K5 hf hw b2 O mh ty_51.1 O) ID) O EX ⟨O,⟨(iq (n:=0) O),il⟩,dz⟩
 refine AU ?_;refine AE O E (λim E=>?_) (λim E=>?_)
 ·refine AU ?_;have io:=a0.nw;refine AN E O O io sl_23.1 O λd0 E mi ip=>?_;obtain⟨mj,_,ir⟩:=ip.lv;refine AU ?_;refine BZ Qh O ai λml mm d1 it=>?_;have iu:=ir.mono it;obtain⟨mn,mp,mr,rfl,d2,d3,d4,d5,d6,d7,d8,d9,eb,ec,ed,ee⟩:=B4.ex iu;refine Hv O O O ON ty_57.1 O d1 .head O λms aw ci=>AU ?_;refine WF.rc (.inl O) aw (AU ?_);have iv:=d6.mono' ci;have iw:=d7.mono' ci;have iy:=ee.mono' ci;obtain⟨a2,ef,E⟩:=bd E;refine Hu (v:= .tuple #[vI a2.1,vI a2.2]) (Ψ:=AA a2.1∧AA a2.2) O O O aT O (λh' o=>(Ly (St.all h') (B4.mk (x:=d0) d2 d3 d4 d5 (iv.mono' (o.all aw.1)) (iw.mono' (o.all aw.1)) d8 d9 eb ec ed (iy.mono' (o.all aw.1))) ah (iq (n:=0) O) ef).mono λ_ _ _ _ p=>⟨p.1,⟨p.2.1,p.2.2.1⟩⟩) λiz=>?_;obtain⟨i0,mu⟩:=iz;refine AU ?_;refine BD (kp [10,9,8,3] O) λmv ax mw=>AU ?_;refine WF.rc (.inl O) ax (AU ?_);have i1:=d6.nw;have i2:=d7.nw;have i3:=ee.nw;obtain⟨a3,eg,E⟩:=bd E;refine Hu (v:= .tuple #[vI a3.1,vI a3.2]) (Ψ:=AA a3.1∧AA a3.2) O O O aT O (λh' o=>(Ly (St.all h') (B4.mk (x:=d0) d2 d3 d4 d5 (i1.mono' (o.all ax.1)) (i2.mono' (o.all ax.1)) d8 d9 eb ec ed (i3.mono' (o.all ax.1))) ah (B1 _) eg).mono λ_ _ _ _ p=>⟨p.1,⟨p.2.1,p.2.2.1⟩⟩) λi4=>?_;obtain⟨i5,mx⟩:=i4;refine AU ?_;refine BD (kp [12,10,8] O) λmy eh mz=>AU ?_;refine B6 (cs:=[vI a2.1,vI a3.1]) Fv O O O (AU ?_);refine AW O O O O ty_51.1 O eh (.tail .head) O λm0 ei m1=>AU ?_;refine WF.ret (λaa ww hf hw=>?_);have b3:=ei.sel [1,1,1,1,1,1] 1 O;have ej:=b3.sel [1,1,1,1,1] 1 O;cases E;exact IS hf O hw (GB (K5 hf hw b3 O mh ty_51.1 O) ID) O EX ⟨O,⟨i0,i5⟩,ej⟩
 refine AU ?_;obtain⟨c,ek,E⟩:=bd E;refine QC (m:=[(8,vP b7 0),(6,q1),(0,vP d 0),(1,vI au),(3,vI t)]) 10 (λi v hh=>match i with|0=>v=vP d 0|1=>v=vP d 0|2=>v=vP d 0|3=>v=vP d 4|4=>Sl S2 hh BI v p0_w.G.D|5=>Pt S2 hh AY v af.Z|6=>v=vI af.Z∧AA af.Z|7=>Pt S2 hh BI v c|8=>Rd S2 hh BI v c|9=>RP h8 102 [.string ByteArray.empty,vI 0,vI 0,vI 0,vN,vN,vN,vI 0,vI 0,vI 0,vI 0,vI 0,vI 0,vI 0,vI 0,vI 0,vI 0,vI 0] v hh|_=>False) [[],[(0,55)],[(1,56)],[(2,57)],[(3,58)],[],[(5,60)],[(4,59),(6,61)],[(7,62)],[]] [(8,63),(9,14)] mo (by kernel_rfl) [8,6,0,1,3] O (by kernel_rfl) (by kernel_rfl) (by kernel_rfl) (kp [8,6,0,1,3] O) MO ?_ ?_
 ·refine BM.cons O EY (BM.cons O EY (BM.cons O EY (BM.cons O EY (BM.cons O ?_ ?_))))
  ·intro mq hh o;intro jh el;have j:=o.st ai;cases el;refine AU ?_;have em:=a1.nw;exact B0 em
  refine BM.cons O ?_ ?_
  ·intro mq hh o;have j:=o.st ai;have en:=ch.mono (o.ext ai.1);have eo:=en.fl AD.f_Link;refine AU ?_;exact B0 eo
  refine BM.cons O ?_ ?_
  ·intro mq hh o;intro ep a4;have j:=o.st ai;have a4:Pt _ _ AY ep af.Z:=a4;have eq:=a4.i;refine AU ?_;exact B0 ⟨O,eq⟩
  refine BM.cons O ?_ ?_
  ·intro mq hh o;intro er a5 ji es;have j:=o.st ai;have a5:Sl _ _ BI er p0_w.G.D:=a5;obtain⟨rfl,jj⟩:=es;refine AU ?_;refine Mc O O a5 sl_24.1 ek O λjk eu=>AU ?_;exact B0 eu
  refine BM.cons O ?_ ?_
  ·intro mq hh o;intro ev a6;have j:=o.st ai;have a6:Pt _ _ BI ev c:=a6;obtain⟨jl,_,ew⟩:=a6.lv;refine AU ?_;exact B0 ew
  exact BM.cons O (λ_ _ o=>Nk o Nb O λ_ h' o' r'=>EB o' r') trivial
 intro jm ey ez a7 jn e0;obtain⟨ag,rfl,cj⟩:=e0.st ai ey;have a7:Rd _ _ BI ez c:=a7;obtain⟨a8,a9,ba,rfl,bb,bc,be,bf,bg,bh,bi,bj,bk,bl,bm,bn,bo,bp,bq,br,bs,bt⟩:=BI.ex a7;refine Hv O O O ON ty_102.1 O cj .head O λay s jo=>AU ?_;refine AE O E (λe1 E=>?_) (λe1 E=>?_)
 ·refine AU ?_;refine Ej ?_;refine Hb E O O O UK O s (λbu ck=>H3 (St.all _) (iq (n:=0) O) ck) λbu E jp jq jr cl js jt p=>?_;obtain⟨rfl,⟨e2,e3⟩,i6⟩:=p;refine BZ EA O cl λb4 ju cm jv=>?_;refine AW O O O O ty_51.1 O cm .head O λb5 aj jw=>AU ?_;refine Er (λa w=>∃(ak:Int) (am:Int),IV B S2 b5 (133,[]) a w [(15,vP b4 0),(14,vP ag 0),(8,vP b7 0),(6,q1),(0,vP d 0),(3,vI t)] (Bx b4 51 [vI ak,vI am]::Bx ag 102 [.string c.M,vI c.F,vI c.P,vI c.C,a8,a9,ba,vI c.Y,vI c.An,vI c.Az,vI c.Au,vI c.V,vI c.Q,vI c.Ae,vI c.Aa,vI c.Ak,vI c.Af,vI c.X]::Bx b7 51 [vI 0,vI 0]::Bx d 141 [.string p0_w.G.M,u,vI p0_w.G.S,y,z,H,U,W,ab,ac,vI p0_w.G.T,vI p0_w.J.I,k,l,q,g]::OS AC 51 k p0_w.J.K::OS BS 93 l p0_w.J.N::OS AM 97 q p0_w.J.D::OS AC 51 g p0_w.Aj::L) λ_ _=>AA ak∧AA am∧Gu N p0_w af t c ak am=some r) ?_ ?_
  ·refine AE O E (λe4 E=>?_) (λe4 E=>?_)
   ·refine Pa 8 mo (by kernel_rfl) O (AU ?_);obtain⟨jx,cn,E⟩:=bd E;refine CS aj (mt (mt (mt (mt (mt (mt (mt mh))))))) O O sl_32.1 cn O λjy co=>?_;obtain⟨b6,cp,E⟩:=bd E;have e6:=aj.epAt (mt (mt (mt (mt (mt (mt (mt mh))))))) cp GC.id co;refine Il KP (λ_ x=>x) O e6 ty_51.1 CE O λjz e7=>AU ?_;obtain⟨rfl,⟨e8,e9⟩⟩:=AC.ex e7;refine AW O O O O ty_51.1 O aj .head O λj0 cq fa=>AU ?_;refine WF.nil (λaa ww hf hw=>?_);exact⟨b6.B,b6.A,_,_,hf.sub (kp [15,14,8,6,0,3] O),hw,cq,fa,e8,e9,E⟩
   refine AU ?_;refine WF.nil (λaa ww hf hw=>?_);exact⟨bu.B,bu.A,_,_,hf.sub (kp [15,14,8,6,0,3] O),hw,aj,(Cc.refl S2 b5),e2,e3,E⟩
  rintro aa ww ⟨ak,am,j1,j2,hf,hw,ad,j3,fb,fc,E⟩;refine AI ?_ hf hw;clear hf hw ww aa;rw[Gu] at E;refine AU ?_;refine Gs 14 mo (by kernel_rfl) O ad ?_;have j4:=ch.nw;refine AU ?_;obtain⟨j5,cr,E⟩:=bd E;refine CS ad (mt (mt (mt (mt (mt (mt mh)))))) O O sl_34.1 cr O λj6 ct=>?_;obtain⟨j7,cu,E⟩:=bd E;have fd:=ad.epAt (mt (mt (mt (mt (mt (mt mh)))))) cu GC.id ct;refine Il SO (λ_ x=>x) O fd ty_97.1 CE O λj8 fe=>AU ?_;refine BB E O O O UK O (λb8 cv h' o=>H3 (St.all h') ah cv) λb8 E ff=>?_;obtain⟨fg,fh⟩:=ff;refine AU ?_;have fi:=bg.nw;have fj:=bh.nw;have fk:=bi.nw;obtain⟨j9,cw,E⟩:=bd E;refine In O O O kX O (λh' o=>OG (St.all h') (BI.mk (x:=c) bb bc be bf (fi.mono' (o.all ad.1)) (fj.mono' (o.all ad.1)) (fk.mono' (o.all ad.1)) bj bk bl bm bn bo bp bq br bs bt) (fe.mono (o.all ad.1)) (AC.mk (x:=b8) ⟨fg,fh⟩) (AC.mk (x:=(⟨ak,am⟩:AB)) ⟨fb,fc⟩) cw) λfm=>?_;obtain⟨fn,fo⟩:=fm;refine Em λka cx kb=>?_;refine AW O O O O ty_51.1 O cx (.tail (.tail .head)) O λkc cy kd=>AU ?_;refine WF.ret (λaa ww hf hw=>?_);have bv:=cy.sel [2,2,2,2,2,2] 2 O;have cz:=bv.sel [1,1,1,1,1] 1 O;cases E;exact IS hf O hw (GB (K5 hf hw bv O mh ty_51.1 O) ID) O EX ⟨O,⟨fn,fo⟩,cz⟩
 refine AU ?_;refine AE O E (λfp E=>?_) (λfp E=>?_)
 ·refine AU ?_;obtain⟨an,c0,E⟩:=bd E;obtain⟨ke,c1,E⟩:=bd E;obtain⟨b9,c2,E⟩:=bd E;obtain⟨ao,c3,E⟩:=bd E;refine QC (m:=[(14,vP ag 0),(8,vP b7 0),(0,vP d 0),(3,vI t)]) 13 (λi v hh=>match i with|0=>v= .agg #[.string c.M,vI c.F,vI c.P,vI c.C,a8,a9,ba,vI c.Y,vI c.An,vI c.Az,vI c.Au,vI c.V,vI c.Q,vI c.Ae,vI c.Aa,vI c.Ak,vI c.Af,vI c.X]∧c.M.size≤maxLen∧AA c.F∧AA c.P∧AA c.C∧AA c.Y∧AA c.An∧AA c.Az∧AA c.Au∧AA c.V∧AA c.Q∧AA c.Ae∧AA c.Aa∧AA c.Ak∧AA c.Af∧AA c.X|1=>v=vI t∧AA t|2=>v= .agg #[vI an.B,vI an.A]∧AA an.B∧AA an.A|3=>v=vP d 0|4=>v=vP d 0|5=>v=vP d 15|6=>v=g|7=>v=vP ag 3|8=>v=vI c.C∧AA c.C|9=>EP g (c.C.toNat*(AC).sz+0) v|10=>Rd S2 hh AC v b9|11=>v= .agg #[vI ao.B,vI ao.A]∧AA ao.B∧AA ao.A|12=>RP ay 51 [vI 0,vI 0] v hh|_=>False) [[],[],[(1,98)],[],[(3,100)],[(4,101)],[(5,102)],[],[(7,104)],[(6,103),(8,105)],[(9,106)],[(0,97),(2,99),(10,107)],[]] [(11,108),(12,16)] mo (by kernel_rfl) [14,8,0,3] O (by kernel_rfl) (by kernel_rfl) (by kernel_rfl) (kp [14,8,0,3] O) MO ?_ ?_
  ·refine BM.cons O ?_ ?_
   ·intro mq hh o;have j:=o.st s;refine AU ?_;exact B0 ⟨O,bb,bc,be,bf,bj,bk,bl,bm,bn,bo,bp,bq,br,bs,bt⟩
   refine BM.cons O EY (BM.cons O ?_ ?_)
   ·intro mq hh o;intro kf fq;have j:=SN.st s o;obtain⟨rfl,fr⟩:=fq;refine EQ O O O UK O j (H3 (St.all _) fr c0) λkg kh ki i7 kj ca p=>?_;obtain⟨rfl,⟨fs,ft⟩,i8⟩:=p;exact EB ⟨ca.siz,λb hb=>ca.same b hb⟩ ⟨O,fs,ft⟩
   refine BM.cons O EY (BM.cons O EY (BM.cons O EY (BM.cons O EY (BM.cons O EY (BM.cons O EY (BM.cons O ?_ ?_))))))
   ·intro mq hh o;intro kk fu kl fv;have j:=o.st s;cases fu;obtain⟨rfl,km⟩:=fv;refine AU ?_;refine CS j (mt (mt (mt (mt (mt (mt mh)))))) O O sl_32.1 c1 O λkn c4=>AU ?_;exact B0 c4
   refine BM.cons O ?_ ?_
   ·intro mq hh o;intro ko fw;have j:=o.st s;refine AU ?_;have fx:=j.epAt (mt (mt (mt (mt (mt (mt mh)))))) c2 GC.id fw;refine Il KP (λ_ x=>x) O fx ty_51.1 CE O λkq fy=>AU ?_;exact B0 fy
   refine BM.cons O ?_ ?_
   ·intro mq hh o;intro kr fz ks f0 f1 ap;have j:=SN.st s o;obtain⟨rfl,f2,f3,f4,f5,f6,f7,f8,f9,ga,gb,gc,ge,gf,gg,gh⟩:=fz;obtain⟨rfl,gi,gj⟩:=f0;have ap:=Rd.sn ay ap;have ap:Rd _ _ AC f1 b9:=ap;have gk:=bg.nw;have gl:=bh.nw;have gm:=bi.nw;refine EQ O O O aS O j (Ll (St.all _) (BI.mk (x:=c) f2 f3 f4 f5 (gk.mono j.ea.1 j.ea.2) (gl.mono j.ea.1 j.ea.2) (gm.mono j.ea.1 j.ea.2) f6 f7 f8 f9 ga gb gc ge gf gg gh) (AC.mk (x:=an) ⟨gi,gj⟩) (ap.mono j.ea) c3) λkt ku kv i9 kw cb p=>?_;obtain⟨rfl,⟨gn,gp⟩,ja⟩:=p;exact EB ⟨cb.siz,λb hb=>cb.same b hb⟩ ⟨O,gn,gp⟩
   exact BM.cons O (λ_ _ o=>Nk o EA O λ_ h' o' r'=>EB o' r') trivial
  intro kx gq ky gr kz gs;obtain⟨k0,rfl,c5⟩:=gs.st s gq;obtain⟨rfl,gu,gv⟩:=gr;refine AW O O O O ty_51.1 O c5 .head O λk1 c6 k2=>AU ?_;refine Ej (AU ?_);obtain⟨k3,c7,E⟩:=bd E;refine EQ O O O Ux O c6 (IQ (St.all _) (AC.mk (x:=ao) ⟨gu,gv⟩) c7) λk4 k5 k7 c8 k8 k9 p=>?_;obtain⟨rfl,⟨gw,gx⟩,jb⟩:=p;refine AW O O O O ty_51.1 O c8 (.tail (.tail .head)) O λla c9 lb=>AU ?_;refine WF.ret (λaa ww hf hw=>?_);have bw:=c9.sel [2,2,2,2,2,2] 2 O;have da:=bw.sel [1,1,1,1,1] 1 O;cases E;exact IS hf O hw (GB (K5 hf hw bw O mh ty_51.1 O) ID) O EX ⟨O,⟨gw,gx⟩,da⟩
 refine AU ?_;obtain⟨lc,db,E⟩:=bd E;obtain⟨cc,dc,E⟩:=bd E;obtain⟨aq,dd,E⟩:=bd E;obtain⟨az,de,E⟩:=bd E;refine QC (m:=[(14,vP ag 0),(8,vP b7 0),(0,vP d 0),(3,vI t)]) 13 (λi v hh=>match i with|0=>v= .agg #[.string c.M,vI c.F,vI c.P,vI c.C,a8,a9,ba,vI c.Y,vI c.An,vI c.Az,vI c.Au,vI c.V,vI c.Q,vI c.Ae,vI c.Aa,vI c.Ak,vI c.Af,vI c.X]∧c.M.size≤maxLen∧AA c.F∧AA c.P∧AA c.C∧AA c.Y∧AA c.An∧AA c.Az∧AA c.Au∧AA c.V∧AA c.Q∧AA c.Ae∧AA c.Aa∧AA c.Ak∧AA c.Af∧AA c.X|1=>v=vP d 0|2=>v=vP d 0|3=>v=vP d 15|4=>v=g|5=>v=vP ag 2|6=>v=vI c.P∧AA c.P|7=>EP g (c.P.toNat*(AC).sz+0) v|8=>Rd S2 hh AC v cc|9=>v=vI t∧AA t|10=>v= .agg #[vI aq.B,vI aq.A]∧AA aq.B∧AA aq.A|11=>v= .agg #[vI az.B,vI az.A]∧AA az.B∧AA az.A|12=>RP ay 51 [vI 0,vI 0] v hh|_=>False) [[],[],[(1,112)],[(2,113)],[(3,114)],[],[(5,116)],[(4,115),(6,117)],[(7,118)],[],[(9,120)],[(0,111),(8,119),(10,121)],[]] [(11,122),(12,17)] mo (by kernel_rfl) [14,8,0,3] O (by kernel_rfl) (by kernel_rfl) (by kernel_rfl) (kp [14,8,0,3] O) MO ?_ ?_
 ·refine BM.cons O ?_ ?_
  ·intro mq hh o;have j:=o.st s;refine AU ?_;exact B0 ⟨O,bb,bc,be,bf,bj,bk,bl,bm,bn,bo,bp,bq,br,bs,bt⟩
  refine BM.cons O EY (BM.cons O EY (BM.cons O EY (BM.cons O EY (BM.cons O EY (BM.cons O EY (BM.cons O ?_ ?_))))))
  ·intro mq hh o;intro le gy lf gz;have j:=o.st s;cases gy;obtain⟨rfl,lg⟩:=gz;refine AU ?_;refine CS j (mt (mt (mt (mt (mt (mt mh)))))) O O sl_32.1 db O λlh df=>AU ?_;exact B0 df
  refine BM.cons O ?_ ?_
  ·intro mq hh o;intro li g0;have j:=o.st s;refine AU ?_;have g1:=j.epAt (mt (mt (mt (mt (mt (mt mh)))))) dc GC.id g0;refine Il KP (λ_ x=>x) O g1 ty_51.1 CE O λlj g2=>AU ?_;exact B0 g2
  refine BM.cons O EY (BM.cons O ?_ ?_)
  ·intro mq hh o;intro ll g3;have j:=SN.st s o;obtain⟨rfl,g4⟩:=g3;refine EQ O O O UK O j (H3 (St.all _) g4 dd) λlm ln lo jc lp cd p=>?_;obtain⟨rfl,⟨g5,g6⟩,jd⟩:=p;exact EB ⟨cd.siz,λb hb=>cd.same b hb⟩ ⟨O,g5,g6⟩
  refine BM.cons O ?_ ?_
  ·intro mq hh o;intro lq g7 g8 ar lr g9;have j:=SN.st s o;obtain⟨rfl,ha,hc,hd,he,hg,hi,hj,hk,hl,hm,hn,ho,hp,hq,hr⟩:=g7;have ar:=Rd.sn ay ar;have ar:Rd _ _ AC g8 cc:=ar;obtain⟨rfl,ht,hu⟩:=g9;have hv:=bg.nw;have hx:=bh.nw;have hy:=bi.nw;refine EQ O O O aS O j (Ll (St.all _) (BI.mk (x:=c) ha hc hd he (hv.mono j.ea.1 j.ea.2) (hx.mono j.ea.1 j.ea.2) (hy.mono j.ea.1 j.ea.2) hg hi hj hk hl hm hn ho hp hq hr) (ar.mono j.ea) (AC.mk (x:=aq) ⟨ht,hu⟩) de) λls lt lu je lw ce p=>?_;obtain⟨rfl,⟨hz,h0⟩,jf⟩:=p;exact EB ⟨ce.siz,λb hb=>ce.same b hb⟩ ⟨O,hz,h0⟩
  exact BM.cons O (λ_ _ o=>Nk o EA O λ_ h' o' r'=>EB o' r') trivial
 intro lx h1 ly h2 lz h4;obtain⟨l0,rfl,dg⟩:=h4.st s h1;obtain⟨rfl,h5,h6⟩:=h2;refine AW O O O O ty_51.1 O dg .head O λl1 dh l2=>AU ?_;refine WF.rc (.inl O) dh (AU ?_);refine BB E O O O Nh O (λbx di h' o=>EO (St.all h') (iq (n:=0) O) h6 di) λbx E h7=>?_;have h9:=h7;refine AU ?_;refine BD (kp [18,17,8] O) λl3 dj l4=>AU ?_;refine WF.rc (.inl O) dj (AU ?_);refine BB E O O O Nh O (λbz dk h' o=>EO (St.all h') (iq (n:=0) O) h5 dk) λbz E ia=>?_;have ib:=ia;refine AU ?_;refine BD (kp [19,18,8] O) λl5 dl l6=>AU ?_;refine Ej (AU ?_);refine B6 (cs:=[vI bx,vI bz]) Fv O O O (AU ?_);obtain⟨l7,dm,E⟩:=bd E;refine EQ O O O Ux O dl (IQ (St.all _) (AC.mk (x:=(⟨bx,bz⟩:AB)) ⟨h9,ib⟩) dm) λl8 l9 ma dn mb mc p=>?_;obtain⟨rfl,⟨ic,ie⟩,jg⟩:=p;refine AW O O O O ty_51.1 O dn (.tail (.tail .head)) O λmd dp me=>AU ?_;refine WF.ret (λaa ww hf hw=>?_);have b0:=dp.sel [2,2,2,2,2,2] 2 O;have dq:=b0.sel [1,1,1,1,1] 1 O;cases E;exact IS hf O hw (GB (K5 hf hw b0 O mh ty_51.1 O) ID) O EX ⟨O,⟨ic,ie⟩,dq⟩
end Go.Proofs.YtibidnaedddfdaaGreat
