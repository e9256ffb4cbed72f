import Derived.Test.YtedgiljmffngoaaGreatFFacts
import Derived.Test.YtedgiljmffngoaaGreatFForms
import Derived.Test.YtedgiljmffngoaaGreatFInst
import Derived.Test.YtedgiljmffngoaaGreatFSort5
import Derived.Test.YtedgiljmffngoaaGreatFWalk1
import Derived.Test.YtedgiljmffngoaaGreatFWalk4
namespace Go.Proofs.YtedgiljmffngoaaGreat
set_option linter.all false
open Go.RowKit
open Go.Proofs.Tryz
set_option maxRecDepth 10000
set_option maxHeartbeats 2000000
variable {N:Nat}{S:Nat→Prop}{L:List HP}{h:AT}
def H1 (F:St S L h) {d:Int}(s:AA d) {a:Int}(l:AA a) {b:Int}(m:AA b) {r:Int×Int×Bool}(E:HA N d a b=some r):
 B0 prog 212 #[vI d,vI a,vI b] S h (λv S' h'=>v= .tuple #[vI r.1,vI r.2.1,.bool r.2.2]∧AA r.1∧AA r.2.1∧St S' (L) h'):=by
 refine BA 61 func212 O ntmps212 O λB=>?_;rw[HA] at E;refine AU ?_;refine AF O E (λG E=>?_) (λG E=>?_)
 ·refine AU ?_;refine BS (λu w c k=>?_);cases E;exact Hk c O k (Eg (GE c (v:=_) O) (Eg (GE c (v:=_) O) (Eg (GE c (v:=_) O) Hj))) O (B6.refl S h) ⟨O,(iq (n:=0) O),(iq (n:=0) O),F⟩
 refine AU ?_;refine BZ (.inl O) F (AU ?_);refine Ca O Jp Fi O (AU ?_);refine Ca O Jp Fi O ?_;obtain⟨t,x,E⟩:=bd E;refine G5 (v:= .tuple #[.int .u64 t.1,.int .u64 t.2]) (Ψ:=IntKind.has .u64 t.1∧IntKind.has .u64 t.2) O O O Vv O (λh' o=>(K0 (St.all h') (CT _ _) (CT _ _) x).mono λ_ _ _ _ p=>⟨p.1,⟨p.2.1,p.2.2.1⟩⟩) λH=>?_;obtain⟨I,y⟩:=H;refine AU ?_;refine BL (kp [10,9,2] O) λJ i z=>AU ?_;refine Ca O Jp Fi O (AU ?_);refine AF O E (λA E=>?_) (λA E=>?_)
 ·refine AU ?_;refine BS (λu w c k=>?_);cases E;exact Hk c O k (Eg (GE c (v:=_) O) (Eg (GE c (v:=_) O) (Eg (GE c (v:=_) O) Hj))) O z ⟨O,(iq (n:=0) O),(iq (n:=0) O),i⟩
 refine AU ?_;refine BZ (.inl O) i (AU ?_);refine Ca O Jp Fi O ?_;obtain⟨g,q,E⟩:=bd E;refine G5 (v:= .tuple #[.int .u64 g.1,.int .u64 g.2]) (Ψ:=IntKind.has .u64 g.1∧IntKind.has .u64 g.2) O O O Vu O (λh' o=>(K1 (St.all h') I y (CT _ _) q).mono λ_ _ _ _ p=>⟨p.1,⟨p.2.1,p.2.2.1⟩⟩) λC=>?_;obtain⟨K,M⟩:=C;refine AU ?_;refine BL (kp [12,11] O) λQ j U=>AU ?_;refine AF O E (λD E=>?_) (λD E=>?_)
 ·refine AU ?_;refine BS (λu w c k=>?_);cases E;exact Hk c O k (Eg (GE c (v:=_) O) (Eg (GE c (v:=_) O) (Eg (GE c (v:=_) O) Hj))) O EX ⟨O,(iq (n:=0) O),(iq (n:=0) O),j⟩
 refine AU ?_;refine Ca O Fi Jp O (AU ?_);refine Ca O Fi Jp O (AU ?_);refine BS (λu w c k=>?_);cases E;exact Hk c O k (Eg (GE c (v:=_) O) (Eg (GE c (v:=_) O) (Eg (GE c (v:=_) O) Hj))) O EX ⟨O,(BF _),(BF _),j⟩
def JA (l:St S L h) {g:Int}(i:AA g) {a:Int}(c:AA a) {b:Int}(d:AA b) {r:Int}(E:IY N g a b=some r):
 B0 prog 262 #[vI g,vI a,vI b] S h (λv S' h'=>v=vI r∧AA r∧St S' (L) h'):=by
 refine BA 21 func262 O ntmps262 O λB=>?_;rw[IY] at E;refine AU ?_;refine BZ (.inl O) l (AU ?_);obtain⟨j,k,E⟩:=bd E;refine G5 (v:= .tuple #[vI j.1,vI j.2.1,.bool j.2.2]) (Ψ:=AA j.1∧AA j.2.1) O O O QZ O (λh' o=>(H1 (St.all h') i c d k).mono λ_ _ _ _ p=>⟨p.1,⟨p.2.1,p.2.2.1⟩⟩) λm=>?_;obtain⟨s,t⟩:=m;refine AU ?_;refine BL (kp [9,7] O) λu n w=>AU ?_;refine AF O E (λq E=>?_) (λq E=>?_)
 ·exact RT
 exact RT
def Q8 (H:St S L h) {d:Value}{k:BY}(j:Rd S h Bu d k) {a:Int}(b:AA a) {c:Int}(g:AA c) {r:Int}(E:NT N k a c=some r):
 B0 prog 264 #[d,vI a,vI c] S h (λv S' h'=>v=vI r∧AA r∧St S' (L) h'):=by
 refine BA 20 func264 O ntmps264 O λB=>?_;rw[NT] at E;refine AU ?_;refine B4 O j CE O H λK S2 M q Q G=>AU ?_;refine AF O E (λs E=>?_) (λs E=>?_)
 ·exact RT
 refine AU ?_;refine BZ (.inl O) q ?_;have t:=G.fl H3;have u:=t.i;have w:=G.fl H4;have x:=w.i;refine AU ?_;refine CC E O O O QX O (λy l h' o=>JA (St.all h') g u x l) λy E z=>?_;have A:=z;refine CC E O O O PW O (λC m h' o=>H7 (St.all h') b A m) λC E D=>?_;have F:=D;refine Qk O O O (AU ?_);refine BL (kp [6] O) λI p J=>?_;cases E;exact KN ⟨O,(PQ (iq (n:=0) O) F),p⟩ O O EX
def Fl (Y:St S L h) {d:Value}{i:(List CP)}(g:Sl S h B9 d i) {r:Bool}(E:FA N i=some r):
 B0 prog 232 #[d] S h (λv S' h'=>v= .bool r∧St S' (L) h'):=by
 refine BA 63 func232 O ntmps232 O λB=>?_;rw[FA] at E;refine AU ?_;refine AF O E (λZ E=>?_) (λZ E=>?_)
 ·exact RT
 refine AU ?_;refine AK (λa w=>IV B S h (63,[]) a w [] (L) λ_ _=>Iv N=some r) ?_ ?_
 ·refine AY (λW=>λa w=>∃(p:Int),IV B S h (63,[]) a w [(14,vI (↑i.length:Int)),(13,d),(0,d),(15,vI p)] (L) λ_ _=>AA p∧Ha N i (Iv N) W p=some r) N ?_ ?_ ?_
  ·intro m o j k;exact⟨0,_,_,j.sub (kp [14,13,0,15] O),k,Y,(B6.refl S h),(iq (n:=0) O),E⟩
  ·rintro m o ⟨_,_,_,_,_,_,_,_,E⟩;rw[Ha] at E;cases E
  rintro W m o ⟨p,ab,ac,j,k,l,q,r9,E⟩;refine AI ?_ j k;clear j k o m;rw[Ha] at E;refine AU ?_;refine AF O E (λz E=>?_) (λz E=>?_)
  ·refine AU ?_;refine AZ (AU ?_);have A:=g.mono' q;refine A9 E O O A sl_98.1 O λC E ad D=>?_;obtain⟨ae,_,F⟩:=D.lv;refine AU ?_;refine CG Rj O l λaf ag s G=>AU ?_;have H:=F.mono G;obtain⟨rfl,⟨ah,ai⟩⟩:=B9.ex H;refine CV O O O O ty_137.1 O s .head O λaj t ak=>AU ?_;refine AF O E (λI E=>?_) (λI E=>?_)
   ·exact RT
   refine AU ?_;refine EF (.inr ⟨mo,by kernel_rfl⟩) (AU ?_);obtain⟨J,b,E⟩:=bd E;refine AS 21 61 (.bool J) ?_ ?_
   ·cases u:(decide (0<p))
    ·have b:=Em u b;cases b;exact A6 O O
    have b:=El u b;refine AU ?_;have K:=g.nw;refine A9 b O O K sl_98.1 O λM b am an=>AU ?_;obtain⟨Q,c,b⟩:=bd b;refine AS 10 60 (.bool Q) ?_ ?_
    ·cases x:(decide (C.Ax≤M.Ax))
     ·have c:=Em x c;refine AU ?_;have U:=g.nw;refine A9 c O O U sl_98.1 O λao c ap aq=>AU ?_;cases c;exact AQ O
     have c:=El x c;cases c;exact A6 O O
    refine AU ?_;cases b;exact AQ O
   refine AU ?_;refine AF O E (λV E=>?_) (λV E=>?_)
   ·exact RT
   refine AU ?_;refine BD (AU ?_);refine WF.nil (λm o j k=>?_);have y:=t.drop .head;exact⟨(BG (p+1)),_,_,j.sub (kp [14,13,0,15] O),k,y,EX,(BF _),E⟩
  refine A8 O (λm o j k=>?_);exact⟨_,_,j.sub MC,k,l,q,E⟩
 rintro m o ⟨ar,au,j,k,X,av,E⟩;refine AI ?_ j k;clear j k o m;rw[Iv] at E;exact RT
def Pu (X:St S L h) {g:Int}(q:AA g) {i:Value}{p:(Int→Option Bool)}(s:Rd S h (BB.fn prog (λx:Int=>([vI x]:List Value)) (λx:Int=>AA x) (λy:Bool=> .bool y) (λy:Bool=>True)) i p) {r:Int}(E:Lz N g p=some r):
 B0 prog 303 #[vI g,i] S h (λv S' h'=>v=vI r∧AA r∧St S' (L) h'):=by
 refine BA 26 func303 O ntmps303 O λB=>?_;rw[Lz] at E;obtain⟨H,I,rfl,J,K⟩:=s.fn;refine AU ?_;refine AK (λa w=>∃(F:Int),IV B S h (26,[]) a w [(5,vI F)] (L) λ_ _=>AA F∧Ik N F=some r) ?_ ?_
 ·refine AY (λV=>λa w=>∃(c:Int) (d:Int),IV B S h (26,[]) a w [(1,(.func (.func H) #[] I)),(5,vI c),(6,vI d)] (L) λ_ _=>AA c∧AA d∧GF N p (Ik N) V c d=some r) N ?_ ?_ ?_
  ·intro u z l m;exact⟨0,g,_,_,l.sub (kp [1,5,6] O),m,X,(B6.refl S h),(iq (n:=0) O),q,E⟩
  ·rintro u z ⟨_,_,_,_,_,_,_,_,_,_,E⟩;rw[GF] at E;cases E
  rintro V u z ⟨c,d,Y,Z,l,m,k,t,C,M,E⟩;refine AI ?_ l m;clear l m z u;rw[GF] at E;refine AU ?_;refine AF O E (λQ E=>?_) (λQ E=>?_)
  ·refine AU ?_;refine AZ (AU ?_);refine Ca O Jp TL O (HH (j:=1) O O O O (Ca O TL Jp O (AU ?_)));refine BZ (.inl O) k (AU ?_);obtain⟨ab,D,E⟩:=bd E;refine Ht O O O J O (λh' o=>K _ h' (λb G=>gJ (k.1 b (t.sub b G)) o.siz) (λb G=>(o.same b (k.1 b (t.sub b G))).trans (t.same b G)) [] (St.all h') _ _ (BF _) D) (AU ?_);refine BL (kp [21,7,1,5,6] O) λac A ad=>AF O E (λU E=>?_) (λU E=>?_)
   ·refine AU ?_;refine BD (WF.nil (λu z l m=>?_));exact⟨(BG ((BG (Dn .u64 (IntKind.wrap .u64 (BG (c+d))) 1))+1)),d,_,_,l.sub (kp [1,5,6] O),m,A,EX,(BF _),M,E⟩
   refine AU ?_;refine BD (WF.nil (λu z l m=>?_));exact⟨c,(BG (Dn .u64 (IntKind.wrap .u64 (BG (c+d))) 1)),_,_,l.sub (kp [1,5,6] O),m,A,EX,C,(BF _),E⟩
  refine A8 O (λu z l m=>?_);exact⟨c,_,_,l.sub (kp [5] O),m,k,t,C,E⟩
 rintro u z ⟨F,ae,af,l,m,W,ag,r6,E⟩;refine AI ?_ l m;clear l m z u;rw[Ik] at E;exact RT
def O3 (l:St S L h) {a:Int}(i:AA a) {b:Value}{g:(List CP)}(d:Pt S h (BB.sl B9) b g) {c:Value}{c2_:Int}(j:Pt S h AB c c2_) {r:Bool}(E:JU N g c2_ a=some r):
 B0 prog 304 #[vI a,b,c] S h (λv S' h'=>v= .bool r∧St S' (L) h'):=by
 refine BA 12 func304 O ntmps304 O λB=>?_;rw[JU] at E;refine AU ?_;refine EF (.inr ⟨mo,by kernel_rfl⟩) ?_;obtain⟨m,_,k⟩:=d.ll;refine AU ?_;exact A9 E O O k sl_98.1 O λn E o p=>RT
def Kw (J:St S L h) {b:Value}{c:(List CP)}(j:Sl S h B9 b c) {a:Int}(k:AA a) {r:Int×Bool}(E:JH N c a=some r):
 B0 prog 288 #[b,vI a] S h (λv S' h'=>v= .tuple #[vI r.1,.bool r.2]∧AA r.1∧St S' (L) h'):=by
 refine BA 63 func288 O ntmps288 O λB=>?_;rw[JH] at E;refine AU ?_;refine B4 O (Nx j) (λ_=>rfl) O J λq1 S2 h3 K e5 k6=>B4 O (⟨_,O,O,k⟩:Rd _ _ AB _ a) (λ_=>rfl) O K λq7 S8 h9 m M s=>AU ?_;refine BZ (.inl O) m ?_;have l:=k6.mono M;obtain⟨ap,_,Q⟩:=l.ll;have U:=Q.le;refine AU ?_;refine Nk O O O ?_;have t:Rd S8 h9 (BB.fn prog (λx:Int=>([vI x]:List Value)) (λx:Int=>AA x) (λy:Bool=> .bool y) (λy:Bool=>True)) (.func (.func 304) #[] #[q1,q7]) (λx=>JU N c a x):=Rd.ofFn 304 #[q1,q7] Y5 λS' h' s' e' L J x y h1 h2=>(O3 J h1 (l.mono'' s' e') (s.mono'' s' e') h2).mono λ_ _ _ _ p=>⟨p.1,trivial,p.2⟩
 refine CC E O O O Y6 O (λV u h' o=>Pu (St.all h') (Jb U) (t.mono (o.all m.1)) u) λV E W=>?_;have aq:=W;refine AU ?_;refine BL (kp [6,3,2] O) λar n w=>AU ?_;refine AF O E (λX E=>?_) (λX E=>?_)
 ·have Y:=l.mono w;obtain⟨au,_,Z⟩:=Y.ll;refine AU ?_;refine A9 E O O Z sl_98.1 O λav E aw ab=>?_;have ac:=ab.fl Qs;have ad:=ac.i;refine AU ?_;refine BS (λaa ww d z=>?_);cases E;exact Hk d O z (Eg (GE d (v:=_) O) (Eg (GE d (v:=_) O) Hj)) O EX ⟨O,ad,n⟩
 have A:=l.mono w;obtain⟨ax,_,ae⟩:=A.ll;refine AU ?_;refine A9 E O O ae sl_98.1 O λay E az af=>?_;obtain⟨a0,_,ag⟩:=af.lv;refine AU ?_;refine CG Rj O n λa1 a2 C ah=>?_;have ai:=ag.mono ah;obtain⟨rfl,⟨a3,aj⟩⟩:=B9.ex ai;refine CV O O O O ty_137.1 O C .head O λa4 q a5=>?_;have D:=A.nw;refine AU ?_;refine AF O E (λak E=>?_) (λak E=>?_)
 ·refine AU ?_;refine BS (λaa ww d z=>?_);have F:=q.drop .head;cases E;exact Hk d O z (Eg (GE d (v:=_) O) (Eg (GE d (v:=_) O) Hj)) O EX ⟨O,aj,F⟩
 refine AU ?_;refine BZ (.inr ⟨mo,by kernel_rfl⟩) q ?_;have a6:=s.nw;obtain⟨a7,_,am⟩:=D.ll;refine AU ?_;refine A9 E O O am sl_98.1 O λa8 E a9 ba=>?_;obtain⟨bb,_,an⟩:=D.ll;refine AU ?_;refine A9 E O O an sl_98.1 O λbc E be bf=>AU ?_;obtain⟨g,G,E⟩:=bd E;refine G5 (v:= .tuple #[vI g.1,vI g.2.1,.bool g.2.2]) (Ψ:=AA g.1∧AA g.2.1) O O O QZ O (λh' o=>(H1 (St.all h') (BF _) (BF _) (BF _) G).mono λ_ _ _ _ p=>⟨p.1,⟨p.2.1,p.2.2.1⟩⟩) λao=>?_;obtain⟨bg,bh⟩:=ao;refine AU ?_;refine BL (kp [9,8,7] O) λbi H bj=>AU ?_;refine BS (λaa ww d z=>?_);have I:=H.drop .head;cases E;exact Hk d O z (Eg (GE d (v:=_) O) (Eg (GE d (v:=_) O) Hj)) O EX ⟨O,(BF _),I⟩
def R3 (l:St S L h) {a:Value}{g:(List CP)}(b:Sl S h B9 a g) {c:Int}(d:AA c) {r:Int}(E:OZ N g c=some r):
 B0 prog 263 #[a,vI c] S h (λv S' h'=>v=vI r∧AA r∧St S' (L) h'):=by
 refine BA 17 func263 O ntmps263 O λB=>?_;rw[OZ] at E;refine AU ?_;refine BZ (.inl O) l (AU ?_);refine BC E O O O Ob O (λn j h' o=>Fl (St.all h') (b.mono' (o.all l.1)) j) λn E=>AU ?_;refine BL (kp [9,0,1] O) λz i p=>AF O E (λq E=>?_) (λq E=>?_)
 ·exact RT
 refine AU ?_;refine BZ (.inl O) i (AU ?_);have s:=b.mono' p;refine CC E O O O Td O (λt k h' o=>Kw (St.all h') (s.mono' (o.all i.1)) d k) λt E u=>?_;have w:=u;refine AU ?_;exact BL (kp [5] O) λx m y=>RT
def Q9 (hs:St S L h) {u:Value}{l:BY}(D:Rd S h Bu u l) {d:Int}(p:AA d) {c:Bool}{q:Value}{z:(List CP)}(F:Sl S h B9 q z) {b:Int}(k:AA b) {m:Int}(A:AA m) {r:Int}(E:NU N l d c z b m=some r):
 B0 prog 210 #[u,vI d,.bool c,q,vI b,vI m] S h (λv S' h'=>v=vI r∧AA r∧St S' (L) h'):=by
 refine BA 63 func210 O ntmps210 O λB=>?_;rw[NU] at E;refine AU ?_;refine B4 O D CE O hs λK S2 y x e5 k6=>AU ?_;refine AK (λa w=>IV B S2 y (63,[]) a w [] (L) λ_ _=>Ia N=some r) ?_ ?_
 ·refine AU ?_;refine AK (λa w=>IV B S2 y (63,[]) a w [(6,K),(4,vI b)] (L) λ_ _=>IZ N l b=some r) ?_ ?_
  ·refine AU ?_;refine AK (λa w=>IV B S2 y (63,[]) a w [(6,K),(2,.bool c),(4,vI b)] (L) λ_ _=>LW N c (IZ N l b)=some r) ?_ ?_
   ·refine AU ?_;refine AK (λa w=>IV B S2 y (63,[]) a w [(6,K),(2,.bool c),(4,vI b)] (L) λ_ _=>LV N l c b (Ia N)=some r) ?_ ?_
    ·refine AU ?_;refine AK (λa w=>IV B S2 y (63,[]) a w [(6,K),(1,vI d)] (L) λ_ _=>LU N l d=some r) ?_ ?_
     ·refine AU ?_;refine AK (λa w=>IV B S2 y (63,[]) a w [(6,K),(1,vI d),(3,q),(4,vI b),(5,vI m)] (L) λ_ _=>LT N l d z b m=some r) ?_ ?_
      ·refine AU ?_;refine AF O E (λal E=>?_) (λal E=>?_)
       ·refine A8 O (λs t g j=>?_);exact⟨_,_,g.sub (kp [6,1,3,4,5] O),j,x,(B6.refl S2 y),E⟩
       refine AU ?_;refine AF O E (λam E=>?_) (λam E=>?_)
       ·refine A8 O (λs t g j=>?_);exact⟨_,_,g.sub (kp [6,1] O),j,x,(B6.refl S2 y),E⟩
       refine AU ?_;refine AF O E (λan E=>?_) (λan E=>?_)
       ·refine A8 O (λs t g j=>?_);exact⟨_,_,g.sub (kp [6,2,4] O),j,x,(B6.refl S2 y),E⟩
       refine AU ?_;refine AF O E (λao E=>?_) (λao E=>?_)
       ·refine A8 O (λs t g j=>?_);exact⟨_,_,g.sub (kp [6,2,4] O),j,x,(B6.refl S2 y),E⟩
       refine AU ?_;refine AF O E (λap E=>?_) (λap E=>?_)
       ·refine A8 O (λs t g j=>?_);exact⟨_,_,g.sub (kp [6,4] O),j,x,(B6.refl S2 y),E⟩
       refine AU ?_;refine A8 O (λs t g j=>?_);exact⟨_,_,g.sub MC,j,x,(B6.refl S2 y),E⟩
      rintro s t ⟨ca,cb,g,j,C,aq,E⟩;refine AI ?_ g j;clear g j t s;rw[LT] at E;refine AU ?_;refine BZ (.inr ⟨mo,by kernel_rfl⟩) C ?_;have H:=k6.mono aq;obtain⟨cc,_,ar⟩:=H.lv;refine AU ?_;refine CC E O O O ZK O (λau M h' o=>Q8 (St.all h') (ar.mono (o.all C.1)) k A M) λau E av=>?_;have aw:=av;have ax:=F.nw;refine CC E O O O ZL O (λay Q h' o=>R3 (St.all h') (ax.mono' (o.all C.1)) aw Q) λay E az=>?_;have a0:=az;have a1:=H.fl Dm;have a2:=a1.i;refine AU ?_;refine CC E O O O QX O (λa3 U h' o=>JA (St.all h') a0 p a2 U) λa3 E a4=>?_;have a5:=a4;have a6:=H.fl Mt;have a7:=a6.i;refine AU ?_;refine CC E O O O Pm O (λa8 V h' o=>GB (St.all h') a5 a7 V) λa8 E a9=>?_;have cd:=a9;refine AU ?_;exact BL (kp [12] O) λce b1 cf=>RT
     rintro s t ⟨cg,ch,g,j,W,ba,E⟩;refine AI ?_ g j;clear g j t s;rw[LU] at E;refine AU ?_;refine BZ (.inl O) W ?_;have X:=k6.mono ba;have bb:=X.fl BY.f_Num;have bc:=bb.i;have be:=X.fl Dm;have bf:=be.i;refine AU ?_;refine CC E O O O QX O (λbg Y h' o=>JA (St.all h') bc p bf Y) λbg E bh=>?_;have ci:=bh;refine AU ?_;exact BL (kp [12] O) λcj b2 ck=>RT
    rintro s t ⟨cl,cm,g,j,G,Z,E⟩;refine AI ?_ g j;clear g j t s;rw[LV] at E;refine AU ?_;refine AF O E (λbi E=>?_) (λbi E=>?_)
    ·refine AU ?_;refine BZ (.inl O) G ?_;have ab:=k6.mono Z;have bj:=ab.fl BY.f_Num;have bk:=bj.i;have bl:=ab.fl BY.f_Den;have bm:=bl.i;refine AU ?_;refine CC E O O O QX O (λbn ac h' o=>JA (St.all h') k bk bm ac) λbn E bo=>?_;have cn:=bo;refine AU ?_;exact BL (kp [12] O) λco b3 cp=>RT
    refine AU ?_;refine A8 O (λs t g j=>?_);exact⟨_,_,g.sub MC,j,G,Z,E⟩
   rintro s t ⟨cq,cr,g,j,ad,bp,E⟩;refine AI ?_ g j;clear g j t s;rw[LW] at E;refine AU ?_;refine AF O E (λbq E=>?_) (λbq E=>?_)
   ·exact RT
   refine AU ?_;refine WF.nil (λs t g j=>?_);exact⟨_,_,g.sub (kp [6,4] O),j,ad,bp,E⟩
  rintro s t ⟨cs,ct,g,j,ae,br,E⟩;refine AI ?_ g j;clear g j t s;rw[IZ] at E;refine AU ?_;refine BZ (.inr ⟨mo,by kernel_rfl⟩) ae ?_;have I:=k6.mono br;have bs:=I.fl MB;have bt:=bs.i;refine AU ?_;refine CC E O O O PW O (λbu af h' o=>H7 (St.all h') k bt af) λbu E bv=>?_;have bw:=bv;refine Qk O O O ?_;have bx:=I.fl BY.f_Num;have ag:=bx.i;have ah:=I.fl BY.f_Den;have ai:=ah.i;refine AU ?_;refine CC E O O O QX O (λaj J h' o=>JA (St.all h') (PQ (iq (n:=0) O) bw) ag ai J) λaj E ak=>?_;have b4:=ak;refine AU ?_;exact BL (kp [12] O) λb5 bz b6=>RT
 rintro s t ⟨b7,b8,g,j,b0,b9,E⟩;refine AI ?_ g j;clear g j t s;rw[Ia] at E;exact RT
def Ry (H:St S L h) {d:Value}{n:BY}(l:Rd S h Bu d n) {g:Value}{p:BE}(m:Rd S h BK g p) {a:Int}(b:AA a) {c:Int}(j:AA c) {r:Int}(E:OX N n p a c=some r):
 B0 prog 217 #[d,g,vI a,vI c] S h (λv S' h'=>v=vI r∧AA r∧St S' (L) h'):=by
 refine BA 19 func217 O ntmps217 O λB=>?_;rw[OX] at E;refine AU ?_;refine B4 O l CE O H λY S2 Z t I J=>?_;have K:=m.mono I;refine B4 O K CE O t λq8 S9 M k u w=>AU ?_;refine BZ (.inl O) k ?_;have q:=J.mono u;obtain⟨Q,_,x⟩:=q.lv;have y:=w.fl Po;have z:=y.i;have A:=q.fl KH;obtain⟨U,_,C⟩:=A.ll;refine AU ?_;refine CC E O O O ZY O (λD s h' o=>Q9 (St.all h') (x.mono (o.all k.1)) z (C.mono' (o.all k.1)) b j s) λD E F=>?_;have V:=F;refine AU ?_;exact BL (kp [8] O) λW G X=>RT
def IP (g:St S L h) {a:Int}(b:AA a) {r:Int}(E:Ho N a=some r):
 B0 prog 168 #[vI a] S h (λv S' h'=>∃c:Value,v= .func (.func 219) #[] #[c]∧Pt S' h' AB c r∧St S' (L) h'):=by
 refine BA 4 func168 O ntmps168 O λB=>?_;rw[Ho] at E;refine AU ?_;refine B4 O (⟨_,O,O,b⟩:Rd _ _ AB _ a) (λ_=>rfl) O g λj S2 k d l i=>AU ?_;refine Nk O O O (AU ?_);cases E;exact KN ⟨_,O,i,d⟩ O O EX
def NL (z:St S L h) {b:Value}{c:(List Int)}(i:Sl S h AB b c) {r:Bool}(E:K7 N c=some r):
 B0 prog 242 #[b] S h (λv S' h'=>v= .bool r∧St S' (L) h'):=by
 refine BA 24 func242 O ntmps242 O λB=>?_;rw[K7] at E;refine AU ?_;refine AK (λa w=>IV B S h (24,[]) a w [] (L) λ_ _=>JS N=some r) ?_ ?_
 ·refine AY (λx=>λa w=>∃(o:Int) (p:Int),IV B S h (24,[]) a w [(7,vI (↑c.length:Int)),(6,b),(3,vI o),(8,vI p)] (L) λ_ _=>AA o∧AA p∧H0 N c (JS N) x o p=some r) N ?_ ?_ ?_
  ·intro k l d g;exact⟨0,0,_,_,d.sub (kp [7,6,3,8] O),g,z,(B6.refl S h),(iq (n:=0) O),(iq (n:=0) O),E⟩
  ·rintro k l ⟨_,_,_,_,_,_,_,_,_,_,E⟩;rw[H0] at E;cases E
  rintro x k l ⟨o,p,A,C,d,g,j,m,J,K,E⟩;refine AI ?_ d g;clear d g l k;rw[H0] at E;refine AU ?_;refine AF O E (λq E=>?_) (λq E=>?_)
  ·refine AU ?_;refine AZ (AU ?_);have s:=i.mono' m;refine A9 E O O s sl_29.1 O λt E D F=>AU ?_;refine AF O E (λu E=>?_) (λu E=>?_)
   ·exact RT
   refine AU ?_;refine BD (AU ?_);refine WF.nil (λk l d g=>?_);exact⟨(BG (o+t)),(BG (p+1)),_,_,d.sub (kp [7,6,3,8] O),g,j,m,(BF _),(BF _),E⟩
  refine A8 O (λk l d g=>?_);exact⟨_,_,d.sub MC,g,j,m,E⟩
 rintro k l ⟨G,H,d,g,y,I,E⟩;refine AI ?_ d g;clear d g l k;rw[JS] at E;exact RT
end Go.Proofs.YtedgiljmffngoaaGreat
