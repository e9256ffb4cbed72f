import Derived.Test.YtibidnaedddfdaaGreatEFacts
import Derived.Test.YtibidnaedddfdaaGreatEForms
import Derived.Test.YtibidnaedddfdaaGreatEInsert
import Derived.Test.YtibidnaedddfdaaGreatEWalk0
namespace Go.Proofs.YtibidnaedddfdaaGreat
set_option linter.all false
open Go.RowKit
open Go.Proofs.Tryz
set_option maxRecDepth 10000
set_option maxHeartbeats 2000000
variable {N:Nat}{S:Nat→Prop}{L:List HP}{h:AX}
def Oh (p:St S L h) {c:Int}(k:AA c) {a:Value}{d:IL}(g:Pt S h FX a d) {r:AB}(E:DH N d c=some r):
 CD prog 108 #[vI c,a] S h (λv S' h'=>v= .agg #[vI r.B,vI r.A]∧AB.ok r∧St S' (L) h'):=by
 refine A7 7 func108 O ntmps108 O λB=>?_;rw[DH] at E;refine AU ?_;refine BZ EA O p λx y l q=>?_;have s:=g.mono q;have t:=s.fl IL.f_Litres;have u:=t.i;refine AU ?_;refine B6 (cs:=[vI 0,vI d.Al]) Fv O O O (AU ?_);refine AW O O O O ty_51.1 O l .head O λz b w=>AU ?_;refine WF.ret (λC D m o=>?_);have j:=b.drop .head;cases E;exact IS m O o (GB (K5 m o b O mh ty_51.1 O) ID) O EX ⟨O,⟨(iq (n:=0) O),u⟩,j⟩
def Mf (i:St S L h) {a:Int}(c:IntKind.has .u64 a) {b:Int}(d:IntKind.has .u64 b) {r:Int×Int}(E:Ie N a b=some r):
 CD prog 142 #[.int .u64 a,.int .u64 b] S h (λv S' h'=>v= .tuple #[.int .u64 r.1,.int .u64 r.2]∧IntKind.has .u64 r.1∧IntKind.has .u64 r.2∧St S' (L) h'):=by
 refine A7 51 func142 O ntmps142 O λB=>?_;rw[Ie] at E;refine AU ?_;refine Kf (j:=32) O O O O (AU ?_);refine Kf (j:=32) O O O O (AU ?_);refine Kf (j:=32) O O O O (AU ?_);refine Kf (j:=32) O O O O (AU ?_);refine Kf (j:=32) O O O O (AU ?_);refine WF.ret (λl m g k=>?_);cases E;exact IS g O k (GB (KG g (v:=_) O) (GB (KG g (v:=_) O) ID)) O (Cc.refl S h) ⟨O,(Fw _ _),(Fw _ _),i⟩
def Py (I:St S L h) {d:Int}(g:IntKind.has .u64 d) {r:Int}(E:Jm N d=some r):
 CD prog 184 #[.int .u64 d] S h (λv S' h'=>v=vI r∧AA r∧St S' (L) h'):=by
 refine A7 25 func184 O ntmps184 O λB=>?_;rw[Jm] at E;refine AU ?_;refine Er (λa w=>∃(x:Int) (y:Int),IV B S h (25,[]) a w [(0,.int .u64 x),(2,vI y)] (L) λ_ _=>IntKind.has .u64 x∧AA y∧HO N x y=some r) ?_ ?_
 ·refine AE O E (λM E=>?_) (λM E=>?_)
  ·refine AU ?_;refine Kf (j:=32) O O O O (AU ?_);refine WF.nil (λl m b c=>?_);exact⟨(FI .u64 d 32),32,_,_,b.sub (kp [0,2] O),c,I,(Cc.refl S h),(Sd _ g _),(iq (n:=32) O),E⟩
  refine AU ?_;refine WF.nil (λl m b c=>?_);exact⟨d,0,_,_,b.sub (kp [0,2] O),c,I,(Cc.refl S h),g,(iq (n:=0) O),E⟩
 rintro l m ⟨x,y,C,D,b,c,z,e9,J,Q,E⟩;refine AI ?_ b c;clear b c m l;rw[HO] at E;refine AU ?_;refine Er (λa w=>∃(i:Int) (k:Int),IV B C D (25,[]) a w [(0,.int .u64 i),(2,vI k)] (L) λ_ _=>IntKind.has .u64 i∧AA k∧HN N i k=some r) ?_ ?_
 ·refine AE O E (λF E=>?_) (λF E=>?_)
  ·refine AU ?_;refine Kf (j:=16) O O O O (AU ?_);refine WF.nil (λl m b c=>?_);exact⟨(FI .u64 x 16),(BR (y+16)),_,_,b.sub (kp [0,2] O),c,z,(Cc.refl C D),(Sd _ J _),(B1 _),E⟩
  refine AU ?_;refine WF.nil (λl m b c=>?_);exact⟨x,y,_,_,b.sub (kp [0,2] O),c,z,(Cc.refl C D),J,Q,E⟩
 rintro l m ⟨i,k,t,u,b,c,q,U,A,G,E⟩;refine AI ?_ b c;clear b c m l;rw[HN] at E;refine AU ?_;refine Er (λa w=>∃(o:Int) (p:Int),IV B t u (25,[]) a w [(0,.int .u64 o),(2,vI p)] (L) λ_ _=>IntKind.has .u64 o∧AA p∧HM N o p=some r) ?_ ?_
 ·refine AE O E (λH E=>?_) (λH E=>?_)
  ·refine AU ?_;refine Kf (j:=8) O O O O (AU ?_);refine WF.nil (λl m b c=>?_);exact⟨(FI .u64 i 8),(BR (k+8)),_,_,b.sub (kp [0,2] O),c,q,(Cc.refl t u),(Sd _ A _),(B1 _),E⟩
  refine AU ?_;refine WF.nil (λl m b c=>?_);exact⟨i,k,_,_,b.sub (kp [0,2] O),c,q,(Cc.refl t u),A,G,E⟩
 rintro l m ⟨o,p,V,W,b,c,K,X,Y,Z,E⟩;refine AI ?_ b c;clear b c m l;rw[HM] at E;refine AU ?_;refine Iy O Nc nV O ?_;obtain⟨ab,s,E⟩:=bd E;have ac:=Q8 s;exact RJ O O us_9.1 s O (Iy O nV QP O (RT))
def MS (d:St S L h) {a:Int}(b:IntKind.has .u64 a) {r:Int}(E:GI N a=some r):
 CD prog 171 #[.int .u64 a] S h (λv S' h'=>v=vI r∧AA r∧St S' (L) h'):=by
 refine A7 6 func171 O ntmps171 O λB=>?_;rw[GI] at E;refine AU ?_;refine WF.rc (.inl O) d (AU ?_);refine BB E O O O kP O (λg c h' o=>Py (St.all h') b c) λg E i=>?_;have k:=i;refine AU ?_;exact BD (kp [2] O) λl j m=>RT
def Mg (hs:St S L h) {d:Int}(X:IntKind.has .u64 d) {b:Int}(x:IntKind.has .u64 b) {c:Int}(D:IntKind.has .u64 c) {r:Int×Int}(E:Gz N d b c=some r):
 CD prog 143 #[.int .u64 d,.int .u64 b,.int .u64 c] S h (λv S' h'=>v= .tuple #[.int .u64 r.1,.int .u64 r.2]∧IntKind.has .u64 r.1∧IntKind.has .u64 r.2∧St S' (L) h'):=by
 refine A7 135 func143 O ntmps143 O λB=>?_;rw[Gz] at E;refine AU ?_;refine AE O E (λc1 E=>?_) (λc1 E=>?_)
 ·cases E
 refine AU ?_;refine AE O E (λc2 E=>?_) (λc2 E=>?_)
 ·cases E
 refine AU ?_;refine AE O E (λc3 E=>?_) (λc3 E=>?_)
 ·refine AU ?_;refine Ix (.inr ⟨mo,by kernel_rfl⟩) (AU ?_);obtain⟨z4,Y,E⟩:=bd E;have r5:IntKind.has .u64 z4:=MF Y;refine Ps O O O Y (AU ?_);obtain⟨z6,Z,E⟩:=bd E;have r7:IntKind.has .u64 z6:=Vf x Z;refine YE O O O Z (AU ?_);refine WF.ret (λq s i l=>?_);cases E;exact IS i O l (GB (KG i (v:=_) O) (GB (KG i (v:=_) O) ID)) O (Cc.refl S h) ⟨O,r5,r7,hs⟩
 refine AU ?_;refine WF.rc (.inl O) hs (AU ?_);refine BB E O O O kU O (λF aj h' o=>MS (St.all h') D aj) λF E r9=>?_;have av:=r9;refine Iy O QP Sg O (AU ?_);refine BD (kp [8,0,1,2] O) λJ ab aw=>AU ?_;obtain⟨g,ac,E⟩:=bd E;refine U5 (j:=g) O O O ac (AU ?_);refine Kf (j:=32) O O O O (AU ?_);obtain⟨m,ad,E⟩:=bd E;refine U5 (j:=m) O O O ad (AU ?_);obtain⟨n,ae,E⟩:=bd E;refine Kf (j:=n) O O O ae (mP O O O (AU ?_));obtain⟨k,af,E⟩:=bd E;refine U5 (j:=k) O O O af (AU ?_);refine Kf (j:=32) O O O O (AU ?_);obtain⟨K,H,E⟩:=bd E;have ak:IntKind.has .u64 K:=MF H;refine Ps O O O H (AU ?_);refine AQ (λa w=>∃(p:Int),IV B S J (135,[]) a w [(14,.int .u64 (Ja .and .u64 (En .u64 b k) 4294967295)),(13,.int .u64 (FI .u64 (En .u64 b k) 32)),(11,.int .u64 (Ja .or .u64 (En .u64 d m) (FI .u64 b n))),(10,.int .u64 (Ja .and .u64 (En .u64 c g) 4294967295)),(9,.int .u64 (FI .u64 (En .u64 c g) 32)),(2,.int .u64 (En .u64 c g)),(8,.int .u64 (IntKind.wrap .u64 F)),(15,.int .u64 p)] (L) λ_ _=>IntKind.has .u64 p∧Ea N d b c F g m n k p=some r) ?_ ?_
 ·refine BJ (λn1=>λa w=>∃(t:Int) (y:Int),IV B S J (135,[]) a w [(14,.int .u64 (Ja .and .u64 (En .u64 b k) 4294967295)),(13,.int .u64 (FI .u64 (En .u64 b k) 32)),(11,.int .u64 (Ja .or .u64 (En .u64 d m) (FI .u64 b n))),(10,.int .u64 (Ja .and .u64 (En .u64 c g) 4294967295)),(9,.int .u64 (FI .u64 (En .u64 c g) 32)),(2,.int .u64 (En .u64 c g)),(8,.int .u64 (IntKind.wrap .u64 F)),(15,.int .u64 t),(16,.int .u64 y)] (L) λ_ _=>IntKind.has .u64 t∧IntKind.has .u64 y∧D4 N b c g k (Ea N d b c F g m n k) n1 t y=some r) N ?_ ?_ ?_
  ·intro q s i l;exact⟨K,(IntKind.wrap .u64 ((Ja .or .u64 (En .u64 d m) (FI .u64 b n))-(IntKind.wrap .u64 (K*(FI .u64 (En .u64 c g) 32))))),_,_,i.sub (kp [14,13,11,10,9,2,8,15,16] O),l,ab,(Cc.refl S J),ak,(Fw _ _),E⟩
  ·rintro q s ⟨_,_,_,_,_,_,_,_,_,_,E⟩;rw[D4] at E;cases E
  rintro n1 q s ⟨t,y,ax,ay,i,l,z,M,al,az,E⟩;refine AI ?_ i l;clear i l s q;rw[D4] at E;refine AU ?_;refine AE O E (λam E=>?_) (λam E=>?_)
  ·refine AU ?_;refine BQ (AU ?_);refine AE O E (λan E=>?_) (λan E=>?_)
   ·refine WF.exit O (λq s i l=>?_);exact⟨(IntKind.wrap .u64 (t-1)),_,_,i.sub (kp [14,13,11,10,9,2,8,15] O),l,z,M,(Fw _ _),E⟩
   refine AU ?_;refine B3 (WF.nil (λq s i l=>?_));exact⟨(IntKind.wrap .u64 (t-1)),(IntKind.wrap .u64 (y+(FI .u64 (En .u64 c g) 32))),_,_,i.sub (kp [14,13,11,10,9,2,8,15,16] O),l,z,M,(Fw _ _),(Fw _ _),E⟩
  refine WF.exit O (λq s i l=>?_);exact⟨t,_,_,i.sub (kp [14,13,11,10,9,2,8,15] O),l,z,M,al,E⟩
 rintro q s ⟨p,Q,U,i,l,ag,a0,a1,E⟩;refine AI ?_ i l;clear i l s q;rw[Ea] at E;refine AU ?_;obtain⟨V,I,E⟩:=bd E;have ao:IntKind.has .u64 V:=MF I;refine Ps O O O I (AU ?_);refine AQ (λa w=>∃(G:Int),IV B Q U (135,[]) a w [(17,.int .u64 (IntKind.wrap .u64 ((IntKind.wrap .u64 ((IntKind.wrap .u64 ((Ja .or .u64 (En .u64 d m) (FI .u64 b n))*4294967296))+(FI .u64 (En .u64 b k) 32)))-(IntKind.wrap .u64 (p*(En .u64 c g)))))),(14,.int .u64 (Ja .and .u64 (En .u64 b k) 4294967295)),(2,.int .u64 (En .u64 c g)),(8,.int .u64 (IntKind.wrap .u64 F)),(15,.int .u64 p),(18,.int .u64 G)] (L) λ_ _=>IntKind.has .u64 G∧GJ N d b c F g m n k p G=some r) ?_ ?_
 ·refine BJ (λn3=>λa w=>∃(A:Int) (u:Int),IV B Q U (135,[]) a w [(17,.int .u64 (IntKind.wrap .u64 ((IntKind.wrap .u64 ((IntKind.wrap .u64 ((Ja .or .u64 (En .u64 d m) (FI .u64 b n))*4294967296))+(FI .u64 (En .u64 b k) 32)))-(IntKind.wrap .u64 (p*(En .u64 c g)))))),(14,.int .u64 (Ja .and .u64 (En .u64 b k) 4294967295)),(10,.int .u64 (Ja .and .u64 (En .u64 c g) 4294967295)),(9,.int .u64 (FI .u64 (En .u64 c g) 32)),(2,.int .u64 (En .u64 c g)),(8,.int .u64 (IntKind.wrap .u64 F)),(15,.int .u64 p),(16,.int .u64 A),(18,.int .u64 u)] (L) λ_ _=>IntKind.has .u64 A∧IntKind.has .u64 u∧EZ N b c g k (GJ N d b c F g m n k p) n3 A u=some r) N ?_ ?_ ?_
  ·intro q s i l;exact⟨(IntKind.wrap .u64 ((IntKind.wrap .u64 ((IntKind.wrap .u64 ((IntKind.wrap .u64 ((Ja .or .u64 (En .u64 d m) (FI .u64 b n))*4294967296))+(FI .u64 (En .u64 b k) 32)))-(IntKind.wrap .u64 (p*(En .u64 c g)))))-(IntKind.wrap .u64 (V*(FI .u64 (En .u64 c g) 32))))),V,_,_,i.sub (kp [17,14,10,9,2,8,15,16,18] O),l,ag,(Cc.refl Q U),(Fw _ _),ao,E⟩
  ·rintro q s ⟨_,_,_,_,_,_,_,_,_,_,E⟩;rw[EZ] at E;cases E
  rintro n3 q s ⟨A,u,a2,a3,i,l,C,W,a4,ap,E⟩;refine AI ?_ i l;clear i l s q;rw[EZ] at E;refine AU ?_;refine AE O E (λaq E=>?_) (λaq E=>?_)
  ·refine AU ?_;refine BQ (AU ?_);refine AE O E (λar E=>?_) (λar E=>?_)
   ·refine WF.exit O (λq s i l=>?_);exact⟨(IntKind.wrap .u64 (u-1)),_,_,i.sub (kp [17,14,2,8,15,18] O),l,C,W,(Fw _ _),E⟩
   refine AU ?_;refine B3 (WF.nil (λq s i l=>?_));exact⟨(IntKind.wrap .u64 (A+(FI .u64 (En .u64 c g) 32))),(IntKind.wrap .u64 (u-1)),_,_,i.sub (kp [17,14,10,9,2,8,15,16,18] O),l,C,W,(Fw _ _),(Fw _ _),E⟩
  refine WF.exit O (λq s i l=>?_);exact⟨u,_,_,i.sub (kp [17,14,2,8,15,18] O),l,C,W,ap,E⟩
 rintro q s ⟨G,a5,a6,i,l,ah,a7,a8,E⟩;refine AI ?_ i l;clear i l s q;rw[GJ] at E;refine AU ?_;obtain⟨au,ai,E⟩:=bd E;refine Kf (j:=au) O O O ai (AU ?_);refine WF.ret (λq s i l=>?_);cases E;exact IS i O l (GB (KG i (v:=_) O) (GB (KG i (v:=_) O) ID)) O EX ⟨O,(Fw _ _),(Sd _ (Fw _ _) _),ah⟩
def KU (F:St S L h) {d:Int}(s:AA d) {a:Int}(l:AA a) {b:Int}(m:AA b) {r:Int×Int×Bool}(E:Ga N d a b=some r):
 CD prog 152 #[vI d,vI a,vI b] S h (λv S' h'=>v= .tuple #[vI r.1,vI r.2.1,.bool r.2.2]∧AA r.1∧AA r.2.1∧St S' (L) h'):=by
 refine A7 61 func152 O ntmps152 O λB=>?_;rw[Ga] at E;refine AU ?_;refine AE O E (λG E=>?_) (λG E=>?_)
 ·refine AU ?_;refine WF.ret (λu w c k=>?_);cases E;exact IS c O k (GB (KG c (v:=_) O) (GB (KG c (v:=_) O) (GB (KG c (v:=_) O) ID))) O (Cc.refl S h) ⟨O,(iq (n:=0) O),(iq (n:=0) O),F⟩
 refine AU ?_;refine WF.rc (.inl O) F (AU ?_);refine Iy O QP Nc O (AU ?_);refine Iy O QP Nc O ?_;obtain⟨t,x,E⟩:=bd E;refine Hu (v:= .tuple #[.int .u64 t.1,.int .u64 t.2]) (Ψ:=IntKind.has .u64 t.1∧IntKind.has .u64 t.2) O O O bB O (λh' o=>(Mf (St.all h') (Fw _ _) (Fw _ _) x).mono λ_ _ _ _ p=>⟨p.1,⟨p.2.1,p.2.2.1⟩⟩) λH=>?_;obtain⟨I,y⟩:=H;refine AU ?_;refine BD (kp [10,9,2] O) λJ i z=>AU ?_;refine Iy O QP Nc O (AU ?_);refine AE O E (λA E=>?_) (λA E=>?_)
 ·refine AU ?_;refine WF.ret (λu w c k=>?_);cases E;exact IS c O k (GB (KG c (v:=_) O) (GB (KG c (v:=_) O) (GB (KG c (v:=_) O) ID))) O z ⟨O,(iq (n:=0) O),(iq (n:=0) O),i⟩
 refine AU ?_;refine WF.rc (.inl O) i (AU ?_);refine Iy O QP Nc O ?_;obtain⟨g,q,E⟩:=bd E;refine Hu (v:= .tuple #[.int .u64 g.1,.int .u64 g.2]) (Ψ:=IntKind.has .u64 g.1∧IntKind.has .u64 g.2) O O O bA O (λh' o=>(Mg (St.all h') I y (Fw _ _) q).mono λ_ _ _ _ p=>⟨p.1,⟨p.2.1,p.2.2.1⟩⟩) λC=>?_;obtain⟨K,M⟩:=C;refine AU ?_;refine BD (kp [12,11] O) λQ j U=>AU ?_;refine AE O E (λD E=>?_) (λD E=>?_)
 ·refine AU ?_;refine WF.ret (λu w c k=>?_);cases E;exact IS c O k (GB (KG c (v:=_) O) (GB (KG c (v:=_) O) (GB (KG c (v:=_) O) ID))) O EX ⟨O,(iq (n:=0) O),(iq (n:=0) O),j⟩
 refine AU ?_;refine Iy O Nc QP O (AU ?_);refine Iy O Nc QP O (AU ?_);refine WF.ret (λu w c k=>?_);cases E;exact IS c O k (GB (KG c (v:=_) O) (GB (KG c (v:=_) O) (GB (KG c (v:=_) O) ID))) O EX ⟨O,(B1 _),(B1 _),j⟩
def LA (l:St S L h) {g:Int}(i:AA g) {a:Int}(c:AA a) {b:Int}(d:AA b) {r:Int}(E:IT N g a b=some r):
 CD prog 173 #[vI g,vI a,vI b] S h (λv S' h'=>v=vI r∧AA r∧St S' (L) h'):=by
 refine A7 21 func173 O ntmps173 O λB=>?_;rw[IT] at E;refine AU ?_;refine WF.rc (.inl O) l (AU ?_);obtain⟨j,k,E⟩:=bd E;refine Hu (v:= .tuple #[vI j.1,vI j.2.1,.bool j.2.2]) (Ψ:=AA j.1∧AA j.2.1) O O O TR O (λh' o=>(KU (St.all h') i c d k).mono λ_ _ _ _ p=>⟨p.1,⟨p.2.1,p.2.2.1⟩⟩) λm=>?_;obtain⟨s,t⟩:=m;refine AU ?_;refine BD (kp [9,7] O) λu n w=>AU ?_;refine AE O E (λq E=>?_) (λq E=>?_)
 ·exact RT
 exact RT
def Tp (H:St S L h) {d:Value}{k:AO}(j:Rd S h BI d k) {a:Int}(b:AA a) {c:Int}(g:AA c) {r:Int}(E:MI N k a c=some r):
 CD prog 175 #[d,vI a,vI c] S h (λv S' h'=>v=vI r∧AA r∧St S' (L) h'):=by
 refine A7 20 func175 O ntmps175 O λB=>?_;rw[MI] at E;refine AU ?_;refine AT O j CE O H λK M Q q U G=>AU ?_;refine AE O E (λs E=>?_) (λs E=>?_)
 ·exact RT
 refine AU ?_;refine WF.rc (.inl O) q ?_;have t:=G.fl Ip;have u:=t.i;have w:=G.fl Iq;have x:=w.i;refine AU ?_;refine BB E O O O TQ O (λy l h' o=>LA (St.all h') g u x l) λy E z=>?_;have A:=z;refine BB E O O O MW O (λC m h' o=>Ge (St.all h') b A m) λC E D=>?_;have F:=D;refine Ku O O O (AU ?_);refine BD (kp [6] O) λI p J=>?_;cases E;exact Kt ⟨O,(HK (iq (n:=0) O) F),p⟩ O O EX
def HH (Z:St S L h) {d:Value}{i:(List AV)}(g:Sl S h B8 d i) {r:Bool}(E:D6 N i=some r):
 CD prog 89 #[d] S h (λv S' h'=>v= .bool r∧St S' (L) h'):=by
 refine A7 63 func89 O ntmps89 O λB=>?_;rw[D6] at E;refine AU ?_;refine AE O E (λc4 E=>?_) (λc4 E=>?_)
 ·exact RT
 refine AU ?_;refine AQ (λa w=>IV B S h (63,[]) a w [] (L) λ_ _=>HT N=some r) ?_ ?_
 ·refine BJ (λX=>λa w=>∃(p:Int),IV B S h (63,[]) a w [(14,vI (↑i.length:Int)),(13,d),(0,d),(15,vI p)] (L) λ_ _=>AA p∧DI N i (HT N) X p=some r) N ?_ ?_ ?_
  ·intro m o j k;exact⟨0,_,_,j.sub (kp [14,13,0,15] O),k,Z,(Cc.refl S h),(iq (n:=0) O),E⟩
  ·rintro m o ⟨_,_,_,_,_,_,_,_,E⟩;rw[DI] at E;cases E
  rintro X m o ⟨p,ab,ac,j,k,l,q,r9,E⟩;refine AI ?_ j k;clear j k o m;rw[DI] at E;refine AU ?_;refine AE O E (λz E=>?_) (λz E=>?_)
  ·refine AU ?_;refine BQ (AU ?_);have A:=g.mono' q;refine AN E O O A sl_54.1 O λC E ad D=>?_;obtain⟨ae,_,F⟩:=D.lv;refine AU ?_;refine BZ VK O l λaf ag s G=>AU ?_;have I:=F.mono G;obtain⟨rfl,⟨ah,ai⟩⟩:=B8.ex I;refine AW O O O O ty_90.1 O s .head O λaj t ak=>AU ?_;refine AE O E (λJ E=>?_) (λJ E=>?_)
   ·exact RT
   refine AU ?_;refine Ix (.inr ⟨mo,by kernel_rfl⟩) (AU ?_);obtain⟨K,b,E⟩:=bd E;refine A6 21 61 (.bool K) ?_ ?_
   ·cases u:(decide (0<p))
    ·have b:=H8 u b;cases b;exact BO O O
    have b:=H7 u b;refine AU ?_;have M:=g.nw;refine AN b O O M sl_54.1 O λQ b am an=>AU ?_;obtain⟨U,c,b⟩:=bd b;refine A6 10 60 (.bool U) ?_ ?_
    ·cases x:(decide (C.H≤Q.H))
     ·have c:=H8 x c;refine AU ?_;have V:=g.nw;refine AN c O O V sl_54.1 O λao c ap aq=>AU ?_;cases c;exact A5 O
     have c:=H7 x c;cases c;exact BO O O
    refine AU ?_;cases b;exact A5 O
   refine AU ?_;refine AE O E (λW E=>?_) (λW E=>?_)
   ·exact RT
   refine AU ?_;refine B3 (AU ?_);refine WF.nil (λm o j k=>?_);have y:=t.drop .head;exact⟨(BR (p+1)),_,_,j.sub (kp [14,13,0,15] O),k,y,EX,(B1 _),E⟩
  refine WF.exit O (λm o j k=>?_);exact⟨_,_,j.sub Ob,k,l,q,E⟩
 rintro m o ⟨ar,au,j,k,Y,av,E⟩;refine AI ?_ j k;clear j k o m;rw[HT] at E;exact RT
def OM (X:St S L h) {g:Int}(q:AA g) {i:Value}{p:(Int→Option Bool)}(s:Rd S h (BU.fn prog (λx:Int=>([vI x]:List Value)) (λx:Int=>AA x) (λy:Bool=> .bool y) (λy:Bool=>True)) i p) {r:Int}(E:LB N g p=some r):
 CD prog 165 #[vI g,i] S h (λv S' h'=>v=vI r∧AA r∧St S' (L) h'):=by
 refine A7 26 func165 O ntmps165 O λB=>?_;rw[LB] at E;obtain⟨H,I,rfl,J,K⟩:=s.fn;refine AU ?_;refine AQ (λa w=>∃(F:Int),IV B S h (26,[]) a w [(5,vI F)] (L) λ_ _=>AA F∧J5 N F=some r) ?_ ?_
 ·refine BJ (λV=>λa w=>∃(c:Int) (d:Int),IV B S h (26,[]) a w [(1,(.func (.func H) #[] I)),(5,vI c),(6,vI d)] (L) λ_ _=>AA c∧AA d∧HL N p (J5 N) V c d=some r) N ?_ ?_ ?_
  ·intro u z l m;exact⟨0,g,_,_,l.sub (kp [1,5,6] O),m,X,(Cc.refl S h),(iq (n:=0) O),q,E⟩
  ·rintro u z ⟨_,_,_,_,_,_,_,_,_,_,E⟩;rw[HL] at E;cases E
  rintro V u z ⟨c,d,Y,Z,l,m,k,t,C,M,E⟩;refine AI ?_ l m;clear l m z u;rw[HL] at E;refine AU ?_;refine AE O E (λQ E=>?_) (λQ E=>?_)
  ·refine AU ?_;refine BQ (AU ?_);refine Iy O QP Sg O (Kf (j:=1) O O O O (Iy O Sg QP O (AU ?_)));refine WF.rc (.inl O) k (AU ?_);obtain⟨ab,D,E⟩:=bd E;refine Lp O O O J O (λh' o=>K _ h' (λb G=>vB (k.1 b (t.sub b G)) o.siz) (λb G=>(o.same b (k.1 b (t.sub b G))).trans (t.same b G)) [] (St.all h') _ _ (B1 _) D) (AU ?_);refine BD (kp [21,7,1,5,6] O) λac A ad=>AE O E (λU E=>?_) (λU E=>?_)
   ·refine AU ?_;refine B3 (WF.nil (λu z l m=>?_));exact⟨(BR ((BR (FI .u64 (IntKind.wrap .u64 (BR (c+d))) 1))+1)),d,_,_,l.sub (kp [1,5,6] O),m,A,EX,(B1 _),M,E⟩
   refine AU ?_;refine B3 (WF.nil (λu z l m=>?_));exact⟨c,(BR (FI .u64 (IntKind.wrap .u64 (BR (c+d))) 1)),_,_,l.sub (kp [1,5,6] O),m,A,EX,C,(B1 _),E⟩
  refine WF.exit O (λu z l m=>?_);exact⟨c,_,_,l.sub (kp [5] O),m,k,t,C,E⟩
 rintro u z ⟨F,ae,af,l,m,W,ag,r6,E⟩;refine AI ?_ l m;clear l m z u;rw[J5] at E;exact RT
end Go.Proofs.YtibidnaedddfdaaGreat
