import Derived.Test.YtabonambpbofgaaGreatKInst
import Derived.Test.YtabonambpbofgaaGreatKForms
import Derived.Test.YtabonambpbofgaaGreatKSort5
import Derived.Test.YtabonambpbofgaaGreatKSortD
import Derived.Test.YtabonambpbofgaaGreatKWalk1
import Derived.Test.YtabonambpbofgaaGreatKWalk6
import Derived.Test.YtabonambpbofgaaGreatKWalk11
namespace Go.Proofs.YtabonambpbofgaaGreat
set_option linter.all false
open Go.RowKit
open Go.Proofs.Tryz
set_option maxRecDepth 10000
set_option maxHeartbeats 20000000
variable {N:Nat}{S:Nat→Prop}{L:List HP}{h:AS}
def I3 (C:St S L h) {b:Int}(m:AA b) {r:(List AD)}(E:Cx N b=some r):
 CM prog 189 #[vN,vI b] S h (λv S' h'=>St S' (OS A3 194 v r::L) h'):=by
 refine CM.go (l:=[vN,vI b]) 27 func189 O ntmps189 O λB=>?_;rw[Cx] at E;refine Ce (Cb O (kp [0,1] O) (CN (Ce (AC O (JW O (Ec (kp [6,0,1] O) (AH O E (λD E=>?_) (λD E=>?_))))))))
 ·cases E
 refine Dz (CN (Ce (AC O (AC O (Yx O QA.1 O (AC O (Pe O QA.1 O (TU O (TU O (Cb O (kp [1,0] O) (Ce (AC O (KX O (Ec (kp [16,1,0] O) (JH (λa w=>∃(p:Value) (s:List AD),IV B S h (27,[]) a w [(0,p)] (OS A3 194 p s::L) λ_ _=>CZ N s=some r) ?_ ?_)))))))))))))))
 ·refine AH O E (λF E=>?_) (λF E=>?_)
  ·refine De (AJ 5 (AC O (AC O (Yx O QA.1 O (tM O O QA.1 O (AC O (AE ?_)))))));obtain⟨t,E⟩:=Lp E;obtain⟨u,E⟩:=Lp E;refine lU O O NY zQ (Ac9 t) u O O C λG H I J K x y g z=>AJ 4 (AC O (Pe O QA.1 O (tL O O QA.1 O ?_)));have i:=St.bxosc (r:=A3) (l:=([]:List AD)) g (Abn _) x y cH;refine Cs O (AE (LF.nil (kp [0] O) (WF.nil (λn o c d=>?_))));exact⟨(.slice (some ⟨G,0,none⟩) 0 H),([]:List AD),_,_,c.sub (kp [0] O),d,i,z,E⟩
  refine Dz (WF.nil (λn o c d=>?_));have j:=C.nil A3 194;exact⟨(vN),([]:List AD),_,_,c.sub (kp [0] O),d,j,(C2.refl S h),E⟩
 rintro n o ⟨p,s,M,Q,c,d,k,A,E⟩;refine AK ?_ c d;clear c d o n;rw[CZ] at E;refine Ce (AC O (Cb O (kp [4] O) (CO (λn o c d=>?_))));cases E;exact SH c d O O A k
def Id (hs:St S L h) {c:Value}{b:(List (List AD))}(d:Sl S h (A7.sl A3) c b) {r:(List AD)}(E:Ck N b=some r):
 CM prog 121 #[c] S h (λv S' h'=>St S' (OS A3 194 v r::L) h'):=by
 refine CM.go 36 func121 O ntmps121 O λB=>?_;rw[Ck] at E;refine AU ?_;refine AQ (λa w=>∃(V:Int),IV B S h (36,[]) a w [(0,c),(3,vI V)] (L) λ_ _=>AA V∧CR N b V=some r) ?_ ?_
 ·refine A8 (λn1=>λa w=>∃(D:Int) (o:Int),IV B S h (36,[]) a w [(10,vI (↑b.length:Int)),(9,c),(0,c),(3,vI D),(11,vI o)] (L) λ_ _=>AA D∧AA o∧CB N b (CR N b) n1 D o=some r) N ?_ ?_ ?_
  ·intro j k g i;exact⟨0,0,_,_,g.sub (kp [10,9,0,3,11] O),i,hs,(C2.refl S h),(iq (n:=0) O),(iq (n:=0) O),E⟩
  ·rintro j k ⟨_,_,_,_,_,_,_,_,_,_,E⟩;rw[CB] at E;cases E
  rintro n1 j k ⟨D,o,ai,aj,g,i,t,x,r9,ak,E⟩;refine AK ?_ g i;clear g i k j;rw[CB] at E;refine AU ?_;refine AH O E (λW E=>?_) (λW E=>?_)
  ·refine AU ?_;refine A5 (AU ?_);have X:=d.mono' x;refine BI E O O X bW.1 O λY E al am=>AU ?_;refine AH O E (λZ E=>?_) (λZ E=>?_)
   ·cases E
   refine AU ?_;refine BJ (AU ?_);refine WF.nil (λj k g i=>?_);exact⟨(BQ (D+(↑Y.length:Int))),(BQ (o+1)),_,_,g.sub (kp [10,9,0,3,11] O),i,t,x,(BW _),(BW _),E⟩
  refine BL O (λj k g i=>?_);exact⟨D,_,_,g.sub (kp [0,3] O),i,t,x,r9,E⟩
 rintro j k ⟨V,an,ao,g,i,F,ap,r3,E⟩;refine AK ?_ g i;clear g i k j;rw[CR] at E;refine AU ?_;refine De (AU ?_);refine GY E O O O sB O (λG H=>I3 F r3 H) λG E ab y z aq p=>?_;have I:=p;have ac:=d.nw;refine AU ?_;refine AQ (λa w=>∃(A:Value) (C:List AD),IV B y z (36,[]) a w [(6,A)] (OS A3 194 A C::L) λ_ _=>DH N C=some r) ?_ ?_
 ·refine A8 (λn3=>λa w=>∃(s:Value) (m:List AD) (q:Int),IV B y z (36,[]) a w [(26,vI (↑b.length:Int)),(25,c),(6,s),(27,vI q)] (OS A3 194 s m::L) λ_ _=>AA q∧CA N b (DH N) n3 m q=some r) N ?_ ?_ ?_
  ·intro j k g i;exact⟨ab,G,0,_,_,g.sub (kp [26,25,6,27] O),i,I,(C2.refl y z),(iq (n:=0) O),E⟩
  ·rintro j k ⟨_,_,_,_,_,_,_,_,_,_,E⟩;rw[CA] at E;cases E
  rintro n3 j k ⟨s,m,q,ar,au,g,i,u,J,av,E⟩;refine AK ?_ g i;clear g i k j;rw[CA] at E;refine AU ?_;refine AH O E (λad E=>?_) (λad E=>?_)
  ·refine AU ?_;refine A5 (AU ?_);have ae:=ac.mono' J;refine BI E O O ae bW.1 O λK E aw af=>?_;obtain⟨ax,_,ag⟩:=af.ll;refine AU ?_;obtain⟨M,E⟩:=Lp E;refine Gl (r:=A3) (l:=m) (xs:=K) O O NY O (Sl.src ag) O M O u (λ_=> .head) λah ay Q az=>AU ?_;refine BJ (AU ?_);refine WF.nil (λj k g i=>?_);exact⟨ah,(m++K),(BQ (q+1)),_,_,g.sub (kp [26,25,6,27] O),i,Q,EX,(BW _),E⟩
  refine BL O (λj k g i=>?_);exact⟨s,m,_,_,g.sub (kp [6] O),i,u,J,E⟩
 rintro j k ⟨A,C,a0,a1,g,i,U,a2,E⟩;refine AK ?_ g i;clear g i k j;rw[DH] at E;refine AU ?_;cases E;exact GF U O O EX
def MW (X:St S L h) {c:Value}{d:(List Int)}(q:Sl S h AB c d) {g:Value}{k:(Int→Option Bool)}(s:Rd S h (A7.fn prog (λx:Int=>([vI x]:List Value)) (λx:Int=>AA x) (λy:Bool=> .bool y) (λy:Bool=>True)) g k) {r:Int}(E:GA N d k=some r):
 CM prog 111 #[c,g] S h (λv S' h'=>v=vI r∧AA r∧St S' (L) h'):=by
 refine CM.go 19 func111 O ntmps111 O λB=>?_;rw[GA] at E;obtain⟨F,G,rfl,H,I⟩:=s.fn;refine AU ?_;refine AQ (λa w=>IV B S h (19,[]) a w [] (L) λ_ _=>E6 N=some r) ?_ ?_
 ·refine A8 (λV=>λa w=>∃(z:Int),IV B S h (19,[]) a w [(7,vI (↑d.length:Int)),(0,c),(1,(.func (.func F) #[] G)),(8,vI z)] (L) λ_ _=>AA z∧Do N d k (E6 N) V z=some r) N ?_ ?_ ?_
  ·intro t u l m;exact⟨0,_,_,l.sub (kp [7,0,1,8] O),m,X,(C2.refl S h),(iq (n:=0) O),E⟩
  ·rintro t u ⟨_,_,_,_,_,_,_,_,E⟩;rw[Do] at E;cases E
  rintro V t u ⟨z,Y,Z,l,m,j,p,r9,E⟩;refine AK ?_ l m;clear l m u t;rw[Do] at E;refine AU ?_;refine AH O E (λJ E=>?_) (λJ E=>?_)
  ·refine AU ?_;refine A5 (AU ?_);refine CV (.inl O) j (AU ?_);have K:=q.mono' p;refine BI E O O K CY.1 O λab E ac M=>?_;have Q:=M.i;refine AU ?_;obtain⟨ad,A,E⟩:=bd E;refine IW O O O H O (λh' o=>I _ h' (λb D=>Ab0 (j.1 b (p.sub b D)) o.siz) (λb D=>(o.same b (j.1 b (p.sub b D))).trans (p.same b D)) [] (St.all h') _ _ Q A) (BZ (kp [16,5,7,0,1,8] O) λae C af=>AH O E (λU E=>?_) (λU E=>?_))
   ·exact RT
   refine AU ?_;refine BJ (AU ?_);refine WF.nil (λt u l m=>?_);exact⟨(BQ (z+1)),_,_,l.sub (kp [7,0,1,8] O),m,C,EX,(BW _),E⟩
  refine BL O (λt u l m=>?_);exact⟨_,_,l.sub Ri,m,j,p,E⟩
 rintro t u ⟨ag,ah,l,m,W,ai,E⟩;refine AK ?_ l m;clear l m u t;rw[E6] at E;exact RT
def Lh (j:St S L h) {a:Value}{g:(List Int)}(d:Sl S h AB a g) {b:Value}{i:(Int→Option Bool)}(c:Rd S h (A7.fn prog (λx:Int=>([vI x]:List Value)) (λx:Int=>AA x) (λy:Bool=> .bool y) (λy:Bool=>True)) b i) {r:Bool}(E:Gg N g i=some r):
 CM prog 224 #[a,b] S h (λv S' h'=>v= .bool r∧St S' (L) h'):=by
 refine CM.go 9 func224 O ntmps224 O λB=>?_;rw[Gg] at E;obtain⟨l,m,rfl,n,p⟩:=c.fn;refine AU ?_;refine CV (.inl O) j (AU ?_);refine DV E O O O fM O (λq k h' o=>MW (St.all h') (d.mono' (o.all j.1)) (c.mono (o.all j.1)) k) λq E s=>?_;have w:=s;refine AU ?_;exact BZ (kp [4] O) λz t u=>RT
def RK (c:St S L h) {a:Int}(b:AA a) {r:Bool}(E:Im N a=some r):
 CM prog 225 #[vI a] S h (λv S' h'=>v= .bool r∧St S' (L) h'):=by
 refine CM.go 5 func225 O ntmps225 O λB=>?_;rw[Im] at E;exact RT
def Sv (z:St S L h) {b:Int}(j:AA b) {a:Int}(m:AA a) {c:Value}{g:(List Int)}(d:Sl S h AB c g) {r:(List AT)}(E:LP N b a g=some r):
 CM prog 194 #[vN,vI b,vI a,c] S h (λv S' h'=>St S' (OS A0 103 v r::L) h'):=by
 refine CM.go 32 func194 O ntmps194 O λB=>?_;rw[LP] at E;refine AU ?_;refine Pe O On.1 O (AU ?_);refine Pe O On.1 O (AU ?_);refine AJ 1 (lA O O O On.1 O (AU ?_));refine CV (.inl O) z (AU ?_);obtain⟨Z,i,E⟩:=bd E;refine AY 4 22 (.bool Z) ?_ ?_
 ·cases X:(decide (a<0))
  ·have i:=HV X i;refine AU ?_;have M:Rd S h (A7.fn prog (λx:Int=>([vI x]:List Value)) (λx:Int=>AA x) (λy:Bool=> .bool y) (λy:Bool=>True)) (.func (.func 225) #[] #[]) (λx=>Im N x):=Rd.ofFn 225 #[] rR λS' h' s' e' L z x y h1 h2=>(RK z h1 h2).mono λ_ _ _ _ p=>⟨p.1,trivial,p.2⟩
   refine BC i O O O rS O (λy4 Q h' o=>Lh (St.all h') (d.mono' (o.all z.1)) (M.mono (o.all z.1)) Q) λy4 i=>AU ?_;cases i;exact AZ O
  have i:=HU X i;cases i;exact BE O O
 refine BZ (kp [22,9,1,2,3] O) λh6 n e8=>AH O E (λc9 E=>?_) (λc9 E=>?_)
 ·refine AU ?_;have A:=n.nil A0 103;cases E;exact GF A O O EX
 refine AU ?_;refine De (AU ?_);have U:=d.mono' e8;refine Dd E O O O M8 O n (λu C=>B8 (St.all _) (U.mono n.ea.1 n.ea.2) C) λu E aa ab ac Y ad V p=>?_;have D:=p;have s:=n.join V D ⟨OS.flat (λ{_ _ _ _ _ _} k=>k),trivial⟩;simp only[Abx,Abz] at s;refine AU ?_;obtain⟨w,t,rfl,ae⟩:=s.oslen mh;refine Gz (cs:=[vI b,vI a,(.slice w u.length t)]) bM O O O (AU ?_);refine JJ (cs:=[vI b,vI a,(.slice w u.length t)]) Rq O O O O O O O s λaf ag F ah=>?_;have G:=F.nil A0 103;obtain⟨ai,H,aj,W⟩:=G.pubs (.tail (.tail .head));obtain⟨I,E⟩:=Lp E;refine VT (r:=A0) (l:=([]:List AT)) (xs:=([(⟨b,a,u⟩:AT)]:List AT)) O O Rq O (mt mh) ⟨_,_,O,⟨_,O,j,m,W⟩,O⟩ O O I O H (λ_=> .head) λak al J am=>?_;have K:=J.drop (.tail .head);refine AU ?_;cases E;exact GF K O O EX
def Ky {d:Nat}{p0_w:AM}{ah:Value}{ai:Value}{aj:Value}{ak:Value}{al:Value}{am:Value}{an:Value}{ao:Value}{Y:Value}{Z:Value}{ab:Value}{ac:Value}{af:Value}{t:Value}{u:Value}{w:Value}{z:Value}{F:Value}{aq:Value}{aw:Value}{Q:Value}{ap:Value}(hs:St S (Bx d 112 [.string p0_w.b.E,ah,vI p0_w.b.J,ai,aj,ak,al,am,an,ao,vI p0_w.b.K,Y,Z,ab,ac,af,vI p0_w.s.B,t,u,w,z,F,aq,aw,Q,ap]::OS (A7.sl AB) 29 t p0_w.s.G::OS AB 3 u p0_w.s.N::OS A0 103 w p0_w.s.I::OS BT 107 z p0_w.s.P::OS AB 3 F p0_w.s.L::OS AB 3 aq p0_w.s.O::OS CC 116 aw p0_w.moves::OS AB 3 Q p0_w.peaks::OS A0 103 ap p0_w.sent::L) h) (da:p0_w.b.E.size≤maxLen) (db:Sl S h A7.str ah p0_w.b.H) (dc:AA p0_w.b.J) (dd:Sl S h B4 ai p0_w.b.A) (de:Sl S h CD aj p0_w.b.C) (df:Sl S h HN ak p0_w.b.Af) (dg:Sl S h Ex al p0_w.b.Ah) (dh:Sl S h G7 am p0_w.b.Ai) (di:Sl S h Dc an p0_w.b.Ak) (dj:Sl S h AB ao p0_w.b.Aj) (b7:AA p0_w.b.K) (b8:Sl S h AB Y p0_w.in_.T) (b9:Sl S h C3 Z p0_w.in_.Ab) (ca:Sl S h FX ab p0_w.in_.Ac) (cb:Sl S h DU ac p0_w.in_.U) (cc:Sl S h Du af p0_w.in_.Ae) (cd:AA p0_w.s.B) {g:Int}(bw:AA g) {a5:Value}{c:AD}(bx:Rd S h A3 a5 c) {r:(List (List Int))×(List Int)×(List AX)×(List AT)}(E:Ho N p0_w g c=some r):
 CM prog 124 #[vP d 0,vI g,a5] S h (λv S' h'=>∃a6 a7 a8 a9:Value,v= .tuple #[]∧St S' (Bx d 112 [.string p0_w.b.E,ah,vI p0_w.b.J,ai,aj,ak,al,am,an,ao,vI p0_w.b.K,Y,Z,ab,ac,af,vI p0_w.s.B,a6,u,w,z,F,a7,a8,Q,a9]::OS (A7.sl AB) 29 a6 r.1::OS AB 3 u p0_w.s.N::OS A0 103 w p0_w.s.I::OS BT 107 z p0_w.s.P::OS AB 3 F p0_w.s.L::OS AB 3 a7 r.2.1::OS CC 116 a8 r.2.2.1::OS AB 3 Q p0_w.peaks::OS A0 103 a9 r.2.2.2::L) h'):=by
 refine CM.go 89 func124 O ntmps124 O λB=>?_;rw[Ho] at E;refine AU ?_;refine Cg O bx CE O hs λq1 S2 h3 ag e5 k6=>AU ?_;refine RW (kp [5,0,1] O) ?_;obtain⟨h9,dk,E⟩:=bd E;obtain⟨ce,dl,E⟩:=bd E;obtain⟨j,dm,E⟩:=bd E;refine Yf (m:=[(5,q1),(0,vP d 0),(1,vI g)]) [] [] [] (λX i v n=>match i with|0=>Pt S2 n (A7.fnr prog (λS h vs (x:(List Int))=>∃w0:Value,vs=[w0]∧Sl S h AB w0 x) (λS h v (y:((List Int)×(List Int)))=>∃w0 w1:Value,v= .tuple #[w0,w1]∧Sl S h AB w0 y.1∧Sl S h AB w1 y.2)) v c.take|1=>Rd S2 n (A7.fnr prog (λS h vs (x:(List Int))=>∃w0:Value,vs=[w0]∧Sl S h AB w0 x) (λS h v (y:((List Int)×(List Int)))=>∃w0 w1:Value,v= .tuple #[w0,w1]∧Sl S h AB w0 y.1∧Sl S h AB w1 y.2)) v c.take|2=>v=vP d 0|3=>v=vP d 0|4=>v=vP d 16|5=>v=vP d 17|6=>v=t|7=>v=vI g∧AA g|8=>EP t (g.toNat*((A7.sl AB)).sz+0) v|9=>Sl S2 n AB v ce|10=>∃w0 w1:Value,v= .tuple #[w0,w1]∧(Sl (SX S2 h3 n X) n AB w0 j.1)∧(Sl (SX S2 h3 n X) n AB w1 j.2)|11=>∃w0 w1:Value,v= .tuple #[w0,w1]∧(Sl (SX S2 h3 n X) n AB w0 j.1)∧(Sl (SX S2 h3 n X) n AB w1 j.2)|12=>Sl (SX S2 h3 n X) n AB v j.1|13=>Sl (SX S2 h3 n X) n AB v j.2|14=>Sl (SX S2 h3 n X) n AB v j.1|15=>Sl (SX S2 h3 n X) n AB v j.2|_=>False) [[],[(0,9)],[],[(2,11)],[(3,12)],[(4,13)],[(5,14)],[],[(6,15),(7,16)],[(8,17)],[(1,10),(9,18)],[(10,19)],[(11,8)],[(11,8)],[(12,20)],[(13,21)]] [(14,6),(15,7)] mo (by kernel_rfl) [5,0,1] O (by kernel_rfl) (by kernel_rfl) (by kernel_rfl) O (kp [5,0,1] O) (λi v h1 h2 X X' o1 o2 u1 u2 hr=>?_) (by kernel_rfl) Yd ?_ ?_ ?_
 ·match i,hr with
   |0,hr=>exact(NI.mono hr (o2.ext λb hb=>Ab0 (ag.1 b hb) o1.siz))
   |1,hr=>exact(Rd.mono hr (o2.ext λb hb=>Ab0 (ag.1 b hb) o1.siz))
   |2,hr|3,hr|4,hr|5,hr|6,hr|7,hr|8,hr=>exact hr
   |9,hr=>exact(Sl.mono' hr (o2.ext λb hb=>Ab0 (ag.1 b hb) o1.siz))
   |10,hr|11,hr=>obtain⟨w0,w1,e,k0,k1⟩:=hr;exact⟨w0,w1,e,(Sl.mono' k0 (SX.mono ag.1 o1 o2 u1 u2)),(Sl.mono' k1 (SX.mono ag.1 o1 o2 u1 u2))⟩
   |12,hr|13,hr|14,hr|15,hr=>exact(Sl.mono' hr (SX.mono ag.1 o1 o2 u1 u2))
   |_+16,hr=>exact hr.elim
 ·exact trivial
 ·refine FV.cons O O O ?_ ?_
  ·intro X mq n o hX;have q:=o.st ag;have fm:=k6.mono (o.ext ag.1);have fn:=fm.fl NT;refine AU ?_;exact B1 fn
  refine FV.cons O O O ?_ ?_
  ·intro X mq n o hX;intro fo cf;have q:=o.st ag;have cf:Pt _ _ (A7.fnr prog (λS h vs (x:(List Int))=>∃w0:Value,vs=[w0]∧Sl S h AB w0 x) (λS h v (y:((List Int)×(List Int)))=>∃w0 w1:Value,v= .tuple #[w0,w1]∧Sl S h AB w0 y.1∧Sl S h AB w1 y.2)) fo c.take:=cf;refine AU ?_;refine KZ Hj q.1 O cf oY.1 (λ_=>rfl) O λia fp=>AU ?_;exact B1 fp
  refine FV.cons O O O ?_ ?_
  ·intro X mq n o hX;have q:=o.st ag;refine AU ?_;exact B1 O
  refine FV.cons O O O ?_ ?_
  ·intro X mq n o hX;intro ib fq;have q:=o.st ag;cases fq;refine AU ?_;exact B1 O
  refine FV.cons O O O ?_ ?_
  ·intro X mq n o hX;intro ic fr;have q:=o.st ag;cases fr;refine AU ?_;exact B1 O
  refine FV.cons O O O ?_ ?_
  ·intro X mq n o hX;intro ie fs;have q:=o.st ag;cases fs;refine AU ?_;exact B1 O
  refine FV.cons O O O ?_ ?_
  ·intro X mq n o hX;intro ig ft;have q:=o.st ag;cases ft;refine AU ?_;exact B1 O
  refine FV.cons O O O ?_ ?_
  ·intro X mq n o hX;have q:=o.st ag;refine AU ?_;exact B1 ⟨O,bw⟩
  refine FV.cons O O O ?_ ?_
  ·intro X mq n o hX;intro ih fu ii fv;have q:=o.st ag;cases fu;obtain⟨rfl,ij⟩:=fv;refine AU ?_;refine BR q (mt mh) O O Jh.1 dk O λik dn=>AU ?_;exact B1 dn
  refine FV.cons O O O ?_ ?_
  ·intro X mq n o hX;intro il fw;have q:=o.st ag;refine AU ?_;have fx:=q.epAt (mt mh) dl Fg.id fw;refine H5 Hj (λ_ x=>x) O fx GU.1 O λim fy=>AU ?_;exact B1 fy
  refine FV.cons O O O ?_ ?_
  ·intro X mq n o hX;intro f0 bc f1 be;have q:=Mb (X:=X) ag o;have bc:=Rd.mono (S':=(SX S2 h3 n X)) bc ⟨λb hb=>(SX.ext ag.1 o hX).sub b hb,λ_ _=>rfl,Ab1 _⟩;have bc:Rd _ _ (A7.fnr prog (λS h vs (x:(List Int))=>∃w0:Value,vs=[w0]∧Sl S h AB w0 x) (λS h v (y:((List Int)×(List Int)))=>∃w0 w1:Value,v= .tuple #[w0,w1]∧Sl S h AB w0 y.1∧Sl S h AB w1 y.2)) f0 c.take:=bc;have be:=Sl.mono' (S':=(SX S2 h3 n X)) be ⟨λb hb=>(SX.ext ag.1 o hX).sub b hb,λ_ _=>rfl,Ab1 _⟩;have be:Sl _ _ AB f1 ce:=be;have bf:=q.fz;obtain⟨gl,gm,rfl,dp,dq⟩:=bc.fnr;refine CW O O O dp O (dq _ _ (λb hb=>(C2.refl (SX S2 h3 n X) n).sub b hb) (λb hb=>(C2.refl (SX S2 h3 n X) n).same b hb) _ bf ce _ _ ⟨_,O,be⟩ dm) λio ip ir f2 p=>?_;obtain⟨⟨it,iu,rfl,f3,f4⟩,dr⟩:=p;have bg:=SX.done o hX f2 dr;exact BA bg.1 ⟨_,_,O,(Sl.mono' f3 bg.2),(Sl.mono' f4 bg.2)⟩
  refine FV.cons O O O ?_ ?_
  ·intro X mq n o hX;intro iv f5;have q:=Mb (X:=X) ag o;obtain⟨f6,f7,rfl,cg,ch⟩:=f5;have cg:Sl _ _ AB f6 j.1:=cg;have ch:Sl _ _ AB f7 j.2:=ch;refine AU ?_;exact B1 ⟨_,_,O,cg,ch⟩
  refine FV.cons O O O ?_ ?_
  ·intro X mq n o hX;intro iw f8;have q:=Mb (X:=X) ag o;obtain⟨f9,ga,rfl,ci,ds⟩:=f8;have ci:Sl _ _ AB f9 j.1:=ci;have ds:Sl _ _ AB ga j.2:=ds;refine AU ?_;exact B1 ci
  refine FV.cons O O O ?_ ?_
  ·intro X mq n o hX;intro iy gb;have q:=Mb (X:=X) ag o;obtain⟨gc,gd,rfl,dt,cj⟩:=gb;have dt:Sl _ _ AB gc j.1:=dt;have cj:Sl _ _ AB gd j.2:=cj;refine AU ?_;exact B1 cj
  refine FV.cons O O O ?_ ?_
  ·intro X mq n o hX;intro ge ck;have q:=Mb (X:=X) ag o;have ck:Sl _ _ AB ge j.1:=ck;refine AU ?_;exact B1 ck
  refine FV.cons O O O ?_ ?_
  ·intro X mq n o hX;intro gf bh;have q:=Mb (X:=X) ag o;have bh:Sl _ _ AB gf j.2:=bh;refine AU ?_;exact B1 bh
  exact trivial
 intro au av du cl bi ay dv bj gg gh;have bk:=(iC.nil ag du cl).st;have ay:Sl _ _ AB bi j.1:=ay;have bj:Sl _ _ AB dv j.2:=bj;refine AU ?_;obtain⟨gn,cm,E⟩:=bd E;refine BR bk (mt mh) O O Jh.1 cm O λgp cn=>AU ?_;obtain⟨dw,co,E⟩:=bd E;refine Ee (r:=(A7.sl AB)) (l:=p0_w.s.G) (i:=g) (x:=dw) O O (KB bj) cn co L4.id GU.1 (λ_=>rfl) bk (.tail .head) λgq bl dx=>AU ?_;refine CV (.inl O) bl (AU ?_);have dy:=ay.mono' dx;refine DV E O O O Pz O (λdz cp h' o=>Gr (St.all h') (dy.mono' (o.all bl.1)) cp) λdz E d0=>?_;have gr:=d0;refine AU ?_;refine BZ (kp [32,6,5,0,1] O) λax ar gs=>AH O E (λd1 E=>?_) (λd1 E=>?_)
 ·refine CO (λaa ww hf hw=>?_);cases E;exact LC hf O hw LB O EX ⟨_,_,_,_,O,ar⟩
 refine AU ?_;refine TQ (m:=[(6,bi),(5,q1),(0,vP d 0),(1,vI g)]) 18 [0] (λi v n=>match i with|0=>v=vP d 0|1=>v=vP d 0|2=>v=vP d 0|3=>v=vP d 23|4=>v=aw|5=>v=vP d 0|6=>v=vP d 0|7=>v=vP d 16|8=>v=vP d 16|9=>v=vI p0_w.s.B∧AA p0_w.s.B|10=>v=vI g∧AA g|11=>Pt (SX S2 h3 au av) n AB v c.to_|12=>v=vI c.to_∧AA c.to_|13=>Pt (SX S2 h3 au av) n AB v c.way|14=>v=vI c.way∧AA c.way|15=>Sl (SX S2 h3 au av) n AB v j.1|16=>Rd (SX S2 h3 au av) n CC v (⟨p0_w.s.B,g,c.to_,c.way,j.1⟩:AX)|17=>Sl (SN (SX S2 h3 au av) ax n) n CC v ([(⟨p0_w.s.B,g,c.to_,c.way,j.1⟩:AX)]:List AX)∧∃ad,v= .slice (some ad) 1 1|_=>False) [[],[],[(1,34)],[(2,35)],[(3,36)],[],[(5,38)],[(6,39)],[(7,40)],[(8,41)],[],[],[(11,44)],[],[(13,46)],[],[(9,42),(10,43),(12,45),(14,47),(15,48)],[(16,49)]] [(0,33),(4,37),(17,50)] mo (by kernel_rfl) [6,5,0,1] O (by kernel_rfl) (by kernel_rfl) (by kernel_rfl) (kp [6,5,0,1] O) MO ?_ ?_ ?_
 ·refine Re.cons [] (by kernel_rfl) O O (by kernel_rfl) ?_ ?_
  ·intro mq n o;intro a hf;exact⟨vP d 0,Nh hf O,O⟩
  exact trivial
 ·refine A6.cons O Fx (A6.cons O Fx (A6.cons O Fx (A6.cons O Fx (A6.cons O Fx (A6.cons O Fx (A6.cons O Fx (A6.cons O Fx (A6.cons O Fx (A6.cons O Fx (A6.cons O Fx (A6.cons O ?_ ?_)))))))))))
  ·intro mq n o;have q:=o.st ar;have d2:=k6.nw;have d3:=d2.fl Lw;refine AU ?_;exact B1 d3
  refine A6.cons O ?_ ?_
  ·intro mq n o;intro d4 bm;have q:=o.st ar;have bm:Pt _ _ AB d4 c.to_:=bm;have d5:=bm.i;refine AU ?_;exact B1 ⟨O,d5⟩
  refine A6.cons O ?_ ?_
  ·intro mq n o;have q:=o.st ar;have d6:=k6.nw;have d7:=d6.fl Nw;refine AU ?_;exact B1 d7
  refine A6.cons O ?_ ?_
  ·intro mq n o;intro d8 bn;have q:=o.st ar;have bn:Pt _ _ AB d8 c.way:=bn;have d9:=bn.i;refine AU ?_;exact B1 ⟨O,d9⟩
  refine A6.cons O ?_ ?_
  ·intro mq n o;have q:=o.st ar;refine AU ?_;have eb:=ay.nw;exact B1 eb
  refine A6.cons O ?_ ?_
  ·intro mq n o;intro gt ec gu ed gv ee gw ef eg ba;have q:=o.st ar;obtain⟨rfl,eh⟩:=ec;obtain⟨rfl,ei⟩:=ed;obtain⟨rfl,ej⟩:=ee;obtain⟨rfl,ek⟩:=ef;have ba:Sl _ _ AB eg j.1:=ba;refine AU ?_;obtain⟨cq,bz,rfl,gx⟩:=(ba).len;refine Gz (cs:=[vI p0_w.s.B,vI g,vI c.to_,vI c.way,(.slice cq j.1.length bz)]) bK O O O (AU ?_);exact B1 (CC.mk (x:=(⟨p0_w.s.B,g,c.to_,c.way,j.1⟩:AX)) eh ei ej ek ba)
  refine A6.cons O ?_ ?_
  ·intro mq n o;intro el a0;have q:=SN.st ar o;have a0:=Rd.mono (S':=(SN (SX S2 h3 au av) ax n)) a0 ⟨λb hb=> .inl hb,λ_ _=>rfl,Ab1 _⟩;have a0:Rd _ _ CC el (⟨p0_w.s.B,g,c.to_,c.way,j.1⟩:AX):=a0;have bf:=q.fz;obtain⟨gy,rfl,em,en,eo,ep,b3⟩:=CC.ex a0;obtain⟨cr,b0,rfl,gz⟩:=(b3).len;refine JJ (cs:=[vI ((⟨p0_w.s.B,g,c.to_,c.way,j.1⟩:AX).B),vI ((⟨p0_w.s.B,g,c.to_,c.way,j.1⟩:AX).M),vI ((⟨p0_w.s.B,g,c.to_,c.way,j.1⟩:AX).D),vI ((⟨p0_w.s.B,g,c.to_,c.way,j.1⟩:AX).Be),(.slice cr ((⟨p0_w.s.B,g,c.to_,c.way,j.1⟩:AX).V).length b0)]) YR O O O O O O O bf λg0 g1 ct eq=>?_;have er:=b3.mono' eq;have cu:=ct.bxos (r:=CC) (l:=([(⟨p0_w.s.B,g,c.to_,c.way,j.1⟩:AX)]:List AX)) .head ⟨_,_,O,⟨_,O,em,en,eo,ep,er⟩,O⟩ (by simp [maxLen]);obtain⟨g2,cv,g3,es⟩:=cu.pubs .head;have bo:=Fz.done o EX cv;exact BA bo.1 ⟨Sl.mono' es bo.2,_,O⟩
  exact trivial
 intro a1 eu g4 ev g5 ew g6 bp;have cw:=SN.st ar eu;cases ev;cases ew;obtain⟨bp,gi,rfl⟩:=bp;obtain⟨cx,E⟩:=Lp E;refine Gl (r:=CC) (l:=p0_w.moves) (xs:=([(⟨p0_w.s.B,g,c.to_,c.way,j.1⟩:AX)]:List AX)) O O YR O (Sl.src bp) O cx O cw (λ_=>(.tail (.tail (.tail (.tail (.tail (.tail (.tail .head)))))))) λg7 g8 bq g9=>AU ?_;obtain⟨a3,az,rfl,ha⟩:=bq.oslen (mt (mt (mt (mt (mt (mt (mt mh)))))));refine Ge (cs':=[.string p0_w.b.E,ah,vI p0_w.b.J,ai,aj,ak,al,am,an,ao,vI p0_w.b.K,Y,Z,ab,ac,af,vI p0_w.s.B,t,u,w,z,F,aq,(.slice a3 (p0_w.moves++([(⟨p0_w.s.B,g,c.to_,c.way,j.1⟩:AX)]:List AX)).length az),Q,ap]) O O O O aP.1 O bq .head O O λb4 W hc=>?_;have b5:=k6.nw;refine AU ?_;refine AH O E (λey E=>?_) (λey E=>?_)
 ·refine AU ?_;refine De (AU ?_);have ez:=ay.nw;refine Dd E O O O XP O W (λb6 cy=>N6 (St.all _) (W.oslAll (mt (mt (mt (mt (mt (mt mh))))))) (ez.mono W.ea.1 W.ea.2) cy) λb6 E hd he hg gj hi e0 p=>?_;have cz:=p;have a4:=W.join e0 cz ⟨OS.flat (λ{_ _ _ _ _ _} k=>k),trivial⟩;simp only[Abx,Abz] at a4;refine AU ?_;obtain⟨c0,b1,rfl,hj⟩:=a4.oslen mh;refine Ge (cs':=[.string p0_w.b.E,ah,vI p0_w.b.J,ai,aj,ak,al,am,an,ao,vI p0_w.b.K,Y,Z,ab,ac,af,vI p0_w.s.B,t,u,w,z,F,(.slice c0 b6.length b1),(.slice a3 (p0_w.moves++([(⟨p0_w.s.B,g,c.to_,c.way,j.1⟩:AX)]:List AX)).length az),Q,ap]) O O O O GU.1 O a4 (.tail .head) O O λhk c1 hl=>AU ?_;refine CO (λaa ww hf hw=>?_);have c2:=c1.sel [1,1,1,1,1,1,0,1,1,1] 1 O;cases E;exact LC hf O hw LB O EX ⟨_,_,_,_,O,c2⟩
 refine AU ?_;obtain⟨bb,c3,E⟩:=bd E;refine TQ (m:=[(6,bi),(5,q1),(0,vP d 0)]) 18 [0] (λi v n=>match i with|0=>v=vP d 0|1=>v=vP d 0|2=>v=vP d 0|3=>v=vP d 25|4=>v=ap|5=>v=vP d 0|6=>v=vP d 0|7=>v=vP d 16|8=>v=vP d 16|9=>v=vI p0_w.s.B∧AA p0_w.s.B|10=>v=vI (BQ (p0_w.s.B+1))∧AA (BQ (p0_w.s.B+1))|11=>Pt (SN (SX S2 h3 au av) ax a1) n AB v c.delay|12=>v=vI c.delay∧AA c.delay|13=>v=vI (BQ ((BQ (p0_w.s.B+1))+c.delay))∧AA (BQ ((BQ (p0_w.s.B+1))+c.delay))|14=>Pt (SN (SX S2 h3 au av) ax a1) n AB v c.to_|15=>v=vI c.to_∧AA c.to_|16=>Sl (SN (SX S2 h3 au av) ax a1) n AB v j.1|17=>Sl (SN (SN (SX S2 h3 au av) ax a1) b4 n) n A0 v bb|_=>False) [[],[],[(1,69)],[(2,70)],[(3,71)],[],[(5,73)],[(6,74)],[(7,75)],[(8,76)],[(9,77)],[],[(11,79)],[(10,78),(12,80)],[],[(14,82)],[],[(13,81),(15,83),(16,84)]] [(0,68),(4,72),(17,85)] mo (by kernel_rfl) [6,5,0] O (by kernel_rfl) (by kernel_rfl) (by kernel_rfl) (kp [6,5,0] O) MO ?_ ?_ ?_
 ·refine Re.cons [] (by kernel_rfl) O O (by kernel_rfl) ?_ ?_
  ·intro mq n o;intro a hf;exact⟨vP d 0,Nh hf O,O⟩
  exact trivial
 ·refine A6.cons O Fx (A6.cons O Fx (A6.cons O Fx (A6.cons O Fx (A6.cons O Fx (A6.cons O Fx (A6.cons O Fx (A6.cons O Fx (A6.cons O Fx (A6.cons O Fx (A6.cons O Fx (A6.cons O ?_ ?_)))))))))))
  ·intro mq n o;have q:=o.st W;have e1:=b5.mono (o.ext W.1);have e2:=e1.fl NE;refine AU ?_;exact B1 e2
  refine A6.cons O ?_ ?_
  ·intro mq n o;intro e3 br;have q:=o.st W;have br:Pt _ _ AB e3 c.delay:=br;have e4:=br.i;refine AU ?_;exact B1 ⟨O,e4⟩
  refine A6.cons O Fx (A6.cons O ?_ ?_)
  ·intro mq n o;have q:=o.st W;have e6:=b5.mono (o.ext W.1);have e7:=e6.fl Lw;refine AU ?_;exact B1 e7
  refine A6.cons O ?_ ?_
  ·intro mq n o;intro e8 bs;have q:=o.st W;have bs:Pt _ _ AB e8 c.to_:=bs;have e9:=bs.i;refine AU ?_;exact B1 ⟨O,e9⟩
  refine A6.cons O ?_ ?_
  ·intro mq n o;have q:=o.st W;refine AU ?_;have fa:=ay.nw;exact B1 fa
  refine A6.cons O ?_ ?_
  ·intro mq n o;intro hm fb hn fc fd a2;have q:=SN.st W o;obtain⟨rfl,fe⟩:=fb;obtain⟨rfl,ff⟩:=fc;have a2:=Sl.mono' (S':=(SN (SN (SX S2 h3 au av) ax a1) b4 n)) a2 ⟨λb hb=> .inl hb,λ_ _=>rfl,Ab1 _⟩;have a2:Sl _ _ AB fd j.1:=a2;have bf:=q.fz;refine CW O O O rX O (Sv bf fe ff a2 c3) λho hp hq ht p=>?_;have c4:=p;obtain⟨hu,c5,hv,fg⟩:=c4.pubs .head;have bt:=Fz.done o EX c5;exact BA bt.1 (Sl.mono' fg bt.2)
  exact trivial
 intro hx fh hy fi hz fj fk bu;have c6:=SN.st W fh;cases fi;cases fj;have bu:Sl _ _ A0 fk bb:=bu;obtain⟨c7,E⟩:=Lp E;refine Gl (r:=A0) (l:=p0_w.sent) (xs:=bb) O O Rq O (Sl.src bu) O c7 O c6 (λ_=>(.tail (.tail (.tail (.tail (.tail (.tail (.tail (.tail (.tail .head)))))))))) λh0 h4 bv h5=>AU ?_;obtain⟨c8,b2,rfl,h6⟩:=bv.oslen (mt (mt (mt (mt (mt (mt (mt (mt (mt mh)))))))));refine Ge (cs':=[.string p0_w.b.E,ah,vI p0_w.b.J,ai,aj,ak,al,am,an,ao,vI p0_w.b.K,Y,Z,ab,ac,af,vI p0_w.s.B,t,u,w,z,F,aq,(.slice a3 (p0_w.moves++([(⟨p0_w.s.B,g,c.to_,c.way,j.1⟩:AX)]:List AX)).length az),Q,(.slice c8 (p0_w.sent++bb).length b2)]) O O O O Xp.1 O bv .head O O λh7 c9 h8=>AU ?_;refine WF.nil (λaa ww hf hw=>?_);cases E;exact LC hf O hw LB O EX ⟨_,_,_,_,O,c9⟩
end Go.Proofs.YtabonambpbofgaaGreat
