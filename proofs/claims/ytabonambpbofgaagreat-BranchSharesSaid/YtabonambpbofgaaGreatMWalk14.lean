import Derived.Test.YtabonambpbofgaaGreatMInst
import Derived.Test.YtabonambpbofgaaGreatMForms
import Derived.Test.YtabonambpbofgaaGreatMSort5
import Derived.Test.YtabonambpbofgaaGreatMCore47
import Derived.Test.YtabonambpbofgaaGreatMSortD
import Derived.Test.YtabonambpbofgaaGreatMWalk1
import Derived.Test.YtabonambpbofgaaGreatMWalk6
import Derived.Test.YtabonambpbofgaaGreatMWalk11
namespace Go.Proofs.YtabonambpbofgaaGreat
set_option linter.all false
open Go.RowKit
open Go.Proofs.Tryz
set_option maxRecDepth 10000
set_option maxHeartbeats 20000000
variable {N:Nat}{S:Nat→Prop}{L:List HP}{h:AO}
def In (C:St S L h) {b:Int}(m:AA b) {r:(List AC)}(E:Cg N b=some r):
 CJ prog 189 #[vN,vI b] S h (λv S' h'=>St S' (OS AW 194 v r::L) h'):=by
 refine CJ.go (l:=[vN,vI b]) 27 func189 O ntmps189 O λB=>?_;rw[Cg] at E;refine Cx (Cu O (kp [0,1] O) (CO (Cx (AD O (Jh O (Ey (kp [6,0,1] O) (AH O E (λD E=>?_) (λD E=>?_))))))))
 ·cases E
 refine D7 (CO (Cx (AD O (AD O (Yg O Pq.1 O (AD O (PL O Pq.1 O (TH O (TH O (Cu O (kp [1,0] O) (Cx (AD O (KK O (Ey (kp [16,1,0] O) (IC (λa w=>∃(p:Value) (s:List AC),IV B S h (27,[]) a w [(0,p)] (OS AW 194 p s::L) λ_ _=>CR N s=some r) ?_ ?_)))))))))))))))
 ·refine AH O E (λF E=>?_) (λF E=>?_)
  ·refine DK (AI 5 (AD O (AD O (Yg O Pq.1 O (sJ O O Pq.1 O (AD O (AE ?_)))))));obtain⟨t,E⟩:=LX E;obtain⟨u,E⟩:=LX E;refine kS O O M9 yK (Acf t) u O O C λG H I J K x y g z=>AI 4 (AD O (PL O Pq.1 O (sI O O Pq.1 O ?_)));have i:=St.bxosc (r:=AW) (l:=([]:List AC)) g (Aaw _) x y bN;refine C5 O (AE (LF.nil (kp [0] O) (WF.nil (λn o c d=>?_))));exact⟨(.slice (some ⟨G,0,none⟩) 0 H),([]:List AC),_,_,c.sub (kp [0] O),d,i,z,E⟩
  refine D7 (WF.nil (λn o c d=>?_));have j:=C.nil AW 194;exact⟨(vN),([]:List AC),_,_,c.sub (kp [0] O),d,j,(BF.refl S h),E⟩
 rintro n o ⟨p,s,M,Q,c,d,k,A,E⟩;refine AL ?_ c d;clear c d o n;rw[CR] at E;refine Cx (AD O (Cu O (kp [4] O) (CI (λn o c d=>?_))));cases E;exact Sd c d O O A k
def IK (hs:St S L h) {c:Value}{b:(List (List AC))}(d:Sl S h (A5.sl AW) c b) {r:(List AC)}(E:CV N b=some r):
 CJ prog 121 #[c] S h (λv S' h'=>St S' (OS AW 194 v r::L) h'):=by
 refine CJ.go 36 func121 O ntmps121 O λB=>?_;rw[CV] at E;refine AU ?_;refine AS (λa w=>∃(V:Int),IV B S h (36,[]) a w [(0,c),(3,vI V)] (L) λ_ _=>AA V∧CL N b V=some r) ?_ ?_
 ·refine A6 (λn1=>λa w=>∃(D:Int) (o:Int),IV B S h (36,[]) a w [(10,vI (↑b.length:Int)),(9,c),(0,c),(3,vI D),(11,vI o)] (L) λ_ _=>AA D∧AA o∧B6 N b (CL N b) n1 D o=some r) N ?_ ?_ ?_
  ·intro j k g i;exact⟨0,0,_,_,g.sub (kp [10,9,0,3,11] O),i,hs,(BF.refl S h),(iq (n:=0) O),(iq (n:=0) O),E⟩
  ·rintro j k ⟨_,_,_,_,_,_,_,_,_,_,E⟩;rw[B6] at E;cases E
  rintro n1 j k ⟨D,o,ai,aj,g,i,t,x,r9,ak,E⟩;refine AL ?_ g i;clear g i k j;rw[B6] at E;refine AU ?_;refine AH O E (λW E=>?_) (λW E=>?_)
  ·refine AU ?_;refine A4 (AU ?_);have X:=d.mono' x;refine BH E O O X bB.1 O λY E al am=>AU ?_;refine AH O E (λZ E=>?_) (λZ E=>?_)
   ·cases E
   refine AU ?_;refine BK (AU ?_);refine WF.nil (λj k g i=>?_);exact⟨(BO (D+(↑Y.length:Int))),(BO (o+1)),_,_,g.sub (kp [10,9,0,3,11] O),i,t,x,(BT _),(BT _),E⟩
  refine BL O (λj k g i=>?_);exact⟨D,_,_,g.sub (kp [0,3] O),i,t,x,r9,E⟩
 rintro j k ⟨V,an,ao,g,i,F,ap,r3,E⟩;refine AL ?_ g i;clear g i k j;rw[CL] at E;refine AU ?_;refine DK (AU ?_);refine GH E O O O qW O (λG H=>In F r3 H) λG E ab y z aq p=>?_;have I:=p;have ac:=d.nw;refine AU ?_;refine AS (λa w=>∃(A:Value) (C:List AC),IV B y z (36,[]) a w [(6,A)] (OS AW 194 A C::L) λ_ _=>C2 N C=some r) ?_ ?_
 ·refine A6 (λn3=>λa w=>∃(s:Value) (m:List AC) (q:Int),IV B y z (36,[]) a w [(26,vI (↑b.length:Int)),(25,c),(6,s),(27,vI q)] (OS AW 194 s m::L) λ_ _=>AA q∧B5 N b (C2 N) n3 m q=some r) N ?_ ?_ ?_
  ·intro j k g i;exact⟨ab,G,0,_,_,g.sub (kp [26,25,6,27] O),i,I,(BF.refl y z),(iq (n:=0) O),E⟩
  ·rintro j k ⟨_,_,_,_,_,_,_,_,_,_,E⟩;rw[B5] at E;cases E
  rintro n3 j k ⟨s,m,q,ar,au,g,i,u,J,av,E⟩;refine AL ?_ g i;clear g i k j;rw[B5] at E;refine AU ?_;refine AH O E (λad E=>?_) (λad E=>?_)
  ·refine AU ?_;refine A4 (AU ?_);have ae:=ac.mono' J;refine BH E O O ae bB.1 O λK E aw af=>?_;obtain⟨ax,_,ag⟩:=af.ll;refine AU ?_;obtain⟨M,E⟩:=LX E;refine GU (r:=AW) (l:=m) (xs:=K) O O M9 O (Sl.src ag) O M O u (λ_=> .head) λah ay Q az=>AU ?_;refine BK (AU ?_);refine WF.nil (λj k g i=>?_);exact⟨ah,(m++K),(BO (q+1)),_,_,g.sub (kp [26,25,6,27] O),i,Q,EX,(BT _),E⟩
  refine BL O (λj k g i=>?_);exact⟨s,m,_,_,g.sub (kp [6] O),i,u,J,E⟩
 rintro j k ⟨A,C,a0,a1,g,i,U,a2,E⟩;refine AL ?_ g i;clear g i k j;rw[C2] at E;refine AU ?_;cases E;exact Fp U O O EX
def L9 (X:St S L h) {c:Value}{d:(List Int)}(q:Sl S h AB c d) {g:Value}{k:(Int→Option Bool)}(s:Rd S h (A5.fn prog (λx:Int=>([vI x]:List Value)) (λx:Int=>AA x) (λy:Bool=> .bool y) (λy:Bool=>True)) g k) {r:Int}(E:Fj N d k=some r):
 CJ prog 111 #[c,g] S h (λv S' h'=>v=vI r∧AA r∧St S' (L) h'):=by
 refine CJ.go 19 func111 O ntmps111 O λB=>?_;rw[Fj] at E;obtain⟨F,G,rfl,H,I⟩:=s.fn;refine AU ?_;refine AS (λa w=>IV B S h (19,[]) a w [] (L) λ_ _=>Ej N=some r) ?_ ?_
 ·refine A6 (λV=>λa w=>∃(z:Int),IV B S h (19,[]) a w [(7,vI (↑d.length:Int)),(0,c),(1,(.func (.func F) #[] G)),(8,vI z)] (L) λ_ _=>AA z∧DX N d k (Ej N) V z=some r) N ?_ ?_ ?_
  ·intro t u l m;exact⟨0,_,_,l.sub (kp [7,0,1,8] O),m,X,(BF.refl S h),(iq (n:=0) O),E⟩
  ·rintro t u ⟨_,_,_,_,_,_,_,_,E⟩;rw[DX] at E;cases E
  rintro V t u ⟨z,Y,Z,l,m,j,p,r9,E⟩;refine AL ?_ l m;clear l m u t;rw[DX] at E;refine AU ?_;refine AH O E (λJ E=>?_) (λJ E=>?_)
  ·refine AU ?_;refine A4 (AU ?_);refine CW (.inl O) j (AU ?_);have K:=q.mono' p;refine BH E O O K CQ.1 O λab E ac M=>?_;have Q:=M.i;refine AU ?_;obtain⟨ad,A,E⟩:=bd E;refine JX O O O H O (λh' o=>I _ h' (λb D=>Aa8 (j.1 b (p.sub b D)) o.siz) (λb D=>(o.same b (j.1 b (p.sub b D))).trans (p.same b D)) [] (St.all h') _ _ Q A) (BW (kp [16,5,7,0,1,8] O) λae C af=>AH O E (λU E=>?_) (λU E=>?_))
   ·exact RT
   refine AU ?_;refine BK (AU ?_);refine WF.nil (λt u l m=>?_);exact⟨(BO (z+1)),_,_,l.sub (kp [7,0,1,8] O),m,C,EX,(BT _),E⟩
  refine BL O (λt u l m=>?_);exact⟨_,_,l.sub Sa,m,j,p,E⟩
 rintro t u ⟨ag,ah,l,m,W,ai,E⟩;refine AL ?_ l m;clear l m u t;rw[Ej] at E;exact RT
def LO (j:St S L h) {a:Value}{g:(List Int)}(d:Sl S h AB a g) {b:Value}{i:(Int→Option Bool)}(c:Rd S h (A5.fn prog (λx:Int=>([vI x]:List Value)) (λx:Int=>AA x) (λy:Bool=> .bool y) (λy:Bool=>True)) b i) {r:Bool}(E:GQ N g i=some r):
 CJ prog 224 #[a,b] S h (λv S' h'=>v= .bool r∧St S' (L) h'):=by
 refine CJ.go 9 func224 O ntmps224 O λB=>?_;rw[GQ] at E;obtain⟨l,m,rfl,n,p⟩:=c.fn;refine AU ?_;refine CW (.inl O) j (AU ?_);refine DF E O O O eN O (λq k h' o=>L9 (St.all h') (d.mono' (o.all j.1)) (c.mono (o.all j.1)) k) λq E s=>?_;have w:=s;refine AU ?_;exact BW (kp [4] O) λz t u=>RT
def Qz (c:St S L h) {a:Int}(b:AA a) {r:Bool}(E:IW N a=some r):
 CJ prog 225 #[vI a] S h (λv S' h'=>v= .bool r∧St S' (L) h'):=by
 refine CJ.go 5 func225 O ntmps225 O λB=>?_;rw[IW] at E;exact RT
def Sg (z:St S L h) {b:Int}(j:AA b) {a:Int}(m:AA a) {c:Value}{g:(List Int)}(d:Sl S h AB c g) {r:(List AV)}(E:K5 N b a g=some r):
 CJ prog 194 #[vN,vI b,vI a,c] S h (λv S' h'=>St S' (OS AX 103 v r::L) h'):=by
 refine CJ.go 32 func194 O ntmps194 O λB=>?_;rw[K5] at E;refine AU ?_;refine PL O QI.1 O (AU ?_);refine PL O QI.1 O (AU ?_);refine AI 1 (jV O O O QI.1 O (AU ?_));refine CW (.inl O) z (AU ?_);obtain⟨Z,i,E⟩:=bd E;refine AY 4 22 (.bool Z) ?_ ?_
 ·cases X:(decide (a<0))
  ·have i:=HM X i;refine AU ?_;have M:Rd S h (A5.fn prog (λx:Int=>([vI x]:List Value)) (λx:Int=>AA x) (λy:Bool=> .bool y) (λy:Bool=>True)) (.func (.func 225) #[] #[]) (λx=>IW N x):=Rd.ofFn 225 #[] qM λS' h' s' e' L z x y h1 h2=>(Qz z h1 h2).mono λ_ _ _ _ p=>⟨p.1,trivial,p.2⟩
   refine BA i O O O qO O (λy4 Q h' o=>LO (St.all h') (d.mono' (o.all z.1)) (M.mono (o.all z.1)) Q) λy4 i=>AU ?_;cases i;exact AZ O
  have i:=HL X i;cases i;exact BE O O
 refine BW (kp [22,9,1,2,3] O) λh6 n e8=>AH O E (λc9 E=>?_) (λc9 E=>?_)
 ·refine AU ?_;have A:=n.nil AX 103;cases E;exact Fp A O O EX
 refine AU ?_;refine DK (AU ?_);have U:=d.mono' e8;refine DN E O O O Mp O n (λu C=>B4 (St.all _) (U.mono n.ea.1 n.ea.2) C) λu E aa ab ac Y ad V p=>?_;have D:=p;have s:=n.join V D ⟨OS.flat (λ{_ _ _ _ _ _} k=>k),trivial⟩;simp only[Aa5,Aa6] at s;refine AU ?_;obtain⟨w,t,rfl,ae⟩:=s.oslen mh;refine Gs (cs:=[vI b,vI a,(.slice w u.length t)]) aS O O O (AU ?_);refine ID (cs:=[vI b,vI a,(.slice w u.length t)]) Rb O O O O O O O s λaf ag F ah=>?_;have G:=F.nil AX 103;obtain⟨ai,H,aj,W⟩:=G.pubs (.tail (.tail .head));obtain⟨I,E⟩:=LX E;refine VC (r:=AX) (l:=([]:List AV)) (xs:=([(⟨b,a,u⟩:AV)]:List AV)) O O Rb O (mt mh) ⟨_,_,O,⟨_,O,j,m,W⟩,O⟩ O O I O H (λ_=> .head) λak al J am=>?_;have K:=J.drop (.tail .head);refine AU ?_;cases E;exact Fp K O O EX
def Kk {d:Nat}{p0_w:AK}{ah:Value}{ai:Value}{aj:Value}{ak:Value}{al:Value}{am:Value}{an:Value}{ao:Value}{Y:Value}{Z:Value}{ab:Value}{ac:Value}{af:Value}{t:Value}{u:Value}{w:Value}{z:Value}{F:Value}{aq:Value}{aw:Value}{Q:Value}{ap:Value}(hs:St S (Bx d 112 [.string p0_w.b.D,ah,vI p0_w.b.J,ai,aj,ak,al,am,an,ao,vI p0_w.b.K,Y,Z,ab,ac,af,vI p0_w.s.B,t,u,w,z,F,aq,aw,Q,ap]::OS (A5.sl AB) 29 t p0_w.s.G::OS AB 3 u p0_w.s.N::OS AX 103 w p0_w.s.I::OS BQ 107 z p0_w.s.R::OS AB 3 F p0_w.s.L::OS AB 3 aq p0_w.s.O::OS B7 116 aw p0_w.moves::OS AB 3 Q p0_w.peaks::OS AX 103 ap p0_w.sent::L) h) (da:p0_w.b.D.size≤maxLen) (db:Sl S h A5.str ah p0_w.b.H) (dc:AA p0_w.b.J) (dd:Sl S h BY ai p0_w.b.A) (de:Sl S h B8 aj p0_w.b.C) (df:Sl S h G7 ak p0_w.b.Af) (dg:Sl S h Eg al p0_w.b.Ah) (dh:Sl S h Gr am p0_w.b.Ai) (di:Sl S h DM an p0_w.b.Ak) (dj:Sl S h AB ao p0_w.b.Aj) (b7:AA p0_w.b.K) (b8:Sl S h AB Y p0_w.in_.T) (b9:Sl S h Cm Z p0_w.in_.Ab) (ca:Sl S h FD ab p0_w.in_.Ac) (cb:Sl S h DE ac p0_w.in_.U) (cc:Sl S h Da af p0_w.in_.Ae) (cd:AA p0_w.s.B) {g:Int}(bw:AA g) {a5:Value}{c:AC}(bx:Rd S h AW a5 c) {r:(List (List Int))×(List Int)×(List AT)×(List AV)}(E:HW N p0_w g c=some r):
 CJ prog 124 #[vP d 0,vI g,a5] S h (λv S' h'=>∃a6 a7 a8 a9:Value,v= .tuple #[]∧St S' (Bx d 112 [.string p0_w.b.D,ah,vI p0_w.b.J,ai,aj,ak,al,am,an,ao,vI p0_w.b.K,Y,Z,ab,ac,af,vI p0_w.s.B,a6,u,w,z,F,a7,a8,Q,a9]::OS (A5.sl AB) 29 a6 r.1::OS AB 3 u p0_w.s.N::OS AX 103 w p0_w.s.I::OS BQ 107 z p0_w.s.R::OS AB 3 F p0_w.s.L::OS AB 3 a7 r.2.1::OS B7 116 a8 r.2.2.1::OS AB 3 Q p0_w.peaks::OS AX 103 a9 r.2.2.2::L) h'):=by
 refine CJ.go 89 func124 O ntmps124 O λB=>?_;rw[HW] at E;refine AU ?_;refine Cn O bx CE O hs λq1 S2 h3 ag e5 k6=>AU ?_;refine RA (kp [5,0,1] O) ?_;obtain⟨ib,dk,E⟩:=bd E;obtain⟨ce,dl,E⟩:=bd E;obtain⟨j,dm,E⟩:=bd E;refine YO (m:=[(5,q1),(0,vP d 0),(1,vI g)]) [] [] [] (λX i v n=>match i with|0=>Pt S2 n (A5.fnr prog (λS h vs (x:(List Int))=>∃w0:Value,vs=[w0]∧Sl S h AB w0 x) (λS h v (y:((List Int)×(List Int)))=>∃w0 w1:Value,v= .tuple #[w0,w1]∧Sl S h AB w0 y.1∧Sl S h AB w1 y.2)) v c.take|1=>Rd S2 n (A5.fnr prog (λS h vs (x:(List Int))=>∃w0:Value,vs=[w0]∧Sl S h AB w0 x) (λS h v (y:((List Int)×(List Int)))=>∃w0 w1:Value,v= .tuple #[w0,w1]∧Sl S h AB w0 y.1∧Sl S h AB w1 y.2)) v c.take|2=>v=vP d 0|3=>v=vP d 0|4=>v=vP d 16|5=>v=vP d 17|6=>v=t|7=>v=vI g∧AA g|8=>EP t (g.toNat*((A5.sl AB)).sz+0) v|9=>Sl S2 n AB v ce|10=>∃w0 w1:Value,v= .tuple #[w0,w1]∧(Sl (SX S2 h3 n X) n AB w0 j.1)∧(Sl (SX S2 h3 n X) n AB w1 j.2)|11=>∃w0 w1:Value,v= .tuple #[w0,w1]∧(Sl (SX S2 h3 n X) n AB w0 j.1)∧(Sl (SX S2 h3 n X) n AB w1 j.2)|12=>Sl (SX S2 h3 n X) n AB v j.1|13=>Sl (SX S2 h3 n X) n AB v j.2|14=>Sl (SX S2 h3 n X) n AB v j.1|15=>Sl (SX S2 h3 n X) n AB v j.2|_=>False) [[],[(0,9)],[],[(2,11)],[(3,12)],[(4,13)],[(5,14)],[],[(6,15),(7,16)],[(8,17)],[(1,10),(9,18)],[(10,19)],[(11,8)],[(11,8)],[(12,20)],[(13,21)]] [(14,6),(15,7)] mo (by kernel_rfl) [5,0,1] O (by kernel_rfl) (by kernel_rfl) (by kernel_rfl) O (kp [5,0,1] O) (λi v h1 h2 X X' o1 o2 u1 u2 hr=>?_) (by kernel_rfl) YM ?_ ?_ ?_
 ·match i,hr with
   |0,hr=>exact(Mv.mono hr (o2.ext λb hb=>Aa8 (ag.1 b hb) o1.siz))
   |1,hr=>exact(Rd.mono hr (o2.ext λb hb=>Aa8 (ag.1 b hb) o1.siz))
   |2,hr|3,hr|4,hr|5,hr|6,hr|7,hr|8,hr=>exact hr
   |9,hr=>exact(Sl.mono' hr (o2.ext λb hb=>Aa8 (ag.1 b hb) o1.siz))
   |10,hr|11,hr=>obtain⟨w0,w1,e,k0,k1⟩:=hr;exact⟨w0,w1,e,(Sl.mono' k0 (SX.mono ag.1 o1 o2 u1 u2)),(Sl.mono' k1 (SX.mono ag.1 o1 o2 u1 u2))⟩
   |12,hr|13,hr|14,hr|15,hr=>exact(Sl.mono' hr (SX.mono ag.1 o1 o2 u1 u2))
   |_+16,hr=>exact hr.elim
 ·exact trivial
 ·refine FB.cons O O O ?_ ?_
  ·intro X mq n o hX;have q:=o.st ag;have fm:=k6.mono (o.ext ag.1);have fn:=fm.fl M2;refine AU ?_;exact BV fn
  refine FB.cons O O O ?_ ?_
  ·intro X mq n o hX;intro fo cf;have q:=o.st ag;have cf:Pt _ _ (A5.fnr prog (λS h vs (x:(List Int))=>∃w0:Value,vs=[w0]∧Sl S h AB w0 x) (λS h v (y:((List Int)×(List Int)))=>∃w0 w1:Value,v= .tuple #[w0,w1]∧Sl S h AB w0 y.1∧Sl S h AB w1 y.2)) fo c.take:=cf;refine AU ?_;refine LD Hi q.1 O cf nP.1 (λ_=>rfl) O λic fp=>AU ?_;exact BV fp
  refine FB.cons O O O ?_ ?_
  ·intro X mq n o hX;have q:=o.st ag;refine AU ?_;exact BV O
  refine FB.cons O O O ?_ ?_
  ·intro X mq n o hX;intro ie fq;have q:=o.st ag;cases fq;refine AU ?_;exact BV O
  refine FB.cons O O O ?_ ?_
  ·intro X mq n o hX;intro ig fr;have q:=o.st ag;cases fr;refine AU ?_;exact BV O
  refine FB.cons O O O ?_ ?_
  ·intro X mq n o hX;intro ih fs;have q:=o.st ag;cases fs;refine AU ?_;exact BV O
  refine FB.cons O O O ?_ ?_
  ·intro X mq n o hX;intro ii ft;have q:=o.st ag;cases ft;refine AU ?_;exact BV O
  refine FB.cons O O O ?_ ?_
  ·intro X mq n o hX;have q:=o.st ag;refine AU ?_;exact BV ⟨O,bw⟩
  refine FB.cons O O O ?_ ?_
  ·intro X mq n o hX;intro ij fu ik fv;have q:=o.st ag;cases fu;obtain⟨rfl,il⟩:=fv;refine AU ?_;refine BS q (mt mh) O O Jl.1 dk O λim dn=>AU ?_;exact BV dn
  refine FB.cons O O O ?_ ?_
  ·intro X mq n o hX;intro io fw;have q:=o.st ag;refine AU ?_;have fx:=q.epAt (mt mh) dl Fd.id fw;refine Hp Hi (λ_ x=>x) O fx GD.1 O λip fy=>AU ?_;exact BV fy
  refine FB.cons O O O ?_ ?_
  ·intro X mq n o hX;intro f0 bc f1 be;have q:=MD (X:=X) ag o;have bc:=Rd.mono (S':=(SX S2 h3 n X)) bc ⟨λb hb=>(SX.ext ag.1 o hX).sub b hb,λ_ _=>rfl,Aa7 _⟩;have bc:Rd _ _ (A5.fnr prog (λS h vs (x:(List Int))=>∃w0:Value,vs=[w0]∧Sl S h AB w0 x) (λS h v (y:((List Int)×(List Int)))=>∃w0 w1:Value,v= .tuple #[w0,w1]∧Sl S h AB w0 y.1∧Sl S h AB w1 y.2)) f0 c.take:=bc;have be:=Sl.mono' (S':=(SX S2 h3 n X)) be ⟨λb hb=>(SX.ext ag.1 o hX).sub b hb,λ_ _=>rfl,Aa7 _⟩;have be:Sl _ _ AB f1 ce:=be;have bf:=q.fz;obtain⟨gm,gn,rfl,dp,dq⟩:=bc.fnr;refine CG O O O dp O (dq _ _ (λb hb=>(BF.refl (SX S2 h3 n X) n).sub b hb) (λb hb=>(BF.refl (SX S2 h3 n X) n).same b hb) _ bf ce _ _ ⟨_,O,be⟩ dm) λir it iu f2 p=>?_;obtain⟨⟨iv,iw,rfl,f3,f4⟩,dr⟩:=p;have bg:=SX.done o hX f2 dr;exact A7 bg.1 ⟨_,_,O,(Sl.mono' f3 bg.2),(Sl.mono' f4 bg.2)⟩
  refine FB.cons O O O ?_ ?_
  ·intro X mq n o hX;intro iy f5;have q:=MD (X:=X) ag o;obtain⟨f6,f7,rfl,cg,ch⟩:=f5;have cg:Sl _ _ AB f6 j.1:=cg;have ch:Sl _ _ AB f7 j.2:=ch;refine AU ?_;exact BV ⟨_,_,O,cg,ch⟩
  refine FB.cons O O O ?_ ?_
  ·intro X mq n o hX;intro iz f8;have q:=MD (X:=X) ag o;obtain⟨f9,ga,rfl,ci,ds⟩:=f8;have ci:Sl _ _ AB f9 j.1:=ci;have ds:Sl _ _ AB ga j.2:=ds;refine AU ?_;exact BV ci
  refine FB.cons O O O ?_ ?_
  ·intro X mq n o hX;intro i0 gb;have q:=MD (X:=X) ag o;obtain⟨gc,ge,rfl,dt,cj⟩:=gb;have dt:Sl _ _ AB gc j.1:=dt;have cj:Sl _ _ AB ge j.2:=cj;refine AU ?_;exact BV cj
  refine FB.cons O O O ?_ ?_
  ·intro X mq n o hX;intro gf ck;have q:=MD (X:=X) ag o;have ck:Sl _ _ AB gf j.1:=ck;refine AU ?_;exact BV ck
  refine FB.cons O O O ?_ ?_
  ·intro X mq n o hX;intro gg bh;have q:=MD (X:=X) ag o;have bh:Sl _ _ AB gg j.2:=bh;refine AU ?_;exact BV bh
  exact trivial
 intro au av du cl bi ay dv bj gh gi;have bk:=(fY.nil ag du cl).st;have ay:Sl _ _ AB bi j.1:=ay;have bj:Sl _ _ AB dv j.2:=bj;refine AU ?_;obtain⟨gp,cm,E⟩:=bd E;refine BS bk (mt mh) O O Jl.1 cm O λgq cn=>AU ?_;obtain⟨dw,co,E⟩:=bd E;refine EM (r:=(A5.sl AB)) (l:=p0_w.s.G) (i:=g) (x:=dw) O O (Jx bj) cn co L7.id GD.1 (λ_=>rfl) bk (.tail .head) λgr bl dx=>AU ?_;refine CW (.inl O) bl (AU ?_);have dy:=ay.mono' dx;refine DF E O O O Pd O (λdz cp h' o=>GZ (St.all h') (dy.mono' (o.all bl.1)) cp) λdz E d0=>?_;have gs:=d0;refine AU ?_;refine BW (kp [32,6,5,0,1] O) λax ar gu=>AH O E (λd1 E=>?_) (λd1 E=>?_)
 ·refine CI (λaa ww hf hw=>?_);cases E;exact Kv hf O hw Ku O EX ⟨_,_,_,_,O,ar⟩
 refine AU ?_;refine TD (m:=[(6,bi),(5,q1),(0,vP d 0),(1,vI g)]) 18 [0] (λi v n=>match i with|0=>v=vP d 0|1=>v=vP d 0|2=>v=vP d 0|3=>v=vP d 23|4=>v=aw|5=>v=vP d 0|6=>v=vP d 0|7=>v=vP d 16|8=>v=vP d 16|9=>v=vI p0_w.s.B∧AA p0_w.s.B|10=>v=vI g∧AA g|11=>Pt (SX S2 h3 au av) n AB v c.to_|12=>v=vI c.to_∧AA c.to_|13=>Pt (SX S2 h3 au av) n AB v c.way|14=>v=vI c.way∧AA c.way|15=>Sl (SX S2 h3 au av) n AB v j.1|16=>Rd (SX S2 h3 au av) n B7 v (⟨p0_w.s.B,g,c.to_,c.way,j.1⟩:AT)|17=>Sl (SN (SX S2 h3 au av) ax n) n B7 v ([(⟨p0_w.s.B,g,c.to_,c.way,j.1⟩:AT)]:List AT)∧∃ad,v= .slice (some ad) 1 1|_=>False) [[],[],[(1,34)],[(2,35)],[(3,36)],[],[(5,38)],[(6,39)],[(7,40)],[(8,41)],[],[],[(11,44)],[],[(13,46)],[],[(9,42),(10,43),(12,45),(14,47),(15,48)],[(16,49)]] [(0,33),(4,37),(17,50)] mo (by kernel_rfl) [6,5,0,1] O (by kernel_rfl) (by kernel_rfl) (by kernel_rfl) (kp [6,5,0,1] O) MO ?_ ?_ ?_
 ·refine RM.cons [] (by kernel_rfl) O O (by kernel_rfl) ?_ ?_
  ·intro mq n o;intro a hf;exact⟨vP d 0,NI hf O,O⟩
  exact trivial
 ·refine A3.cons O Fe (A3.cons O Fe (A3.cons O Fe (A3.cons O Fe (A3.cons O Fe (A3.cons O Fe (A3.cons O Fe (A3.cons O Fe (A3.cons O Fe (A3.cons O Fe (A3.cons O Fe (A3.cons O ?_ ?_)))))))))))
  ·intro mq n o;have q:=o.st ar;have d2:=k6.nw;have d3:=d2.fl LZ;refine AU ?_;exact BV d3
  refine A3.cons O ?_ ?_
  ·intro mq n o;intro d4 bm;have q:=o.st ar;have bm:Pt _ _ AB d4 c.to_:=bm;have d5:=bm.i;refine AU ?_;exact BV ⟨O,d5⟩
  refine A3.cons O ?_ ?_
  ·intro mq n o;have q:=o.st ar;have d6:=k6.nw;have d7:=d6.fl Nb;refine AU ?_;exact BV d7
  refine A3.cons O ?_ ?_
  ·intro mq n o;intro d8 bn;have q:=o.st ar;have bn:Pt _ _ AB d8 c.way:=bn;have d9:=bn.i;refine AU ?_;exact BV ⟨O,d9⟩
  refine A3.cons O ?_ ?_
  ·intro mq n o;have q:=o.st ar;refine AU ?_;have eb:=ay.nw;exact BV eb
  refine A3.cons O ?_ ?_
  ·intro mq n o;intro gv ec gw ed gx ee gy ef eg ba;have q:=o.st ar;obtain⟨rfl,eh⟩:=ec;obtain⟨rfl,ei⟩:=ed;obtain⟨rfl,ej⟩:=ee;obtain⟨rfl,ek⟩:=ef;have ba:Sl _ _ AB eg j.1:=ba;refine AU ?_;obtain⟨cq,bz,rfl,gz⟩:=(ba).len;refine Gs (cs:=[vI p0_w.s.B,vI g,vI c.to_,vI c.way,(.slice cq j.1.length bz)]) aR O O O (AU ?_);exact BV (B7.mk (x:=(⟨p0_w.s.B,g,c.to_,c.way,j.1⟩:AT)) eh ei ej ek ba)
  refine A3.cons O ?_ ?_
  ·intro mq n o;intro el a0;have q:=SN.st ar o;have a0:=Rd.mono (S':=(SN (SX S2 h3 au av) ax n)) a0 ⟨λb hb=> .inl hb,λ_ _=>rfl,Aa7 _⟩;have a0:Rd _ _ B7 el (⟨p0_w.s.B,g,c.to_,c.way,j.1⟩:AT):=a0;have bf:=q.fz;obtain⟨g0,rfl,em,en,eo,ep,b3⟩:=B7.ex a0;obtain⟨cr,b0,rfl,g1⟩:=(b3).len;refine ID (cs:=[vI ((⟨p0_w.s.B,g,c.to_,c.way,j.1⟩:AT).B),vI ((⟨p0_w.s.B,g,c.to_,c.way,j.1⟩:AT).M),vI ((⟨p0_w.s.B,g,c.to_,c.way,j.1⟩:AT).E),vI ((⟨p0_w.s.B,g,c.to_,c.way,j.1⟩:AT).Be),(.slice cr ((⟨p0_w.s.B,g,c.to_,c.way,j.1⟩:AT).W).length b0)]) YB O O O O O O O bf λg2 g3 ct eq=>?_;have er:=b3.mono' eq;have cu:=ct.bxos (r:=B7) (l:=([(⟨p0_w.s.B,g,c.to_,c.way,j.1⟩:AT)]:List AT)) .head ⟨_,_,O,⟨_,O,em,en,eo,ep,er⟩,O⟩ (by simp [maxLen]);obtain⟨g4,cv,g5,es⟩:=cu.pubs .head;have bo:=Fz.done o EX cv;exact A7 bo.1 ⟨Sl.mono' es bo.2,_,O⟩
  exact trivial
 intro a1 eu g6 ev g7 ew g8 bp;have cw:=SN.st ar eu;cases ev;cases ew;obtain⟨bp,gj,rfl⟩:=bp;obtain⟨cx,E⟩:=LX E;refine GU (r:=B7) (l:=p0_w.moves) (xs:=([(⟨p0_w.s.B,g,c.to_,c.way,j.1⟩:AT)]:List AT)) O O YB O (Sl.src bp) O cx O cw (λ_=>(.tail (.tail (.tail (.tail (.tail (.tail (.tail .head)))))))) λg9 ha bq hc=>AU ?_;obtain⟨a3,az,rfl,hd⟩:=bq.oslen (mt (mt (mt (mt (mt (mt (mt mh)))))));refine GN (cs':=[.string p0_w.b.D,ah,vI p0_w.b.J,ai,aj,ak,al,am,an,ao,vI p0_w.b.K,Y,Z,ab,ac,af,vI p0_w.s.B,t,u,w,z,F,aq,(.slice a3 (p0_w.moves++([(⟨p0_w.s.B,g,c.to_,c.way,j.1⟩:AT)]:List AT)).length az),Q,ap]) O O O O Z5.1 O bq .head O O λb4 V he=>?_;have b5:=k6.nw;refine AU ?_;refine AH O E (λey E=>?_) (λey E=>?_)
 ·refine AU ?_;refine DK (AU ?_);have ez:=ay.nw;refine DN E O O O W5 O V (λb6 cy=>Nl (St.all _) (V.oslAll (mt (mt (mt (mt (mt (mt mh))))))) (ez.mono V.ea.1 V.ea.2) cy) λb6 E hg hi hj gl hk e0 p=>?_;have cz:=p;have a4:=V.join e0 cz ⟨OS.flat (λ{_ _ _ _ _ _} k=>k),trivial⟩;simp only[Aa5,Aa6] at a4;refine AU ?_;obtain⟨c0,b1,rfl,hl⟩:=a4.oslen mh;refine GN (cs':=[.string p0_w.b.D,ah,vI p0_w.b.J,ai,aj,ak,al,am,an,ao,vI p0_w.b.K,Y,Z,ab,ac,af,vI p0_w.s.B,t,u,w,z,F,(.slice c0 b6.length b1),(.slice a3 (p0_w.moves++([(⟨p0_w.s.B,g,c.to_,c.way,j.1⟩:AT)]:List AT)).length az),Q,ap]) O O O O GD.1 O a4 (.tail .head) O O λhm c1 hn=>AU ?_;refine CI (λaa ww hf hw=>?_);have c2:=c1.sel [1,1,1,1,1,1,0,1,1,1] 1 O;cases E;exact Kv hf O hw Ku O EX ⟨_,_,_,_,O,c2⟩
 refine AU ?_;obtain⟨bb,c3,E⟩:=bd E;refine TD (m:=[(6,bi),(5,q1),(0,vP d 0)]) 18 [0] (λi v n=>match i with|0=>v=vP d 0|1=>v=vP d 0|2=>v=vP d 0|3=>v=vP d 25|4=>v=ap|5=>v=vP d 0|6=>v=vP d 0|7=>v=vP d 16|8=>v=vP d 16|9=>v=vI p0_w.s.B∧AA p0_w.s.B|10=>v=vI (BO (p0_w.s.B+1))∧AA (BO (p0_w.s.B+1))|11=>Pt (SN (SX S2 h3 au av) ax a1) n AB v c.delay|12=>v=vI c.delay∧AA c.delay|13=>v=vI (BO ((BO (p0_w.s.B+1))+c.delay))∧AA (BO ((BO (p0_w.s.B+1))+c.delay))|14=>Pt (SN (SX S2 h3 au av) ax a1) n AB v c.to_|15=>v=vI c.to_∧AA c.to_|16=>Sl (SN (SX S2 h3 au av) ax a1) n AB v j.1|17=>Sl (SN (SN (SX S2 h3 au av) ax a1) b4 n) n AX v bb|_=>False) [[],[],[(1,69)],[(2,70)],[(3,71)],[],[(5,73)],[(6,74)],[(7,75)],[(8,76)],[(9,77)],[],[(11,79)],[(10,78),(12,80)],[],[(14,82)],[],[(13,81),(15,83),(16,84)]] [(0,68),(4,72),(17,85)] mo (by kernel_rfl) [6,5,0] O (by kernel_rfl) (by kernel_rfl) (by kernel_rfl) (kp [6,5,0] O) MO ?_ ?_ ?_
 ·refine RM.cons [] (by kernel_rfl) O O (by kernel_rfl) ?_ ?_
  ·intro mq n o;intro a hf;exact⟨vP d 0,NI hf O,O⟩
  exact trivial
 ·refine A3.cons O Fe (A3.cons O Fe (A3.cons O Fe (A3.cons O Fe (A3.cons O Fe (A3.cons O Fe (A3.cons O Fe (A3.cons O Fe (A3.cons O Fe (A3.cons O Fe (A3.cons O Fe (A3.cons O ?_ ?_)))))))))))
  ·intro mq n o;have q:=o.st V;have e1:=b5.mono (o.ext V.1);have e2:=e1.fl Ms;refine AU ?_;exact BV e2
  refine A3.cons O ?_ ?_
  ·intro mq n o;intro e3 br;have q:=o.st V;have br:Pt _ _ AB e3 c.delay:=br;have e4:=br.i;refine AU ?_;exact BV ⟨O,e4⟩
  refine A3.cons O Fe (A3.cons O ?_ ?_)
  ·intro mq n o;have q:=o.st V;have e6:=b5.mono (o.ext V.1);have e7:=e6.fl LZ;refine AU ?_;exact BV e7
  refine A3.cons O ?_ ?_
  ·intro mq n o;intro e8 bs;have q:=o.st V;have bs:Pt _ _ AB e8 c.to_:=bs;have e9:=bs.i;refine AU ?_;exact BV ⟨O,e9⟩
  refine A3.cons O ?_ ?_
  ·intro mq n o;have q:=o.st V;refine AU ?_;have fa:=ay.nw;exact BV fa
  refine A3.cons O ?_ ?_
  ·intro mq n o;intro ho fb hp fc fd a2;have q:=SN.st V o;obtain⟨rfl,fe⟩:=fb;obtain⟨rfl,ff⟩:=fc;have a2:=Sl.mono' (S':=(SN (SN (SX S2 h3 au av) ax a1) b4 n)) a2 ⟨λb hb=> .inl hb,λ_ _=>rfl,Aa7 _⟩;have a2:Sl _ _ AB fd j.1:=a2;have bf:=q.fz;refine CG O O O qS O (Sg bf fe ff a2 c3) λhq ht hu hv p=>?_;have c4:=p;obtain⟨hx,c5,hy,fg⟩:=c4.pubs .head;have bt:=Fz.done o EX c5;exact A7 bt.1 (Sl.mono' fg bt.2)
  exact trivial
 intro hz fh h0 fi h4 fj fk bu;have c6:=SN.st V fh;cases fi;cases fj;have bu:Sl _ _ AX fk bb:=bu;obtain⟨c7,E⟩:=LX E;refine GU (r:=AX) (l:=p0_w.sent) (xs:=bb) O O Rb O (Sl.src bu) O c7 O c6 (λ_=>(.tail (.tail (.tail (.tail (.tail (.tail (.tail (.tail (.tail .head)))))))))) λh5 h6 bv h7=>AU ?_;obtain⟨c8,b2,rfl,h8⟩:=bv.oslen (mt (mt (mt (mt (mt (mt (mt (mt (mt mh)))))))));refine GN (cs':=[.string p0_w.b.D,ah,vI p0_w.b.J,ai,aj,ak,al,am,an,ao,vI p0_w.b.K,Y,Z,ab,ac,af,vI p0_w.s.B,t,u,w,z,F,aq,(.slice a3 (p0_w.moves++([(⟨p0_w.s.B,g,c.to_,c.way,j.1⟩:AT)]:List AT)).length az),Q,(.slice c8 (p0_w.sent++bb).length b2)]) O O O O XZ.1 O bv .head O O λh9 c9 ia=>AU ?_;refine WF.nil (λaa ww hf hw=>?_);cases E;exact Kv hf O hw Ku O EX ⟨_,_,_,_,O,c9⟩
end Go.Proofs.YtabonambpbofgaaGreat
