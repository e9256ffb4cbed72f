import Derived.Test.YtedgiljmffngoaaGreatPInst
import Derived.Test.YtedgiljmffngoaaGreatPForms
import Derived.Test.YtedgiljmffngoaaGreatPSort5
import Derived.Test.YtedgiljmffngoaaGreatPWalk0
import Derived.Test.YtedgiljmffngoaaGreatPWalk2
import Derived.Test.YtedgiljmffngoaaGreatPWalk3
namespace Go.Proofs.YtedgiljmffngoaaGreat
set_option linter.all false
open Go.RowKit
open Go.Proofs.Tryz
set_option maxRecDepth 10000
set_option maxHeartbeats 20000000
variable {N:Nat}{S:Nat→Prop}{L:List HP}{h:AS}
def IB (C:St S L h) {b:Int}(m:AA b) {r:(List AD)}(E:CO N b=some r):
 B6 prog 214 #[vN,vI b] S h (λv S' h'=>St S' (OS A0 259 v r::L) h'):=by
 refine A7 (l:=[vN,vI b]) 27 func214 O ntmps214 O λB=>?_;rw[CO] at E;refine DP (Dj O (kp [0,1] O) (C6 (DP (BP O (K1 O (Ew (kp [6,0,1] O) (AG O E (λD E=>?_) (λD E=>?_))))))))
 ·cases E
 refine F9 (C6 (DP (BP O (BP O (Ys O P9.1 O (BP O (Pi O P9.1 O (PL O (PL O (Dj O (kp [1,0] O) (DP (BP O (JA O (Ew (kp [16,1,0] O) (Gx (λa w=>∃(p:Value) (s:List AD),IV B S h (27,[]) a w [(0,p)] (OS A0 259 p s::L) λ_ _=>CD N s=some r) ?_ ?_)))))))))))))))
 ·refine AG O E (λF E=>?_) (λF E=>?_)
  ·refine B1 (L6 5 (BP O (BP O (Ys O P9.1 O (sH O O P9.1 O (BP O (K2 ?_)))))));obtain⟨t,E⟩:=KM E;obtain⟨u,E⟩:=KM E;refine lA O O NJ xQ (Ab8 t) u O O C λG H I J K x y g z=>L6 4 (BP O (Pi O P9.1 O (sG O O P9.1 O ?_)));have i:=eZ (r:=A0) (l:=([]:List AD)) g (Aad _) x y cA;refine Ke O (K2 (LF.nil (kp [0] O) (WF.nil (λn o c d=>?_))));exact⟨(.slice (some ⟨G,0,none⟩) 0 H),([]:List AD),_,_,c.sub (kp [0] O),d,i,z,E⟩
  refine F9 (WF.nil (λn o c d=>?_));have j:=C.nil A0 259;exact⟨(vN),([]:List AD),_,_,c.sub (kp [0] O),d,j,(CG.refl S h),E⟩
 rintro n o ⟨p,s,M,Q,c,d,k,A,E⟩;refine AK ?_ c d;clear c d o n;rw[CD] at E;refine DP (BP O (Dj O (kp [4] O) (B0 (λn o c d=>?_))));cases E;exact UC c d O O A k
def Hr (hs:St S L h) {c:Value}{b:(List (List AD))}(d:Sl S h (A6.sl A0) c b) {r:(List AD)}(E:CH N b=some r):
 B6 prog 164 #[c] S h (λv S' h'=>St S' (OS A0 259 v r::L) h'):=by
 refine A7 36 func164 O ntmps164 O λB=>?_;rw[CH] at E;refine AU ?_;refine AN (λa w=>∃(V:Int),IV B S h (36,[]) a w [(0,c),(3,vI V)] (L) λ_ _=>AA V∧B8 N b V=some r) ?_ ?_
 ·refine AY (λn1=>λa w=>∃(D:Int) (o:Int),IV B S h (36,[]) a w [(10,vI (↑b.length:Int)),(9,c),(0,c),(3,vI D),(11,vI o)] (L) λ_ _=>AA D∧AA o∧Bv N b (B8 N b) n1 D o=some r) N ?_ ?_ ?_
  ·intro j k g i;exact⟨0,0,_,_,g.sub (kp [10,9,0,3,11] O),i,hs,(CG.refl S h),(iq (n:=0) O),(iq (n:=0) O),E⟩
  ·rintro j k ⟨_,_,_,_,_,_,_,_,_,_,E⟩;rw[Bv] at E;cases E
  rintro n1 j k ⟨D,o,ai,aj,g,i,t,x,r9,ak,E⟩;refine AK ?_ g i;clear g i k j;rw[Bv] at E;refine AU ?_;refine AG O E (λW E=>?_) (λW E=>?_)
  ·refine AU ?_;refine A3 (AU ?_);have X:=d.mono' x;refine A4 E O O X bI.1 O λY E al am=>AU ?_;refine AG O E (λZ E=>?_) (λZ E=>?_)
   ·cases E
   refine AU ?_;refine BE (AU ?_);refine WF.nil (λj k g i=>?_);exact⟨(A9 (D+(↑Y.length:Int))),(A9 (o+1)),_,_,g.sub (kp [10,9,0,3,11] O),i,t,x,(BF _),(BF _),E⟩
  refine A8 O (λj k g i=>?_);exact⟨D,_,_,g.sub (kp [0,3] O),i,t,x,r9,E⟩
 rintro j k ⟨V,an,ao,g,i,F,ap,r3,E⟩;refine AK ?_ g i;clear g i k j;rw[B8] at E;refine AU ?_;refine B1 (AU ?_);refine BQ E O O O qP O (λG H=>IB F r3 H) λG E ab y z aq p=>?_;have I:=p;have ac:=d.nw;refine AU ?_;refine AN (λa w=>∃(A:Value) (C:List AD),IV B y z (36,[]) a w [(6,A)] (OS A0 259 A C::L) λ_ _=>Ca N C=some r) ?_ ?_
 ·refine AY (λn3=>λa w=>∃(s:Value) (m:List AD) (q:Int),IV B y z (36,[]) a w [(26,vI (↑b.length:Int)),(25,c),(6,s),(27,vI q)] (OS A0 259 s m::L) λ_ _=>AA q∧Bu N b (Ca N) n3 m q=some r) N ?_ ?_ ?_
  ·intro j k g i;exact⟨ab,G,0,_,_,g.sub (kp [26,25,6,27] O),i,I,(CG.refl y z),(iq (n:=0) O),E⟩
  ·rintro j k ⟨_,_,_,_,_,_,_,_,_,_,E⟩;rw[Bu] at E;cases E
  rintro n3 j k ⟨s,m,q,ar,au,g,i,u,J,av,E⟩;refine AK ?_ g i;clear g i k j;rw[Bu] at E;refine AU ?_;refine AG O E (λad E=>?_) (λad E=>?_)
  ·refine AU ?_;refine A3 (AU ?_);have ae:=ac.mono' J;refine A4 E O O ae bI.1 O λK E aw af=>?_;obtain⟨ax,_,ag⟩:=af.ll;refine AU ?_;obtain⟨M,E⟩:=KM E;refine KO (r:=A0) (l:=m) (xs:=K) O O NJ O (Sl.src ag) O M O u (λ_=> .head) λah ay Q az=>AU ?_;refine BE (AU ?_);refine WF.nil (λj k g i=>?_);exact⟨ah,(m++K),(A9 (q+1)),_,_,g.sub (kp [26,25,6,27] O),i,Q,EX,(BF _),E⟩
  refine A8 O (λj k g i=>?_);exact⟨s,m,_,_,g.sub (kp [6] O),i,u,J,E⟩
 rintro j k ⟨A,C,a0,a1,g,i,U,a2,E⟩;refine AK ?_ g i;clear g i k j;rw[Ca] at E;refine AU ?_;cases E;exact KG U O O EX
def Ly (X:St S L h) {c:Value}{d:(List Int)}(q:Sl S h AB c d) {g:Value}{k:(Int→Option Bool)}(s:Rd S h (A6.fn prog (λx:Int=>([vI x]:List Value)) (λx:Int=>AA x) (λy:Bool=> .bool y) (λy:Bool=>True)) g k) {r:Int}(E:En N d k=some r):
 B6 prog 290 #[c,g] S h (λv S' h'=>v=vI r∧AA r∧St S' (L) h'):=by
 refine A7 19 func290 O ntmps290 O λB=>?_;rw[En] at E;obtain⟨F,G,rfl,H,I⟩:=s.fn;refine AU ?_;refine AN (λa w=>IV B S h (19,[]) a w [] (L) λ_ _=>D4 N=some r) ?_ ?_
 ·refine AY (λV=>λa w=>∃(z:Int),IV B S h (19,[]) a w [(7,vI (↑d.length:Int)),(0,c),(1,(.func (.func F) #[] G)),(8,vI z)] (L) λ_ _=>AA z∧Cy N d k (D4 N) V z=some r) N ?_ ?_ ?_
  ·intro t u l m;exact⟨0,_,_,l.sub (kp [7,0,1,8] O),m,X,(CG.refl S h),(iq (n:=0) O),E⟩
  ·rintro t u ⟨_,_,_,_,_,_,_,_,E⟩;rw[Cy] at E;cases E
  rintro V t u ⟨z,Y,Z,l,m,j,p,r9,E⟩;refine AK ?_ l m;clear l m u t;rw[Cy] at E;refine AU ?_;refine AG O E (λJ E=>?_) (λJ E=>?_)
  ·refine AU ?_;refine A3 (AU ?_);refine BY (.inl O) j (AU ?_);have K:=q.mono' p;refine A4 E O O K Ce.1 O λab E ac M=>?_;have Q:=M.i;refine AU ?_;obtain⟨ad,A,E⟩:=bd E;refine K3 O O O H O (λh' o=>I _ h' (λb D=>Aak (j.1 b (p.sub b D)) o.siz) (λb D=>(o.same b (j.1 b (p.sub b D))).trans (p.same b D)) [] (St.all h') _ _ Q A) (BG (kp [16,5,7,0,1,8] O) λae C af=>AG O E (λU E=>?_) (λU E=>?_))
   ·exact RT
   refine AU ?_;refine BE (AU ?_);refine WF.nil (λt u l m=>?_);exact⟨(A9 (z+1)),_,_,l.sub (kp [7,0,1,8] O),m,C,EX,(BF _),E⟩
  refine A8 O (λt u l m=>?_);exact⟨_,_,l.sub Nv,m,j,p,E⟩
 rintro t u ⟨ag,ah,l,m,W,ai,E⟩;refine AK ?_ l m;clear l m u t;rw[D4] at E;exact RT
def K8 (j:St S L h) {a:Value}{g:(List Int)}(d:Sl S h AB a g) {b:Value}{i:(Int→Option Bool)}(c:Rd S h (A6.fn prog (λx:Int=>([vI x]:List Value)) (λx:Int=>AA x) (λy:Bool=> .bool y) (λy:Bool=>True)) b i) {r:Bool}(E:FX N g i=some r):
 B6 prog 269 #[a,b] S h (λv S' h'=>v= .bool r∧St S' (L) h'):=by
 refine A7 9 func269 O ntmps269 O λB=>?_;rw[FX] at E;obtain⟨l,m,rfl,n,p⟩:=c.fn;refine AU ?_;refine BY (.inl O) j (AU ?_);refine B4 E O O O pQ O (λq k h' o=>Ly (St.all h') (d.mono' (o.all j.1)) (c.mono (o.all j.1)) k) λq E s=>?_;have w:=s;refine AU ?_;exact BG (kp [4] O) λz t u=>RT
def RX (c:St S L h) {a:Int}(b:AA a) {r:Bool}(E:H0 N a=some r):
 B6 prog 270 #[vI a] S h (λv S' h'=>v= .bool r∧St S' (L) h'):=by
 refine A7 5 func270 O ntmps270 O λB=>?_;rw[H0] at E;exact RT
def TA (z:St S L h) {b:Int}(j:AA b) {a:Int}(m:AA a) {c:Value}{g:(List Int)}(d:Sl S h AB c g) {r:(List AO)}(E:Kt N b a g=some r):
 B6 prog 218 #[vN,vI b,vI a,c] S h (λv S' h'=>St S' (OS AZ 121 v r::L) h'):=by
 refine A7 32 func218 O ntmps218 O λB=>?_;rw[Kt] at E;refine AU ?_;refine Pi O LA.1 O (AU ?_);refine Pi O LA.1 O (AU ?_);refine L6 1 (kC O O O LA.1 O (AU ?_));refine BY (.inl O) z (AU ?_);obtain⟨Z,i,E⟩:=bd E;refine AW 4 22 (.bool Z) ?_ ?_
 ·cases X:(decide (a<0))
  ·have i:=Gw X i;refine AU ?_;have M:Rd S h (A6.fn prog (λx:Int=>([vI x]:List Value)) (λx:Int=>AA x) (λy:Bool=> .bool y) (λy:Bool=>True)) (.func (.func 270) #[] #[]) (λx=>H0 N x):=Rd.ofFn 270 #[] pY λS' h' s' e' L z x y h1 h2=>(RX z h1 h2).mono λ_ _ _ _ p=>⟨p.1,trivial,p.2⟩
   refine A5 i O O O pZ O (λy4 Q h' o=>K8 (St.all h') (d.mono' (o.all z.1)) (M.mono (o.all z.1)) Q) λy4 i=>AU ?_;cases i;exact AX O
  have i:=Gv X i;cases i;exact BD O O
 refine BG (kp [22,9,1,2,3] O) λh6 n e8=>AG O E (λc9 E=>?_) (λc9 E=>?_)
 ·refine AU ?_;have A:=n.nil AZ 121;cases E;exact KG A O O EX
 refine AU ?_;refine B1 (AU ?_);have U:=d.mono' e8;refine Cf E O O O QO O n (λu C=>Di (St.all _) (U.mono n.ea.1 n.ea.2) C) λu E aa ab ac Y ad V p=>?_;have D:=p;have s:=n.join V D ⟨OS.flat (λ{_ _ _ _ _ _} k=>k),trivial⟩;simp only[Aa4,Aav] at s;refine AU ?_;obtain⟨w,t,rfl,ae⟩:=s.oslen mh;refine FV (cs:=[vI b,vI a,(.slice w u.length t)]) Ww O O O (AU ?_);refine Ez (cs:=[vI b,vI a,(.slice w u.length t)]) R6 O O O O O O O s λaf ag F ah=>?_;have G:=F.nil AZ 121;obtain⟨ai,H,aj,W⟩:=G.pubs (.tail (.tail .head));obtain⟨I,E⟩:=KM E;refine Jw (r:=AZ) (l:=([]:List AO)) (xs:=([(⟨b,a,u⟩:AO)]:List AO)) O O R6 O (mt mh) ⟨_,_,O,⟨_,O,j,m,W⟩,O⟩ O O I O H (λ_=> .head) λak al J am=>?_;have K:=J.drop (.tail .head);refine AU ?_;cases E;exact KG K O O EX
def KQ {d:Nat}{p0_w:AL}{ag:Value}{ah:Value}{ai:Value}{aj:Value}{ak:Value}{al:Value}{am:Value}{an:Value}{V:Value}{W:Value}{Y:Value}{ab:Value}{ac:Value}{t:Value}{u:Value}{w:Value}{z:Value}{G:Value}{ap:Value}{av:Value}{Q:Value}{ao:Value}(hs:St S (Bx d 160 [.string p0_w.b.J,ag,vI p0_w.b.P,ah,ai,aj,ak,al,am,an,vI p0_w.b.S,V,W,Y,ab,ac,vI p0_w.s.C,t,u,w,z,G,ap,av,Q,ao]::OS (A6.sl AB) 29 t p0_w.s.E::OS AB 3 u p0_w.s.M::OS AZ 121 w p0_w.s.H::OS BJ 106 z p0_w.s.O::OS AB 3 G p0_w.s.N::OS AB 3 ap p0_w.s.L::OS BO 74 av p0_w.moves::OS AB 3 Q p0_w.peaks::OS AZ 121 ao p0_w.sent::L) h) (c9:p0_w.b.J.size≤maxLen) (da:Sl S h A6.str ag p0_w.b.I) (db:AA p0_w.b.P) (dc:Sl S h CJ ah p0_w.b.A) (dd:Sl S h B7 ai p0_w.b.F) (de:Sl S h HO aj p0_w.b.Ab) (df:Sl S h Eh ak p0_w.b.Ae) (dg:Sl S h Gy al p0_w.b.Af) (dh:Sl S h DD am p0_w.b.Ai) (di:Sl S h AB an p0_w.b.Al) (b6:AA p0_w.b.S) (b7:Sl S h AB V p0_w.in_.Aa) (b8:Sl S h Gm W p0_w.in_.Ah) (b9:Sl S h Jy Y p0_w.in_.Aj) (ca:Sl S h Gl ab p0_w.in_.Z) (cb:Sl S h Ha ac p0_w.in_.Aq) (cc:AA p0_w.s.C) {g:Int}(bv:AA g) {a4:Value}{c:AD}(bw:Rd S h A0 a4 c) {r:(List (List Int))×(List Int)×(List AI)×(List AO)}(E:E8 N p0_w g c=some r):
 B6 prog 167 #[vP d 0,vI g,a4] S h (λv S' h'=>∃a5 a6 a7 a8:Value,v= .tuple #[]∧St S' (Bx d 160 [.string p0_w.b.J,ag,vI p0_w.b.P,ah,ai,aj,ak,al,am,an,vI p0_w.b.S,V,W,Y,ab,ac,vI p0_w.s.C,a5,u,w,z,G,a6,a7,Q,a8]::OS (A6.sl AB) 29 a5 r.1::OS AB 3 u p0_w.s.M::OS AZ 121 w p0_w.s.H::OS BJ 106 z p0_w.s.O::OS AB 3 G p0_w.s.N::OS AB 3 a6 r.2.1::OS BO 74 a7 r.2.2.1::OS AB 3 Q p0_w.peaks::OS AZ 121 a8 r.2.2.2::L) h'):=by
 refine A7 89 func167 O ntmps167 O λB=>?_;rw[E8] at E;refine AU ?_;refine Bz O bw CE O hs λq1 S2 h3 af e5 k6=>AU ?_;refine TZ (kp [5,0,1] O) ?_;obtain⟨h8,dj,E⟩:=bd E;obtain⟨cd,dk,E⟩:=bd E;obtain⟨j,dl,E⟩:=bd E;refine YZ (m:=[(5,q1),(0,vP d 0),(1,vI g)]) [] [] [] (λX i v n=>match i with|0=>Pt S2 n (A6.fnr prog (λS h vs (x:(List Int))=>∃w0:Value,vs=[w0]∧Sl S h AB w0 x) (λS h v (y:((List Int)×(List Int)))=>∃w0 w1:Value,v= .tuple #[w0,w1]∧Sl S h AB w0 y.1∧Sl S h AB w1 y.2)) v c.take|1=>Rd S2 n (A6.fnr prog (λS h vs (x:(List Int))=>∃w0:Value,vs=[w0]∧Sl S h AB w0 x) (λS h v (y:((List Int)×(List Int)))=>∃w0 w1:Value,v= .tuple #[w0,w1]∧Sl S h AB w0 y.1∧Sl S h AB w1 y.2)) v c.take|2=>v=vP d 0|3=>v=vP d 0|4=>v=vP d 16|5=>v=vP d 17|6=>v=t|7=>v=vI g∧AA g|8=>EP t (g.toNat*((A6.sl AB)).sz+0) v|9=>Sl S2 n AB v cd|10=>∃w0 w1:Value,v= .tuple #[w0,w1]∧(Sl (SX S2 h3 n X) n AB w0 j.1)∧(Sl (SX S2 h3 n X) n AB w1 j.2)|11=>∃w0 w1:Value,v= .tuple #[w0,w1]∧(Sl (SX S2 h3 n X) n AB w0 j.1)∧(Sl (SX S2 h3 n X) n AB w1 j.2)|12=>Sl (SX S2 h3 n X) n AB v j.1|13=>Sl (SX S2 h3 n X) n AB v j.2|14=>Sl (SX S2 h3 n X) n AB v j.1|15=>Sl (SX S2 h3 n X) n AB v j.2|_=>False) [[],[(0,9)],[],[(2,11)],[(3,12)],[(4,13)],[(5,14)],[],[(6,15),(7,16)],[(8,17)],[(1,10),(9,18)],[(10,19)],[(11,8)],[(11,8)],[(12,20)],[(13,21)]] [(14,6),(15,7)] mo (by kernel_rfl) [5,0,1] O (by kernel_rfl) (by kernel_rfl) (by kernel_rfl) O (kp [5,0,1] O) (λi v h1 h2 X X' o1 o2 u1 u2 hr=>?_) (by kernel_rfl) YV ?_ ?_ ?_
 ·match i,hr with
   |0,hr=>exact(Ms.mono hr (o2.ext λb hb=>Aak (af.1 b hb) o1.siz))
   |1,hr=>exact(Rd.mono hr (o2.ext λb hb=>Aak (af.1 b hb) o1.siz))
   |2,hr|3,hr|4,hr|5,hr|6,hr|7,hr|8,hr=>exact hr
   |9,hr=>exact(Sl.mono' hr (o2.ext λb hb=>Aak (af.1 b hb) o1.siz))
   |10,hr|11,hr=>obtain⟨w0,w1,e,k0,k1⟩:=hr;exact⟨w0,w1,e,(Sl.mono' k0 (SX.mono af.1 o1 o2 u1 u2)),(Sl.mono' k1 (SX.mono af.1 o1 o2 u1 u2))⟩
   |12,hr|13,hr|14,hr|15,hr=>exact(Sl.mono' hr (SX.mono af.1 o1 o2 u1 u2))
   |_+16,hr=>exact hr.elim
 ·exact trivial
 ·refine Fq.cons O O O ?_ ?_
  ·intro X mq n o hX;have q:=o.st af;have fk:=k6.mono (o.ext af.1);have fm:=fk.fl NF;refine AU ?_;exact BC fm
  refine Fq.cons O O O ?_ ?_
  ·intro X mq n o hX;intro fn ce;have q:=o.st af;have ce:Pt _ _ (A6.fnr prog (λS h vs (x:(List Int))=>∃w0:Value,vs=[w0]∧Sl S h AB w0 x) (λS h v (y:((List Int)×(List Int)))=>∃w0 w1:Value,v= .tuple #[w0,w1]∧Sl S h AB w0 y.1∧Sl S h AB w1 y.2)) fn c.take:=ce;refine AU ?_;refine Q7 K9 q.1 O ce nO.1 (λ_=>rfl) O λh9 fo=>AU ?_;exact BC fo
  refine Fq.cons O O O ?_ ?_
  ·intro X mq n o hX;have q:=o.st af;refine AU ?_;exact BC O
  refine Fq.cons O O O ?_ ?_
  ·intro X mq n o hX;intro ia fp;have q:=o.st af;cases fp;refine AU ?_;exact BC O
  refine Fq.cons O O O ?_ ?_
  ·intro X mq n o hX;intro ib fq;have q:=o.st af;cases fq;refine AU ?_;exact BC O
  refine Fq.cons O O O ?_ ?_
  ·intro X mq n o hX;intro ic fr;have q:=o.st af;cases fr;refine AU ?_;exact BC O
  refine Fq.cons O O O ?_ ?_
  ·intro X mq n o hX;intro ie fs;have q:=o.st af;cases fs;refine AU ?_;exact BC O
  refine Fq.cons O O O ?_ ?_
  ·intro X mq n o hX;have q:=o.st af;refine AU ?_;exact BC ⟨O,bv⟩
  refine Fq.cons O O O ?_ ?_
  ·intro X mq n o hX;intro ig ft ih fu;have q:=o.st af;cases ft;obtain⟨rfl,ii⟩:=fu;refine AU ?_;refine BT q (mt mh) O O IP.1 dj O λij dm=>AU ?_;exact BC dm
  refine Fq.cons O O O ?_ ?_
  ·intro X mq n o hX;intro ik fv;have q:=o.st af;refine AU ?_;have fw:=q.epAt (mt mh) dk Ff.id fv;refine I9 K9 (λ_ x=>x) O fw Hc.1 O λil fx=>AU ?_;exact BC fx
  refine Fq.cons O O O ?_ ?_
  ·intro X mq n o hX;intro fy bb f0 bc;have q:=Mn (X:=X) af o;have bb:=Rd.mono (S':=(SX S2 h3 n X)) bb ⟨λb hb=>(SX.ext af.1 o hX).sub b hb,λ_ _=>rfl,Aal _⟩;have bb:Rd _ _ (A6.fnr prog (λS h vs (x:(List Int))=>∃w0:Value,vs=[w0]∧Sl S h AB w0 x) (λS h v (y:((List Int)×(List Int)))=>∃w0 w1:Value,v= .tuple #[w0,w1]∧Sl S h AB w0 y.1∧Sl S h AB w1 y.2)) fy c.take:=bb;have bc:=Sl.mono' (S':=(SX S2 h3 n X)) bc ⟨λb hb=>(SX.ext af.1 o hX).sub b hb,λ_ _=>rfl,Aal _⟩;have bc:Sl _ _ AB f0 cd:=bc;have be:=q.fz;obtain⟨gj,gl,rfl,dn,dp⟩:=bb.fnr;refine Ed O O O dn O (dp _ _ (λb hb=>(CG.refl (SX S2 h3 n X) n).sub b hb) (λb hb=>(CG.refl (SX S2 h3 n X) n).same b hb) _ be cd _ _ ⟨_,O,bc⟩ dl) λim io ip f1 p=>?_;obtain⟨⟨ir,it,rfl,f2,f3⟩,dq⟩:=p;have bf:=SX.done o hX f1 dq;exact BB bf.1 ⟨_,_,O,(Sl.mono' f2 bf.2),(Sl.mono' f3 bf.2)⟩
  refine Fq.cons O O O ?_ ?_
  ·intro X mq n o hX;intro iu f4;have q:=Mn (X:=X) af o;obtain⟨f5,f6,rfl,cf,cg⟩:=f4;have cf:Sl _ _ AB f5 j.1:=cf;have cg:Sl _ _ AB f6 j.2:=cg;refine AU ?_;exact BC ⟨_,_,O,cf,cg⟩
  refine Fq.cons O O O ?_ ?_
  ·intro X mq n o hX;intro iv f7;have q:=Mn (X:=X) af o;obtain⟨f8,f9,rfl,ch,dr⟩:=f7;have ch:Sl _ _ AB f8 j.1:=ch;have dr:Sl _ _ AB f9 j.2:=dr;refine AU ?_;exact BC ch
  refine Fq.cons O O O ?_ ?_
  ·intro X mq n o hX;intro iw ga;have q:=Mn (X:=X) af o;obtain⟨gb,gc,rfl,ds,ci⟩:=ga;have ds:Sl _ _ AB gb j.1:=ds;have ci:Sl _ _ AB gc j.2:=ci;refine AU ?_;exact BC ci
  refine Fq.cons O O O ?_ ?_
  ·intro X mq n o hX;intro gd cj;have q:=Mn (X:=X) af o;have cj:Sl _ _ AB gd j.1:=cj;refine AU ?_;exact BC cj
  refine Fq.cons O O O ?_ ?_
  ·intro X mq n o hX;intro ge bg;have q:=Mn (X:=X) af o;have bg:Sl _ _ AB ge j.2:=bg;refine AU ?_;exact BC bg
  exact trivial
 intro ar au dt ck bh ax du bi gf gg;have bj:=(gL.nil af dt ck).st;have ax:Sl _ _ AB bh j.1:=ax;have bi:Sl _ _ AB du j.2:=bi;refine AU ?_;obtain⟨gm,cl,E⟩:=bd E;refine BT bj (mt mh) O O IP.1 cl O λgn cm=>AU ?_;obtain⟨dv,cn,E⟩:=bd E;refine FK (r:=(A6.sl AB)) (l:=p0_w.s.E) (i:=g) (x:=dv) O O (Pg bi) cm cn Nh.id Hc.1 (λ_=>rfl) bj (.tail .head) λgp bk dw=>AU ?_;refine BY (.inl O) bk (AU ?_);have dx:=ax.mono' dw;refine B4 E O O O L9 O (λdy co h' o=>C1 (St.all h') (dx.mono' (o.all bk.1)) co) λdy E dz=>?_;have gq:=dz;refine AU ?_;refine BG (kp [32,6,5,0,1] O) λaw aq gr=>AG O E (λd0 E=>?_) (λd0 E=>?_)
 ·refine B0 (λaa ww hf hw=>?_);cases E;exact JC hf O hw JB O EX ⟨_,_,_,_,O,aq⟩
 refine AU ?_;refine Ta (m:=[(6,bh),(5,q1),(0,vP d 0),(1,vI g)]) 18 [0] (λi v n=>match i with|0=>v=vP d 0|1=>v=vP d 0|2=>v=vP d 0|3=>v=vP d 23|4=>v=av|5=>v=vP d 0|6=>v=vP d 0|7=>v=vP d 16|8=>v=vP d 16|9=>v=vI p0_w.s.C∧AA p0_w.s.C|10=>v=vI g∧AA g|11=>Pt (SX S2 h3 ar au) n AB v c.to_|12=>v=vI c.to_∧AA c.to_|13=>Pt (SX S2 h3 ar au) n AB v c.way|14=>v=vI c.way∧AA c.way|15=>Sl (SX S2 h3 ar au) n AB v j.1|16=>Rd (SX S2 h3 ar au) n BO v (⟨p0_w.s.C,g,c.to_,c.way,j.1⟩:AI)|17=>Sl (SN (SX S2 h3 ar au) aw n) n BO v ([(⟨p0_w.s.C,g,c.to_,c.way,j.1⟩:AI)]:List AI)∧∃ad,v= .slice (some ad) 1 1|_=>False) [[],[],[(1,34)],[(2,35)],[(3,36)],[],[(5,38)],[(6,39)],[(7,40)],[(8,41)],[],[],[(11,44)],[],[(13,46)],[],[(9,42),(10,43),(12,45),(14,47),(15,48)],[(16,49)]] [(0,33),(4,37),(17,50)] mo (by kernel_rfl) [6,5,0,1] O (by kernel_rfl) (by kernel_rfl) (by kernel_rfl) (kp [6,5,0,1] O) MO ?_ ?_ ?_
 ·refine Rv.cons [] (by kernel_rfl) O O (by kernel_rfl) ?_ ?_
  ·intro mq n o;intro a hf;exact⟨vP d 0,NO hf O,O⟩
  exact trivial
 ·refine AV.cons O ET (AV.cons O ET (AV.cons O ET (AV.cons O ET (AV.cons O ET (AV.cons O ET (AV.cons O ET (AV.cons O ET (AV.cons O ET (AV.cons O ET (AV.cons O ET (AV.cons O ?_ ?_)))))))))))
  ·intro mq n o;have q:=o.st aq;have d1:=k6.nw;have d2:=d1.fl LS;refine AU ?_;exact BC d2
  refine AV.cons O ?_ ?_
  ·intro mq n o;intro d3 bl;have q:=o.st aq;have bl:Pt _ _ AB d3 c.to_:=bl;have d4:=bl.i;refine AU ?_;exact BC ⟨O,d4⟩
  refine AV.cons O ?_ ?_
  ·intro mq n o;have q:=o.st aq;have d5:=k6.nw;have d6:=d5.fl Nl;refine AU ?_;exact BC d6
  refine AV.cons O ?_ ?_
  ·intro mq n o;intro d7 bm;have q:=o.st aq;have bm:Pt _ _ AB d7 c.way:=bm;have d8:=bm.i;refine AU ?_;exact BC ⟨O,d8⟩
  refine AV.cons O ?_ ?_
  ·intro mq n o;have q:=o.st aq;refine AU ?_;have d9:=ax.nw;exact BC d9
  refine AV.cons O ?_ ?_
  ·intro mq n o;intro gs eb gt ec gu ed gv ee ef a9;have q:=o.st aq;obtain⟨rfl,eg⟩:=eb;obtain⟨rfl,eh⟩:=ec;obtain⟨rfl,ei⟩:=ed;obtain⟨rfl,ej⟩:=ee;have a9:Sl _ _ AB ef j.1:=a9;refine AU ?_;obtain⟨cp,bx,rfl,gw⟩:=(a9).len;refine FV (cs:=[vI p0_w.s.C,vI g,vI c.to_,vI c.way,(.slice cp j.1.length bx)]) T9 O O O (AU ?_);exact BC (BO.mk (x:=(⟨p0_w.s.C,g,c.to_,c.way,j.1⟩:AI)) eg eh ei ej a9)
  refine AV.cons O ?_ ?_
  ·intro mq n o;intro ek az;have q:=SN.st aq o;have az:=Rd.mono (S':=(SN (SX S2 h3 ar au) aw n)) az ⟨λb hb=> .inl hb,λ_ _=>rfl,Aal _⟩;have az:Rd _ _ BO ek (⟨p0_w.s.C,g,c.to_,c.way,j.1⟩:AI):=az;have be:=q.fz;obtain⟨gx,rfl,el,em,en,eo,b2⟩:=BO.ex az;obtain⟨cq,bz,rfl,gy⟩:=(b2).len;refine Ez (cs:=[vI ((⟨p0_w.s.C,g,c.to_,c.way,j.1⟩:AI).C),vI ((⟨p0_w.s.C,g,c.to_,c.way,j.1⟩:AI).D),vI ((⟨p0_w.s.C,g,c.to_,c.way,j.1⟩:AI).B),vI ((⟨p0_w.s.C,g,c.to_,c.way,j.1⟩:AI).Ap),(.slice cq ((⟨p0_w.s.C,g,c.to_,c.way,j.1⟩:AI).K).length bz)]) UT O O O O O O O be λgz g0 cr ep=>?_;have eq:=b2.mono' ep;have ct:=cr.bxos (r:=BO) (l:=([(⟨p0_w.s.C,g,c.to_,c.way,j.1⟩:AI)]:List AI)) .head ⟨_,_,O,⟨_,O,el,em,en,eo,eq⟩,O⟩ (by simp [maxLen]);obtain⟨g1,cu,g2,er⟩:=ct.pubs .head;have bn:=Fz.done o EX cu;exact BB bn.1 ⟨Sl.mono' er bn.2,_,O⟩
  exact trivial
 intro a0 es g3 eu g4 ev g5 bo;have cv:=SN.st aq es;cases eu;cases ev;obtain⟨bo,gh,rfl⟩:=bo;obtain⟨cw,E⟩:=KM E;refine KO (r:=BO) (l:=p0_w.moves) (xs:=([(⟨p0_w.s.C,g,c.to_,c.way,j.1⟩:AI)]:List AI)) O O UT O (Sl.src bo) O cw O cv (λ_=>(.tail (.tail (.tail (.tail (.tail (.tail (.tail .head)))))))) λg6 g7 bp g8=>AU ?_;obtain⟨a2,ay,rfl,g9⟩:=bp.oslen (mt (mt (mt (mt (mt (mt (mt mh)))))));refine Ey (cs':=[.string p0_w.b.J,ag,vI p0_w.b.P,ah,ai,aj,ak,al,am,an,vI p0_w.b.S,V,W,Y,ab,ac,vI p0_w.s.C,t,u,w,z,G,ap,(.slice a2 (p0_w.moves++([(⟨p0_w.s.C,g,c.to_,c.way,j.1⟩:AI)]:List AI)).length ay),Q,ao]) O O O O aK.1 O bp .head O O λb3 U ha=>?_;have b4:=k6.nw;refine AU ?_;refine AG O E (λew E=>?_) (λew E=>?_)
 ·refine AU ?_;refine B1 (AU ?_);have ey:=ax.nw;refine Cf E O O O dZ O U (λb5 cx=>Ny (St.all _) (U.oslAll (mt (mt (mt (mt (mt (mt mh))))))) (ey.mono U.ea.1 U.ea.2) cx) λb5 E hc hd he gi hg ez p=>?_;have cy:=p;have a3:=U.join ez cy ⟨OS.flat (λ{_ _ _ _ _ _} k=>k),trivial⟩;simp only[Aa4,Aav] at a3;refine AU ?_;obtain⟨cz,b0,rfl,hi⟩:=a3.oslen mh;refine Ey (cs':=[.string p0_w.b.J,ag,vI p0_w.b.P,ah,ai,aj,ak,al,am,an,vI p0_w.b.S,V,W,Y,ab,ac,vI p0_w.s.C,t,u,w,z,G,(.slice cz b5.length b0),(.slice a2 (p0_w.moves++([(⟨p0_w.s.C,g,c.to_,c.way,j.1⟩:AI)]:List AI)).length ay),Q,ao]) O O O O Hc.1 O a3 (.tail .head) O O λhj c0 hk=>AU ?_;refine B0 (λaa ww hf hw=>?_);have c1:=c0.sel [1,1,1,1,1,1,0,1,1,1] 1 O;cases E;exact JC hf O hw JB O EX ⟨_,_,_,_,O,c1⟩
 refine AU ?_;obtain⟨ba,c2,E⟩:=bd E;refine Ta (m:=[(6,bh),(5,q1),(0,vP d 0)]) 18 [0] (λi v n=>match i with|0=>v=vP d 0|1=>v=vP d 0|2=>v=vP d 0|3=>v=vP d 25|4=>v=ao|5=>v=vP d 0|6=>v=vP d 0|7=>v=vP d 16|8=>v=vP d 16|9=>v=vI p0_w.s.C∧AA p0_w.s.C|10=>v=vI (A9 (p0_w.s.C+1))∧AA (A9 (p0_w.s.C+1))|11=>Pt (SN (SX S2 h3 ar au) aw a0) n AB v c.delay|12=>v=vI c.delay∧AA c.delay|13=>v=vI (A9 ((A9 (p0_w.s.C+1))+c.delay))∧AA (A9 ((A9 (p0_w.s.C+1))+c.delay))|14=>Pt (SN (SX S2 h3 ar au) aw a0) n AB v c.to_|15=>v=vI c.to_∧AA c.to_|16=>Sl (SN (SX S2 h3 ar au) aw a0) n AB v j.1|17=>Sl (SN (SN (SX S2 h3 ar au) aw a0) b3 n) n AZ v ba|_=>False) [[],[],[(1,69)],[(2,70)],[(3,71)],[],[(5,73)],[(6,74)],[(7,75)],[(8,76)],[(9,77)],[],[(11,79)],[(10,78),(12,80)],[],[(14,82)],[],[(13,81),(15,83),(16,84)]] [(0,68),(4,72),(17,85)] mo (by kernel_rfl) [6,5,0] O (by kernel_rfl) (by kernel_rfl) (by kernel_rfl) (kp [6,5,0] O) MO ?_ ?_ ?_
 ·refine Rv.cons [] (by kernel_rfl) O O (by kernel_rfl) ?_ ?_
  ·intro mq n o;intro a hf;exact⟨vP d 0,NO hf O,O⟩
  exact trivial
 ·refine AV.cons O ET (AV.cons O ET (AV.cons O ET (AV.cons O ET (AV.cons O ET (AV.cons O ET (AV.cons O ET (AV.cons O ET (AV.cons O ET (AV.cons O ET (AV.cons O ET (AV.cons O ?_ ?_)))))))))))
  ·intro mq n o;have q:=o.st U;have e0:=b4.mono (o.ext U.1);have e1:=e0.fl Mu;refine AU ?_;exact BC e1
  refine AV.cons O ?_ ?_
  ·intro mq n o;intro e2 bq;have q:=o.st U;have bq:Pt _ _ AB e2 c.delay:=bq;have e3:=bq.i;refine AU ?_;exact BC ⟨O,e3⟩
  refine AV.cons O ET (AV.cons O ?_ ?_)
  ·intro mq n o;have q:=o.st U;have e4:=b4.mono (o.ext U.1);have e6:=e4.fl LS;refine AU ?_;exact BC e6
  refine AV.cons O ?_ ?_
  ·intro mq n o;intro e7 br;have q:=o.st U;have br:Pt _ _ AB e7 c.to_:=br;have e8:=br.i;refine AU ?_;exact BC ⟨O,e8⟩
  refine AV.cons O ?_ ?_
  ·intro mq n o;have q:=o.st U;refine AU ?_;have e9:=ax.nw;exact BC e9
  refine AV.cons O ?_ ?_
  ·intro mq n o;intro hl fa hm fb fc a1;have q:=SN.st U o;obtain⟨rfl,fd⟩:=fa;obtain⟨rfl,fe⟩:=fb;have a1:=Sl.mono' (S':=(SN (SN (SX S2 h3 ar au) aw a0) b3 n)) a1 ⟨λb hb=> .inl hb,λ_ _=>rfl,Aal _⟩;have a1:Sl _ _ AB fc j.1:=a1;have be:=q.fz;refine Ed O O O qK O (TA be fd fe a1 c2) λhn ho hp hq p=>?_;have c3:=p;obtain⟨ht,c4,hu,ff⟩:=c3.pubs .head;have bs:=Fz.done o EX c4;exact BB bs.1 (Sl.mono' ff bs.2)
  exact trivial
 intro hv fg hx fh hy fi fj bt;have c5:=SN.st U fg;cases fh;cases fi;have bt:Sl _ _ AZ fj ba:=bt;obtain⟨c6,E⟩:=KM E;refine KO (r:=AZ) (l:=p0_w.sent) (xs:=ba) O O R6 O (Sl.src bt) O c6 O c5 (λ_=>(.tail (.tail (.tail (.tail (.tail (.tail (.tail (.tail (.tail .head)))))))))) λhz h0 bu h4=>AU ?_;obtain⟨c7,b1,rfl,h5⟩:=bu.oslen (mt (mt (mt (mt (mt (mt (mt (mt (mt mh)))))))));refine Ey (cs':=[.string p0_w.b.J,ag,vI p0_w.b.P,ah,ai,aj,ak,al,am,an,vI p0_w.b.S,V,W,Y,ab,ac,vI p0_w.s.C,t,u,w,z,G,ap,(.slice a2 (p0_w.moves++([(⟨p0_w.s.C,g,c.to_,c.way,j.1⟩:AI)]:List AI)).length ay),Q,(.slice c7 (p0_w.sent++ba).length b1)]) O O O O Xi.1 O bu .head O O λh6 c8 h7=>AU ?_;refine WF.nil (λaa ww hf hw=>?_);cases E;exact JC hf O hw JB O EX ⟨_,_,_,_,O,c8⟩
end Go.Proofs.YtedgiljmffngoaaGreat
