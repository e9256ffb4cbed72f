import Derived.Test.YtabonambpbofgaaGreatNInst
import Derived.Test.YtabonambpbofgaaGreatNForms
import Derived.Test.YtabonambpbofgaaGreatNSort5
import Derived.Test.YtabonambpbofgaaGreatNSortD
import Derived.Test.YtabonambpbofgaaGreatNWalk1
import Derived.Test.YtabonambpbofgaaGreatNWalk6
import Derived.Test.YtabonambpbofgaaGreatNWalk11
namespace Go.Proofs.YtabonambpbofgaaGreat
set_option linter.all false
open Go.RowKit
open Go.Proofs.Tryz
set_option maxRecDepth 10000
set_option maxHeartbeats 20000000
variable {N:Nat}{S:Nat→Prop}{L:List HP}{h:AS}
def I5 (C:St S L h) {b:Int}(m:AA b) {r:(List AC)}(E:Cr N b=some r):
 CL prog 189 #[vN,vI b] S h (λv S' h'=>St S' (OS A4 194 v r::L) h'):=by
 refine CL.go (l:=[vN,vI b]) 27 func189 O ntmps189 O λB=>?_;rw[Cr] at E;refine Ct (C3 O (kp [0,1] O) (CU (Ct (AD O (JX O (Ea (kp [6,0,1] O) (AH O E (λD E=>?_) (λD E=>?_))))))))
 ·cases E
 refine Dv (CU (Ct (AD O (AD O (ZG O QQ.1 O (AD O (Pw O QQ.1 O (Tm O (Tm O (C3 O (kp [1,0] O) (Ct (AD O (KI O (Ea (kp [16,1,0] O) (H6 (λa w=>∃(p:Value) (s:List AC),IV B S h (27,[]) a w [(0,p)] (OS A4 194 p s::L) λ_ _=>Ca N s=some r) ?_ ?_)))))))))))))))
 ·refine AH O E (λF E=>?_) (λF E=>?_)
  ·refine DQ (AJ 5 (AD O (AD O (ZG O QQ.1 O (uM O O QQ.1 O (AD O (AE ?_)))))));obtain⟨t,E⟩:=Lt E;obtain⟨u,E⟩:=Lt E;refine mN O O Nl Aat (Ad2 t) u O O C λG H I J K x y g z=>AJ 4 (AD O (Pw O QQ.1 O (uL O O QQ.1 O ?_)));have i:=St.bxosc (r:=A4) (l:=([]:List AC)) g (Aci _) x y cV;refine DB O (AE (LF.nil (kp [0] O) (WF.nil (λn o c d=>?_))));exact⟨(.slice (some ⟨G,0,none⟩) 0 H),([]:List AC),_,_,c.sub (kp [0] O),d,i,z,E⟩
  refine Dv (WF.nil (λn o c d=>?_));have j:=C.nil A4 194;exact⟨(vN),([]:List AC),_,_,c.sub (kp [0] O),d,j,(CJ.refl S h),E⟩
 rintro n o ⟨p,s,M,Q,c,d,k,A,E⟩;refine AK ?_ c d;clear c d o n;rw[Ca] at E;refine Ct (AD O (C3 O (kp [4] O) (CO (λn o c d=>?_))));cases E;exact TH c d O O A k
def Ie (hs:St S L h) {c:Value}{b:(List (List AC))}(d:Sl S h (A5.sl A4) c b) {r:(List AC)}(E:Cg N b=some r):
 CL prog 121 #[c] S h (λv S' h'=>St S' (OS A4 194 v r::L) h'):=by
 refine CL.go 36 func121 O ntmps121 O λB=>?_;rw[Cg] at E;refine AU ?_;refine AV (λa w=>∃(V:Int),IV B S h (36,[]) a w [(0,c),(3,vI V)] (L) λ_ _=>AA V∧CR N b V=some r) ?_ ?_
 ·refine A9 (λn1=>λa w=>∃(D:Int) (o:Int),IV B S h (36,[]) a w [(10,vI (↑b.length:Int)),(9,c),(0,c),(3,vI D),(11,vI o)] (L) λ_ _=>AA D∧AA o∧B9 N b (CR N b) n1 D o=some r) N ?_ ?_ ?_
  ·intro j k g i;exact⟨0,0,_,_,g.sub (kp [10,9,0,3,11] O),i,hs,(CJ.refl S h),(iq (n:=0) O),(iq (n:=0) O),E⟩
  ·rintro j k ⟨_,_,_,_,_,_,_,_,_,_,E⟩;rw[B9] at E;cases E
  rintro n1 j k ⟨D,o,ai,aj,g,i,t,x,r9,ak,E⟩;refine AK ?_ g i;clear g i k j;rw[B9] at E;refine AU ?_;refine AH O E (λW E=>?_) (λW E=>?_)
  ·refine AU ?_;refine A6 (AU ?_);have X:=d.mono' x;refine BK E O O X cJ.1 O λY E al am=>AU ?_;refine AH O E (λZ E=>?_) (λZ E=>?_)
   ·cases E
   refine AU ?_;refine BP (AU ?_);refine WF.nil (λj k g i=>?_);exact⟨(BT (D+(↑Y.length:Int))),(BT (o+1)),_,_,g.sub (kp [10,9,0,3,11] O),i,t,x,(BV _),(BV _),E⟩
  refine BM O (λj k g i=>?_);exact⟨D,_,_,g.sub (kp [0,3] O),i,t,x,r9,E⟩
 rintro j k ⟨V,an,ao,g,i,F,ap,r3,E⟩;refine AK ?_ g i;clear g i k j;rw[CR] at E;refine AU ?_;refine DQ (AU ?_);refine Ga E O O O sZ O (λG H=>I5 F r3 H) λG E ab y z aq p=>?_;have I:=p;have ac:=d.nw;refine AU ?_;refine AV (λa w=>∃(A:Value) (C:List AC),IV B y z (36,[]) a w [(6,A)] (OS A4 194 A C::L) λ_ _=>DC N C=some r) ?_ ?_
 ·refine A9 (λn3=>λa w=>∃(s:Value) (m:List AC) (q:Int),IV B y z (36,[]) a w [(26,vI (↑b.length:Int)),(25,c),(6,s),(27,vI q)] (OS A4 194 s m::L) λ_ _=>AA q∧B8 N b (DC N) n3 m q=some r) N ?_ ?_ ?_
  ·intro j k g i;exact⟨ab,G,0,_,_,g.sub (kp [26,25,6,27] O),i,I,(CJ.refl y z),(iq (n:=0) O),E⟩
  ·rintro j k ⟨_,_,_,_,_,_,_,_,_,_,E⟩;rw[B8] at E;cases E
  rintro n3 j k ⟨s,m,q,ar,au,g,i,u,J,av,E⟩;refine AK ?_ g i;clear g i k j;rw[B8] at E;refine AU ?_;refine AH O E (λad E=>?_) (λad E=>?_)
  ·refine AU ?_;refine A6 (AU ?_);have ae:=ac.mono' J;refine BK E O O ae cJ.1 O λK E aw af=>?_;obtain⟨ax,_,ag⟩:=af.ll;refine AU ?_;obtain⟨M,E⟩:=Lt E;refine Eb (r:=A4) (l:=m) (xs:=K) O O Nl O (Sl.src ag) O M O u (λ_=> .head) λah ay Q az=>AU ?_;refine BP (AU ?_);refine WF.nil (λj k g i=>?_);exact⟨ah,(m++K),(BT (q+1)),_,_,g.sub (kp [26,25,6,27] O),i,Q,EX,(BV _),E⟩
  refine BM O (λj k g i=>?_);exact⟨s,m,_,_,g.sub (kp [6] O),i,u,J,E⟩
 rintro j k ⟨A,C,a0,a1,g,i,U,a2,E⟩;refine AK ?_ g i;clear g i k j;rw[DC] at E;refine AU ?_;cases E;exact GE U O O EX
def Mj (X:St S L h) {c:Value}{d:(List Int)}(q:Sl S h AB c d) {g:Value}{k:(Int→Option Bool)}(s:Rd S h (A5.fn prog (λx:Int=>([vI x]:List Value)) (λx:Int=>AA x) (λy:Bool=> .bool y) (λy:Bool=>True)) g k) {r:Int}(E:GA N d k=some r):
 CL prog 111 #[c,g] S h (λv S' h'=>v=vI r∧AA r∧St S' (L) h'):=by
 refine CL.go 19 func111 O ntmps111 O λB=>?_;rw[GA] at E;obtain⟨F,G,rfl,H,I⟩:=s.fn;refine AU ?_;refine AV (λa w=>IV B S h (19,[]) a w [] (L) λ_ _=>Ey N=some r) ?_ ?_
 ·refine A9 (λV=>λa w=>∃(z:Int),IV B S h (19,[]) a w [(7,vI (↑d.length:Int)),(0,c),(1,(.func (.func F) #[] G)),(8,vI z)] (L) λ_ _=>AA z∧Dg N d k (Ey N) V z=some r) N ?_ ?_ ?_
  ·intro t u l m;exact⟨0,_,_,l.sub (kp [7,0,1,8] O),m,X,(CJ.refl S h),(iq (n:=0) O),E⟩
  ·rintro t u ⟨_,_,_,_,_,_,_,_,E⟩;rw[Dg] at E;cases E
  rintro V t u ⟨z,Y,Z,l,m,j,p,r9,E⟩;refine AK ?_ l m;clear l m u t;rw[Dg] at E;refine AU ?_;refine AH O E (λJ E=>?_) (λJ E=>?_)
  ·refine AU ?_;refine A6 (AU ?_);refine CX (.inl O) j (AU ?_);have K:=q.mono' p;refine BK E O O K Ck.1 O λab E ac M=>?_;have Q:=M.i;refine AU ?_;obtain⟨ad,A,E⟩:=bd E;refine JH O O O H O (λh' o=>I _ h' (λb D=>Acv (j.1 b (p.sub b D)) o.siz) (λb D=>(o.same b (j.1 b (p.sub b D))).trans (p.same b D)) [] (St.all h') _ _ Q A) (By (kp [16,5,7,0,1,8] O) λae C af=>AH O E (λU E=>?_) (λU E=>?_))
   ·exact RT
   refine AU ?_;refine BP (AU ?_);refine WF.nil (λt u l m=>?_);exact⟨(BT (z+1)),_,_,l.sub (kp [7,0,1,8] O),m,C,EX,(BV _),E⟩
  refine BM O (λt u l m=>?_);exact⟨_,_,l.sub R5,m,j,p,E⟩
 rintro t u ⟨ag,ah,l,m,W,ai,E⟩;refine AK ?_ l m;clear l m u t;rw[Ey] at E;exact RT
def Lq (j:St S L h) {a:Value}{g:(List Int)}(d:Sl S h AB a g) {b:Value}{i:(Int→Option Bool)}(c:Rd S h (A5.fn prog (λx:Int=>([vI x]:List Value)) (λx:Int=>AA x) (λy:Bool=> .bool y) (λy:Bool=>True)) b i) {r:Bool}(E:Gg N g i=some r):
 CL prog 224 #[a,b] S h (λv S' h'=>v= .bool r∧St S' (L) h'):=by
 refine CL.go 9 func224 O ntmps224 O λB=>?_;rw[Gg] at E;obtain⟨l,m,rfl,n,p⟩:=c.fn;refine AU ?_;refine CX (.inl O) j (AU ?_);refine DM E O O O gK O (λq k h' o=>Mj (St.all h') (d.mono' (o.all j.1)) (c.mono (o.all j.1)) k) λq E s=>?_;have w:=s;refine AU ?_;exact By (kp [4] O) λz t u=>RT
def Rg (c:St S L h) {a:Int}(b:AA a) {r:Bool}(E:Io N a=some r):
 CL prog 225 #[vI a] S h (λv S' h'=>v= .bool r∧St S' (L) h'):=by
 refine CL.go 5 func225 O ntmps225 O λB=>?_;rw[Io] at E;exact RT
def TK (z:St S L h) {b:Int}(j:AA b) {a:Int}(m:AA a) {c:Value}{g:(List Int)}(d:Sl S h AB c g) {r:(List AT)}(E:LW N b a g=some r):
 CL prog 194 #[vN,vI b,vI a,c] S h (λv S' h'=>St S' (OS AY 103 v r::L) h'):=by
 refine CL.go 32 func194 O ntmps194 O λB=>?_;rw[LW] at E;refine AU ?_;refine Pw O O2.1 O (AU ?_);refine Pw O O2.1 O (AU ?_);refine AJ 1 (lU O O O O2.1 O (AU ?_));refine CX (.inl O) z (AU ?_);obtain⟨Z,i,E⟩:=bd E;refine AZ 4 22 (.bool Z) ?_ ?_
 ·cases X:(decide (a<0))
  ·have i:=HX X i;refine AU ?_;have M:Rd S h (A5.fn prog (λx:Int=>([vI x]:List Value)) (λx:Int=>AA x) (λy:Bool=> .bool y) (λy:Bool=>True)) (.func (.func 225) #[] #[]) (λx=>Io N x):=Rd.ofFn 225 #[] sQ λS' h' s' e' L z x y h1 h2=>(Rg z h1 h2).mono λ_ _ _ _ p=>⟨p.1,trivial,p.2⟩
   refine BE i O O O sR O (λy4 Q h' o=>Lq (St.all h') (d.mono' (o.all z.1)) (M.mono (o.all z.1)) Q) λy4 i=>AU ?_;cases i;exact A0 O
  have i:=HW X i;cases i;exact BI O O
 refine By (kp [22,9,1,2,3] O) λh6 n e8=>AH O E (λc9 E=>?_) (λc9 E=>?_)
 ·refine AU ?_;have A:=n.nil AY 103;cases E;exact GE A O O EX
 refine AU ?_;refine DQ (AU ?_);have U:=d.mono' e8;refine DX E O O O NN O n (λu C=>B7 (St.all _) (U.mono n.ea.1 n.ea.2) C) λu E aa ab ac Y ad V p=>?_;have D:=p;have s:=n.join V D ⟨OS.flat (λ{_ _ _ _ _ _} k=>k),trivial⟩;simp only[Acu,Acs] at s;refine AU ?_;obtain⟨w,t,rfl,ae⟩:=s.oslen mh;refine HO (cs:=[vI b,vI a,(.slice w u.length t)]) cA O O O (AU ?_);refine Ft (cs:=[vI b,vI a,(.slice w u.length t)]) SE O O O O O O O s λaf ag F ah=>?_;have G:=F.nil AY 103;obtain⟨ai,H,aj,W⟩:=G.pubs (.tail (.tail .head));obtain⟨I,E⟩:=Lt E;refine I3 (r:=AY) (l:=([]:List AT)) (xs:=([(⟨b,a,u⟩:AT)]:List AT)) O O SE O (mt mh) ⟨_,_,O,⟨_,O,j,m,W⟩,O⟩ O O I O H (λ_=> .head) λak al J am=>?_;have K:=J.drop (.tail .head);refine AU ?_;cases E;exact GE K O O EX
def K4 {d:Nat}{p0_w:AM}{ai:Value}{aj:Value}{ak:Value}{al:Value}{am:Value}{an:Value}{ao:Value}{ap:Value}{Z:Value}{ab:Value}{ac:Value}{af:Value}{ag:Value}{t:Value}{u:Value}{w:Value}{z:Value}{G:Value}{ar:Value}{ax:Value}{Q:Value}{aq:Value}(hs:St S (Bx d 112 [.string p0_w.b.F,ai,vI p0_w.b.K,aj,ak,al,am,an,ao,ap,vI p0_w.b.L,Z,ab,ac,af,ag,vI p0_w.s.B,t,u,w,z,G,ar,ax,Q,aq]::OS (A5.sl AB) 29 t p0_w.s.H::OS AB 3 u p0_w.s.N::OS AY 103 w p0_w.s.I::OS BQ 107 z p0_w.s.P::OS AB 3 G p0_w.s.D::OS AB 3 ar p0_w.s.O::OS CA 116 ax p0_w.moves::OS AB 3 Q p0_w.peaks::OS AY 103 aq p0_w.sent::L) h) (db:p0_w.b.F.size≤maxLen) (dc:Sl S h A5.str ai p0_w.b.J) (dd:AA p0_w.b.K) (de:Sl S h B1 aj p0_w.b.A) (df:Sl S h CB ak p0_w.b.C) (dg:Sl S h HN al p0_w.b.Af) (dh:Sl S h Et am p0_w.b.Ah) (di:Sl S h G5 an p0_w.b.Ai) (dj:Sl S h DW ao p0_w.b.Ak) (dk:Sl S h AB ap p0_w.b.Aj) (b8:AA p0_w.b.L) (b9:Sl S h AB Z p0_w.in_.S) (ca:Sl S h Cv ab p0_w.in_.X) (cb:Sl S h FY ac p0_w.in_.Y) (cc:Sl S h DK af p0_w.in_.U) (cd:Sl S h Dj ag p0_w.in_.Ad) (ce:AA p0_w.s.B) {g:Int}(bx:AA g) {a6:Value}{c:AC}(bz:Rd S h A4 a6 c) {r:(List (List Int))×(List Int)×(List AX)×(List AT)}(E:Hp N p0_w g c=some r):
 CL prog 124 #[vP d 0,vI g,a6] S h (λv S' h'=>∃a7 a8 a9 ba:Value,v= .tuple #[]∧St S' (Bx d 112 [.string p0_w.b.F,ai,vI p0_w.b.K,aj,ak,al,am,an,ao,ap,vI p0_w.b.L,Z,ab,ac,af,ag,vI p0_w.s.B,a7,u,w,z,G,a8,a9,Q,ba]::OS (A5.sl AB) 29 a7 r.1::OS AB 3 u p0_w.s.N::OS AY 103 w p0_w.s.I::OS BQ 107 z p0_w.s.P::OS AB 3 G p0_w.s.D::OS AB 3 a8 r.2.1::OS CA 116 a9 r.2.2.1::OS AB 3 Q p0_w.peaks::OS AY 103 ba r.2.2.2::L) h'):=by
 refine CL.go 89 func124 O ntmps124 O λB=>?_;rw[Hp] at E;refine AU ?_;refine CZ O bz CE O hs λq1 S2 h3 ah e5 k6=>AU ?_;refine Rp (kp [5,0,1] O) ?_;obtain⟨ic,dl,E⟩:=bd E;obtain⟨cf,dm,E⟩:=bd E;obtain⟨j,dn,E⟩:=bd E;refine Yx (m:=[(5,q1),(0,vP d 0),(1,vI g)]) [] [] [] (λX i v n=>match i with|0=>Pt S2 n (A5.fnr prog (λS h vs (x:(List Int))=>∃w0:Value,vs=[w0]∧Sl S h AB w0 x) (λS h v (y:((List Int)×(List Int)))=>∃w0 w1:Value,v= .tuple #[w0,w1]∧Sl S h AB w0 y.1∧Sl S h AB w1 y.2)) v c.take|1=>Rd S2 n (A5.fnr prog (λS h vs (x:(List Int))=>∃w0:Value,vs=[w0]∧Sl S h AB w0 x) (λS h v (y:((List Int)×(List Int)))=>∃w0 w1:Value,v= .tuple #[w0,w1]∧Sl S h AB w0 y.1∧Sl S h AB w1 y.2)) v c.take|2=>v=vP d 0|3=>v=vP d 0|4=>v=vP d 16|5=>v=vP d 17|6=>v=t|7=>v=vI g∧AA g|8=>EP t (g.toNat*((A5.sl AB)).sz+0) v|9=>Sl S2 n AB v cf|10=>∃w0 w1:Value,v= .tuple #[w0,w1]∧(Sl (SX S2 h3 n X) n AB w0 j.1)∧(Sl (SX S2 h3 n X) n AB w1 j.2)|11=>∃w0 w1:Value,v= .tuple #[w0,w1]∧(Sl (SX S2 h3 n X) n AB w0 j.1)∧(Sl (SX S2 h3 n X) n AB w1 j.2)|12=>Sl (SX S2 h3 n X) n AB v j.1|13=>Sl (SX S2 h3 n X) n AB v j.2|14=>Sl (SX S2 h3 n X) n AB v j.1|15=>Sl (SX S2 h3 n X) n AB v j.2|_=>False) [[],[(0,9)],[],[(2,11)],[(3,12)],[(4,13)],[(5,14)],[],[(6,15),(7,16)],[(8,17)],[(1,10),(9,18)],[(10,19)],[(11,8)],[(11,8)],[(12,20)],[(13,21)]] [(14,6),(15,7)] mo (by kernel_rfl) [5,0,1] O (by kernel_rfl) (by kernel_rfl) (by kernel_rfl) O (kp [5,0,1] O) (λi v h1 h2 X X' o1 o2 u1 u2 hr=>?_) (by kernel_rfl) Yv ?_ ?_ ?_
 ·match i,hr with
   |0,hr=>exact(NX.mono hr (o2.ext λb hb=>Acv (ah.1 b hb) o1.siz))
   |1,hr=>exact(Rd.mono hr (o2.ext λb hb=>Acv (ah.1 b hb) o1.siz))
   |2,hr|3,hr|4,hr|5,hr|6,hr|7,hr|8,hr=>exact hr
   |9,hr=>exact(Sl.mono' hr (o2.ext λb hb=>Acv (ah.1 b hb) o1.siz))
   |10,hr|11,hr=>obtain⟨w0,w1,e,k0,k1⟩:=hr;exact⟨w0,w1,e,(Sl.mono' k0 (SX.mono ah.1 o1 o2 u1 u2)),(Sl.mono' k1 (SX.mono ah.1 o1 o2 u1 u2))⟩
   |12,hr|13,hr|14,hr|15,hr=>exact(Sl.mono' hr (SX.mono ah.1 o1 o2 u1 u2))
   |_+16,hr=>exact hr.elim
 ·exact trivial
 ·refine FW.cons O O O ?_ ?_
  ·intro X mq n o hX;have q:=o.st ah;have fn:=k6.mono (o.ext ah.1);have fo:=fn.fl Ng;refine AU ?_;exact B0 fo
  refine FW.cons O O O ?_ ?_
  ·intro X mq n o hX;intro fp cg;have q:=o.st ah;have cg:Pt _ _ (A5.fnr prog (λS h vs (x:(List Int))=>∃w0:Value,vs=[w0]∧Sl S h AB w0 x) (λS h v (y:((List Int)×(List Int)))=>∃w0 w1:Value,v= .tuple #[w0,w1]∧Sl S h AB w0 y.1∧Sl S h AB w1 y.2)) fp c.take:=cg;refine AU ?_;refine Le Hc q.1 O cg pV.1 (λ_=>rfl) O λie fq=>AU ?_;exact B0 fq
  refine FW.cons O O O ?_ ?_
  ·intro X mq n o hX;have q:=o.st ah;refine AU ?_;exact B0 O
  refine FW.cons O O O ?_ ?_
  ·intro X mq n o hX;intro ig fr;have q:=o.st ah;cases fr;refine AU ?_;exact B0 O
  refine FW.cons O O O ?_ ?_
  ·intro X mq n o hX;intro ih fs;have q:=o.st ah;cases fs;refine AU ?_;exact B0 O
  refine FW.cons O O O ?_ ?_
  ·intro X mq n o hX;intro ii ft;have q:=o.st ah;cases ft;refine AU ?_;exact B0 O
  refine FW.cons O O O ?_ ?_
  ·intro X mq n o hX;intro ij fu;have q:=o.st ah;cases fu;refine AU ?_;exact B0 O
  refine FW.cons O O O ?_ ?_
  ·intro X mq n o hX;have q:=o.st ah;refine AU ?_;exact B0 ⟨O,bx⟩
  refine FW.cons O O O ?_ ?_
  ·intro X mq n o hX;intro ik fv il fw;have q:=o.st ah;cases fv;obtain⟨rfl,im⟩:=fw;refine AU ?_;refine BY q (mt mh) O O Jl.1 dl O λio dp=>AU ?_;exact B0 dp
  refine FW.cons O O O ?_ ?_
  ·intro X mq n o hX;intro ip fx;have q:=o.st ah;refine AU ?_;have fy:=q.epAt (mt mh) dm FZ.id fx;refine G6 Hc (λ_ x=>x) O fy GH.1 O λir f0=>AU ?_;exact B0 f0
  refine FW.cons O O O ?_ ?_
  ·intro X mq n o hX;intro f1 be f2 bf;have q:=Mm (X:=X) ah o;have be:=Rd.mono (S':=(SX S2 h3 n X)) be ⟨λb hb=>(SX.ext ah.1 o hX).sub b hb,λ_ _=>rfl,Acr _⟩;have be:Rd _ _ (A5.fnr prog (λS h vs (x:(List Int))=>∃w0:Value,vs=[w0]∧Sl S h AB w0 x) (λS h v (y:((List Int)×(List Int)))=>∃w0 w1:Value,v= .tuple #[w0,w1]∧Sl S h AB w0 y.1∧Sl S h AB w1 y.2)) f1 c.take:=be;have bf:=Sl.mono' (S':=(SX S2 h3 n X)) bf ⟨λb hb=>(SX.ext ah.1 o hX).sub b hb,λ_ _=>rfl,Acr _⟩;have bf:Sl _ _ AB f2 cf:=bf;have bg:=q.fz;obtain⟨gn,gp,rfl,dq,dr⟩:=be.fnr;refine CY O O O dq O (dr _ _ (λb hb=>(CJ.refl (SX S2 h3 n X) n).sub b hb) (λb hb=>(CJ.refl (SX S2 h3 n X) n).same b hb) _ bg cf _ _ ⟨_,O,bf⟩ dn) λit iu iv f3 p=>?_;obtain⟨⟨iw,iy,rfl,f4,f5⟩,ds⟩:=p;have bh:=SX.done o hX f3 ds;exact BB bh.1 ⟨_,_,O,(Sl.mono' f4 bh.2),(Sl.mono' f5 bh.2)⟩
  refine FW.cons O O O ?_ ?_
  ·intro X mq n o hX;intro iz f6;have q:=Mm (X:=X) ah o;obtain⟨f7,f8,rfl,ch,ci⟩:=f6;have ch:Sl _ _ AB f7 j.1:=ch;have ci:Sl _ _ AB f8 j.2:=ci;refine AU ?_;exact B0 ⟨_,_,O,ch,ci⟩
  refine FW.cons O O O ?_ ?_
  ·intro X mq n o hX;intro i0 f9;have q:=Mm (X:=X) ah o;obtain⟨ga,gb,rfl,cj,dt⟩:=f9;have cj:Sl _ _ AB ga j.1:=cj;have dt:Sl _ _ AB gb j.2:=dt;refine AU ?_;exact B0 cj
  refine FW.cons O O O ?_ ?_
  ·intro X mq n o hX;intro i1 gc;have q:=Mm (X:=X) ah o;obtain⟨ge,gf,rfl,du,ck⟩:=gc;have du:Sl _ _ AB ge j.1:=du;have ck:Sl _ _ AB gf j.2:=ck;refine AU ?_;exact B0 ck
  refine FW.cons O O O ?_ ?_
  ·intro X mq n o hX;intro gg cl;have q:=Mm (X:=X) ah o;have cl:Sl _ _ AB gg j.1:=cl;refine AU ?_;exact B0 cl
  refine FW.cons O O O ?_ ?_
  ·intro X mq n o hX;intro gh bi;have q:=Mm (X:=X) ah o;have bi:Sl _ _ AB gh j.2:=bi;refine AU ?_;exact B0 bi
  exact trivial
 intro av aw dv cm bj az dw bk gi gj;have bl:=(iT.nil ah dv cm).st;have az:Sl _ _ AB bj j.1:=az;have bk:Sl _ _ AB dw j.2:=bk;refine AU ?_;obtain⟨gq,cn,E⟩:=bd E;refine BY bl (mt mh) O O Jl.1 cn O λgr co=>AU ?_;obtain⟨dx,cp,E⟩:=bd E;refine Ed (r:=(A5.sl AB)) (l:=p0_w.s.H) (i:=g) (x:=dx) O O (KH bk) co cp Mh.id GH.1 (λ_=>rfl) bl (.tail .head) λgs bm dy=>AU ?_;refine CX (.inl O) bm (AU ?_);have dz:=az.mono' dy;refine DM E O O O QD O (λd0 cq h' o=>Gp (St.all h') (dz.mono' (o.all bm.1)) cq) λd0 E d1=>?_;have gu:=d1;refine AU ?_;refine By (kp [32,6,5,0,1] O) λay au gv=>AH O E (λd2 E=>?_) (λd2 E=>?_)
 ·refine CO (λaa ww hf hw=>?_);cases E;exact K6 hf O hw K5 O EX ⟨_,_,_,_,O,au⟩
 refine AU ?_;refine Tj (m:=[(6,bj),(5,q1),(0,vP d 0),(1,vI g)]) 18 [0] (λi v n=>match i with|0=>v=vP d 0|1=>v=vP d 0|2=>v=vP d 0|3=>v=vP d 23|4=>v=ax|5=>v=vP d 0|6=>v=vP d 0|7=>v=vP d 16|8=>v=vP d 16|9=>v=vI p0_w.s.B∧AA p0_w.s.B|10=>v=vI g∧AA g|11=>Pt (SX S2 h3 av aw) n AB v c.to_|12=>v=vI c.to_∧AA c.to_|13=>Pt (SX S2 h3 av aw) n AB v c.way|14=>v=vI c.way∧AA c.way|15=>Sl (SX S2 h3 av aw) n AB v j.1|16=>Rd (SX S2 h3 av aw) n CA v (⟨p0_w.s.B,g,c.to_,c.way,j.1⟩:AX)|17=>Sl (SN (SX S2 h3 av aw) ay n) n CA v ([(⟨p0_w.s.B,g,c.to_,c.way,j.1⟩:AX)]:List AX)∧∃ad,v= .slice (some ad) 1 1|_=>False) [[],[],[(1,34)],[(2,35)],[(3,36)],[],[(5,38)],[(6,39)],[(7,40)],[(8,41)],[],[],[(11,44)],[],[(13,46)],[],[(9,42),(10,43),(12,45),(14,47),(15,48)],[(16,49)]] [(0,33),(4,37),(17,50)] mo (by kernel_rfl) [6,5,0,1] O (by kernel_rfl) (by kernel_rfl) (by kernel_rfl) (kp [6,5,0,1] O) MO ?_ ?_ ?_
 ·refine Ry.cons [] (by kernel_rfl) O O (by kernel_rfl) ?_ ?_
  ·intro mq n o;intro a hf;exact⟨vP d 0,Nr hf O,O⟩
  exact trivial
 ·refine A7.cons O Fy (A7.cons O Fy (A7.cons O Fy (A7.cons O Fy (A7.cons O Fy (A7.cons O Fy (A7.cons O Fy (A7.cons O Fy (A7.cons O Fy (A7.cons O Fy (A7.cons O Fy (A7.cons O ?_ ?_)))))))))))
  ·intro mq n o;have q:=o.st au;have d3:=k6.nw;have d4:=d3.fl L5;refine AU ?_;exact B0 d4
  refine A7.cons O ?_ ?_
  ·intro mq n o;intro d5 bn;have q:=o.st au;have bn:Pt _ _ AB d5 c.to_:=bn;have d6:=bn.i;refine AU ?_;exact B0 ⟨O,d6⟩
  refine A7.cons O ?_ ?_
  ·intro mq n o;have q:=o.st au;have d7:=k6.nw;have d8:=d7.fl N7;refine AU ?_;exact B0 d8
  refine A7.cons O ?_ ?_
  ·intro mq n o;intro d9 bo;have q:=o.st au;have bo:Pt _ _ AB d9 c.way:=bo;have eb:=bo.i;refine AU ?_;exact B0 ⟨O,eb⟩
  refine A7.cons O ?_ ?_
  ·intro mq n o;have q:=o.st au;refine AU ?_;have ec:=az.nw;exact B0 ec
  refine A7.cons O ?_ ?_
  ·intro mq n o;intro gw ed gx ee gy ef gz eg eh bb;have q:=o.st au;obtain⟨rfl,ei⟩:=ed;obtain⟨rfl,ej⟩:=ee;obtain⟨rfl,ek⟩:=ef;obtain⟨rfl,el⟩:=eg;have bb:Sl _ _ AB eh j.1:=bb;refine AU ?_;obtain⟨cr,b0,rfl,g0⟩:=(bb).len;refine HO (cs:=[vI p0_w.s.B,vI g,vI c.to_,vI c.way,(.slice cr j.1.length b0)]) bZ O O O (AU ?_);exact B0 (CA.mk (x:=(⟨p0_w.s.B,g,c.to_,c.way,j.1⟩:AX)) ei ej ek el bb)
  refine A7.cons O ?_ ?_
  ·intro mq n o;intro em a1;have q:=SN.st au o;have a1:=Rd.mono (S':=(SN (SX S2 h3 av aw) ay n)) a1 ⟨λb hb=> .inl hb,λ_ _=>rfl,Acr _⟩;have a1:Rd _ _ CA em (⟨p0_w.s.B,g,c.to_,c.way,j.1⟩:AX):=a1;have bg:=q.fz;obtain⟨g1,rfl,en,eo,ep,eq,b4⟩:=CA.ex a1;obtain⟨ct,b1,rfl,g2⟩:=(b4).len;refine Ft (cs:=[vI ((⟨p0_w.s.B,g,c.to_,c.way,j.1⟩:AX).B),vI ((⟨p0_w.s.B,g,c.to_,c.way,j.1⟩:AX).M),vI ((⟨p0_w.s.B,g,c.to_,c.way,j.1⟩:AX).E),vI ((⟨p0_w.s.B,g,c.to_,c.way,j.1⟩:AX).Bf),(.slice ct ((⟨p0_w.s.B,g,c.to_,c.way,j.1⟩:AX).V).length b1)]) Yn O O O O O O O bg λg3 g4 cu er=>?_;have es:=b4.mono' er;have cv:=cu.bxos (r:=CA) (l:=([(⟨p0_w.s.B,g,c.to_,c.way,j.1⟩:AX)]:List AX)) .head ⟨_,_,O,⟨_,O,en,eo,ep,eq,es⟩,O⟩ (by simp [maxLen]);obtain⟨g5,cw,g6,eu⟩:=cv.pubs .head;have bp:=Fz.done o EX cw;exact BB bp.1 ⟨Sl.mono' eu bp.2,_,O⟩
  exact trivial
 intro a2 ev g7 ew g8 ey g9 bq;have cx:=SN.st au ev;cases ew;cases ey;obtain⟨bq,gl,rfl⟩:=bq;obtain⟨cy,E⟩:=Lt E;refine Eb (r:=CA) (l:=p0_w.moves) (xs:=([(⟨p0_w.s.B,g,c.to_,c.way,j.1⟩:AX)]:List AX)) O O Yn O (Sl.src bq) O cy O cx (λ_=>(.tail (.tail (.tail (.tail (.tail (.tail (.tail .head)))))))) λha hc br hd=>AU ?_;obtain⟨a4,a0,rfl,he⟩:=br.oslen (mt (mt (mt (mt (mt (mt (mt mh)))))));refine Ge (cs':=[.string p0_w.b.F,ai,vI p0_w.b.K,aj,ak,al,am,an,ao,ap,vI p0_w.b.L,Z,ab,ac,af,ag,vI p0_w.s.B,t,u,w,z,G,ar,(.slice a4 (p0_w.moves++([(⟨p0_w.s.B,g,c.to_,c.way,j.1⟩:AX)]:List AX)).length a0),Q,aq]) O O O O bC.1 O br .head O O λb5 W hg=>?_;have b6:=k6.nw;refine AU ?_;refine AH O E (λez E=>?_) (λez E=>?_)
 ·refine AU ?_;refine DQ (AU ?_);have e0:=az.nw;refine DX E O O O Xh O W (λb7 cz=>OG (St.all _) (W.oslAll (mt (mt (mt (mt (mt (mt mh))))))) (e0.mono W.ea.1 W.ea.2) cz) λb7 E hi hj hk gm hl e1 p=>?_;have c0:=p;have a5:=W.join e1 c0 ⟨OS.flat (λ{_ _ _ _ _ _} k=>k),trivial⟩;simp only[Acu,Acs] at a5;refine AU ?_;obtain⟨c1,b2,rfl,hm⟩:=a5.oslen mh;refine Ge (cs':=[.string p0_w.b.F,ai,vI p0_w.b.K,aj,ak,al,am,an,ao,ap,vI p0_w.b.L,Z,ab,ac,af,ag,vI p0_w.s.B,t,u,w,z,G,(.slice c1 b7.length b2),(.slice a4 (p0_w.moves++([(⟨p0_w.s.B,g,c.to_,c.way,j.1⟩:AX)]:List AX)).length a0),Q,aq]) O O O O GH.1 O a5 (.tail .head) O O λhn c2 ho=>AU ?_;refine CO (λaa ww hf hw=>?_);have c3:=c2.sel [1,1,1,1,1,1,0,1,1,1] 1 O;cases E;exact K6 hf O hw K5 O EX ⟨_,_,_,_,O,c3⟩
 refine AU ?_;obtain⟨bc,c4,E⟩:=bd E;refine Tj (m:=[(6,bj),(5,q1),(0,vP d 0)]) 18 [0] (λi v n=>match i with|0=>v=vP d 0|1=>v=vP d 0|2=>v=vP d 0|3=>v=vP d 25|4=>v=aq|5=>v=vP d 0|6=>v=vP d 0|7=>v=vP d 16|8=>v=vP d 16|9=>v=vI p0_w.s.B∧AA p0_w.s.B|10=>v=vI (BT (p0_w.s.B+1))∧AA (BT (p0_w.s.B+1))|11=>Pt (SN (SX S2 h3 av aw) ay a2) n AB v c.delay|12=>v=vI c.delay∧AA c.delay|13=>v=vI (BT ((BT (p0_w.s.B+1))+c.delay))∧AA (BT ((BT (p0_w.s.B+1))+c.delay))|14=>Pt (SN (SX S2 h3 av aw) ay a2) n AB v c.to_|15=>v=vI c.to_∧AA c.to_|16=>Sl (SN (SX S2 h3 av aw) ay a2) n AB v j.1|17=>Sl (SN (SN (SX S2 h3 av aw) ay a2) b5 n) n AY v bc|_=>False) [[],[],[(1,69)],[(2,70)],[(3,71)],[],[(5,73)],[(6,74)],[(7,75)],[(8,76)],[(9,77)],[],[(11,79)],[(10,78),(12,80)],[],[(14,82)],[],[(13,81),(15,83),(16,84)]] [(0,68),(4,72),(17,85)] mo (by kernel_rfl) [6,5,0] O (by kernel_rfl) (by kernel_rfl) (by kernel_rfl) (kp [6,5,0] O) MO ?_ ?_ ?_
 ·refine Ry.cons [] (by kernel_rfl) O O (by kernel_rfl) ?_ ?_
  ·intro mq n o;intro a hf;exact⟨vP d 0,Nr hf O,O⟩
  exact trivial
 ·refine A7.cons O Fy (A7.cons O Fy (A7.cons O Fy (A7.cons O Fy (A7.cons O Fy (A7.cons O Fy (A7.cons O Fy (A7.cons O Fy (A7.cons O Fy (A7.cons O Fy (A7.cons O Fy (A7.cons O ?_ ?_)))))))))))
  ·intro mq n o;have q:=o.st W;have e2:=b6.mono (o.ext W.1);have e3:=e2.fl NT;refine AU ?_;exact B0 e3
  refine A7.cons O ?_ ?_
  ·intro mq n o;intro e4 bs;have q:=o.st W;have bs:Pt _ _ AB e4 c.delay:=bs;have e6:=bs.i;refine AU ?_;exact B0 ⟨O,e6⟩
  refine A7.cons O Fy (A7.cons O ?_ ?_)
  ·intro mq n o;have q:=o.st W;have e7:=b6.mono (o.ext W.1);have e8:=e7.fl L5;refine AU ?_;exact B0 e8
  refine A7.cons O ?_ ?_
  ·intro mq n o;intro e9 bt;have q:=o.st W;have bt:Pt _ _ AB e9 c.to_:=bt;have fa:=bt.i;refine AU ?_;exact B0 ⟨O,fa⟩
  refine A7.cons O ?_ ?_
  ·intro mq n o;have q:=o.st W;refine AU ?_;have fb:=az.nw;exact B0 fb
  refine A7.cons O ?_ ?_
  ·intro mq n o;intro hp fc hq fd fe a3;have q:=SN.st W o;obtain⟨rfl,ff⟩:=fc;obtain⟨rfl,fg⟩:=fd;have a3:=Sl.mono' (S':=(SN (SN (SX S2 h3 av aw) ay a2) b5 n)) a3 ⟨λb hb=> .inl hb,λ_ _=>rfl,Acr _⟩;have a3:Sl _ _ AB fe j.1:=a3;have bg:=q.fz;refine CY O O O sV O (TK bg ff fg a3 c4) λht hu hv hx p=>?_;have c5:=p;obtain⟨hy,c6,hz,fh⟩:=c5.pubs .head;have bu:=Fz.done o EX c6;exact BB bu.1 (Sl.mono' fh bu.2)
  exact trivial
 intro h0 fi h4 fj h5 fk fm bv;have c7:=SN.st W fi;cases fj;cases fk;have bv:Sl _ _ AY fm bc:=bv;obtain⟨c8,E⟩:=Lt E;refine Eb (r:=AY) (l:=p0_w.sent) (xs:=bc) O O SE O (Sl.src bv) O c8 O c7 (λ_=>(.tail (.tail (.tail (.tail (.tail (.tail (.tail (.tail (.tail .head)))))))))) λh6 h7 bw h8=>AU ?_;obtain⟨c9,b3,rfl,h9⟩:=bw.oslen (mt (mt (mt (mt (mt (mt (mt (mt (mt mh)))))))));refine Ge (cs':=[.string p0_w.b.F,ai,vI p0_w.b.K,aj,ak,al,am,an,ao,ap,vI p0_w.b.L,Z,ab,ac,af,ag,vI p0_w.s.B,t,u,w,z,G,ar,(.slice a4 (p0_w.moves++([(⟨p0_w.s.B,g,c.to_,c.way,j.1⟩:AX)]:List AX)).length a0),Q,(.slice c9 (p0_w.sent++bc).length b3)]) O O O O X8.1 O bw .head O O λia da ib=>AU ?_;refine WF.nil (λaa ww hf hw=>?_);cases E;exact K6 hf O hw K5 O EX ⟨_,_,_,_,O,da⟩
end Go.Proofs.YtabonambpbofgaaGreat
