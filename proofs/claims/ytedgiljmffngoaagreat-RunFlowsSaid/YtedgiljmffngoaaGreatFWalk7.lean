import Derived.Test.YtedgiljmffngoaaGreatFFacts
import Derived.Test.YtedgiljmffngoaaGreatFForms
import Derived.Test.YtedgiljmffngoaaGreatFInst
import Derived.Test.YtedgiljmffngoaaGreatFSort5
import Derived.Test.YtedgiljmffngoaaGreatFWalk0
import Derived.Test.YtedgiljmffngoaaGreatFWalk2
import Derived.Test.YtedgiljmffngoaaGreatFWalk3
namespace Go.Proofs.YtedgiljmffngoaaGreat
set_option linter.all false
open Go.RowKit
open Go.Proofs.Tryz
set_option maxRecDepth 10000
set_option maxHeartbeats 2000000
variable {N:Nat}{S:Nat→Prop}{L:List HP}{h:AT}
def GZ (C:St S L h) {b:Int}(m:AA b) {r:(List AE)}(E:Cj N b=some r):
 B0 prog 214 #[vN,vI b] S h (λv S' h'=>St S' (OS A0 259 v r::L) h'):=by
 refine BA (l:=[vN,vI b]) 27 func214 O ntmps214 O λB=>?_;rw[Cj] at E;refine BV (Bz O (kp [0,1] O) (BI (BV (AD O (DN O (B7 (kp [6,0,1] O) (AF O E (λD E=>?_) (λD E=>?_))))))))
 ·cases E
 refine CA (BI (BV (AD O (AD O (Ud O sl_255.1 O (AD O (Nz O sl_255.1 O (Kq O (Kq O (Bz O (kp [1,0] O) (BV (AD O (EC O (B7 (kp [16,1,0] O) (EZ (λa w=>∃(p:Value) (s:List AE),IV B S h (27,[]) a w [(0,p)] (OS A0 259 p s::L) λ_ _=>CN N s=some r) ?_ ?_)))))))))))))))
 ·refine AF O E (λF E=>?_) (λF E=>?_)
  ·refine B5 (BO 5 (AD O (AD O (Ud O sl_255.1 O (aB O O sl_255.1 O (AD O (BQ ?_)))))));obtain⟨t,E⟩:=LA E;obtain⟨u,E⟩:=LA E;refine Xj O O L7 eN (of_decide_eq_true t) u O O C λG H I J K x y g z=>BO 4 (AD O (Nz O sl_255.1 O (aA O O sl_255.1 O ?_)));have i:=WG (r:=A0) (l:=([]:List AE)) g (jH _) x y VZ;refine CM O (BQ (LF.nil (kp [0] O) (WF.nil (λn o c d=>?_))));exact⟨(.slice (some ⟨G,0,none⟩) 0 H),([]:List AE),_,_,c.sub (kp [0] O),d,i,z,E⟩
  refine CA (WF.nil (λn o c d=>?_));have j:=C.nil A0 259;exact⟨(vN),([]:List AE),_,_,c.sub (kp [0] O),d,j,(B6.refl S h),E⟩
 rintro n o ⟨p,s,M,Q,c,d,k,A,E⟩;refine AI ?_ c d;clear c d o n;rw[CN] at E;refine BV (AD O (Bz O (kp [4] O) (BS (λn o c d=>?_))));cases E;exact Oo c d O O A k
def GD (hs:St S L h) {c:Value}{b:(List (List AE))}(d:Sl S h (BB.sl A0) c b) {r:(List AE)}(E:Ce N b=some r):
 B0 prog 164 #[c] S h (λv S' h'=>St S' (OS A0 259 v r::L) h'):=by
 refine BA 36 func164 O ntmps164 O λB=>?_;rw[Ce] at E;refine AU ?_;refine AK (λa w=>∃(V:Int),IV B S h (36,[]) a w [(0,c),(3,vI V)] (L) λ_ _=>AA V∧CJ N b V=some r) ?_ ?_
 ·refine AY (λn1=>λa w=>∃(D:Int) (o:Int),IV B S h (36,[]) a w [(10,vI (↑b.length:Int)),(9,c),(0,c),(3,vI D),(11,vI o)] (L) λ_ _=>AA D∧AA o∧B2 N b (CJ N b) n1 D o=some r) N ?_ ?_ ?_
  ·intro j k g i;exact⟨0,0,_,_,g.sub (kp [10,9,0,3,11] O),i,hs,(B6.refl S h),(iq (n:=0) O),(iq (n:=0) O),E⟩
  ·rintro j k ⟨_,_,_,_,_,_,_,_,_,_,E⟩;rw[B2] at E;cases E
  rintro n1 j k ⟨D,o,ai,aj,g,i,t,x,r9,ak,E⟩;refine AI ?_ g i;clear g i k j;rw[B2] at E;refine AU ?_;refine AF O E (λW E=>?_) (λW E=>?_)
  ·refine AU ?_;refine AZ (AU ?_);have X:=d.mono' x;refine A9 E O O X sl_304.1 O λY E al am=>AU ?_;refine AF O E (λZ E=>?_) (λZ E=>?_)
   ·cases E
   refine AU ?_;refine BD (AU ?_);refine WF.nil (λj k g i=>?_);exact⟨(BG (D+(↑Y.length:Int))),(BG (o+1)),_,_,g.sub (kp [10,9,0,3,11] O),i,t,x,(BF _),(BF _),E⟩
  refine A8 O (λj k g i=>?_);exact⟨D,_,_,g.sub (kp [0,3] O),i,t,x,r9,E⟩
 rintro j k ⟨V,an,ao,g,i,F,ap,r3,E⟩;refine AI ?_ g i;clear g i k j;rw[CJ] at E;refine AU ?_;refine B5 (AU ?_);refine BR E O O O ZX O (λG H=>GZ F r3 H) λG E ab y z aq p=>?_;have I:=p;have ac:=d.nw;refine AU ?_;refine AK (λa w=>∃(A:Value) (C:List AE),IV B y z (36,[]) a w [(6,A)] (OS A0 259 A C::L) λ_ _=>CI N C=some r) ?_ ?_
 ·refine AY (λn3=>λa w=>∃(s:Value) (m:List AE) (q:Int),IV B y z (36,[]) a w [(26,vI (↑b.length:Int)),(25,c),(6,s),(27,vI q)] (OS A0 259 s m::L) λ_ _=>AA q∧B1 N b (CI N) n3 m q=some r) N ?_ ?_ ?_
  ·intro j k g i;exact⟨ab,G,0,_,_,g.sub (kp [26,25,6,27] O),i,I,(B6.refl y z),(iq (n:=0) O),E⟩
  ·rintro j k ⟨_,_,_,_,_,_,_,_,_,_,E⟩;rw[B1] at E;cases E
  rintro n3 j k ⟨s,m,q,ar,au,g,i,u,J,av,E⟩;refine AI ?_ g i;clear g i k j;rw[B1] at E;refine AU ?_;refine AF O E (λad E=>?_) (λad E=>?_)
  ·refine AU ?_;refine AZ (AU ?_);have ae:=ac.mono' J;refine A9 E O O ae sl_304.1 O λK E aw af=>?_;obtain⟨ax,_,ag⟩:=af.ll;refine AU ?_;obtain⟨M,E⟩:=LA E;refine IJ (r:=A0) (l:=m) (xs:=K) O O L7 O (Sl.src ag) O M O u (λ_=> .head) λah ay Q az=>AU ?_;refine BD (AU ?_);refine WF.nil (λj k g i=>?_);exact⟨ah,(m++K),(BG (q+1)),_,_,g.sub (kp [26,25,6,27] O),i,Q,EX,(BF _),E⟩
  refine A8 O (λj k g i=>?_);exact⟨s,m,_,_,g.sub (kp [6] O),i,u,J,E⟩
 rintro j k ⟨A,C,a0,a1,g,i,U,a2,E⟩;refine AI ?_ g i;clear g i k j;rw[CI] at E;refine AU ?_;cases E;exact KN U O O EX
def Kt (X:St S L h) {c:Value}{d:(List Int)}(q:Sl S h AB c d) {g:Value}{k:(Int→Option Bool)}(s:Rd S h (BB.fn prog (λx:Int=>([vI x]:List Value)) (λx:Int=>AA x) (λy:Bool=> .bool y) (λy:Bool=>True)) g k) {r:Int}(E:GI N d k=some r):
 B0 prog 290 #[c,g] S h (λv S' h'=>v=vI r∧AA r∧St S' (L) h'):=by
 refine BA 19 func290 O ntmps290 O λB=>?_;rw[GI] at E;obtain⟨F,G,rfl,H,I⟩:=s.fn;refine AU ?_;refine AK (λa w=>IV B S h (19,[]) a w [] (L) λ_ _=>Dk N=some r) ?_ ?_
 ·refine AY (λV=>λa w=>∃(z:Int),IV B S h (19,[]) a w [(7,vI (↑d.length:Int)),(0,c),(1,(.func (.func F) #[] G)),(8,vI z)] (L) λ_ _=>AA z∧C1 N d k (Dk N) V z=some r) N ?_ ?_ ?_
  ·intro t u l m;exact⟨0,_,_,l.sub (kp [7,0,1,8] O),m,X,(B6.refl S h),(iq (n:=0) O),E⟩
  ·rintro t u ⟨_,_,_,_,_,_,_,_,E⟩;rw[C1] at E;cases E
  rintro V t u ⟨z,Y,Z,l,m,j,p,r9,E⟩;refine AI ?_ l m;clear l m u t;rw[C1] at E;refine AU ?_;refine AF O E (λJ E=>?_) (λJ E=>?_)
  ·refine AU ?_;refine AZ (AU ?_);refine BZ (.inl O) j (AU ?_);have K:=q.mono' p;refine A9 E O O K sl_29.1 O λab E ac M=>?_;have Q:=M.i;refine AU ?_;obtain⟨ad,A,E⟩:=bd E;refine Ht O O O H O (λh' o=>I _ h' (λb D=>gJ (j.1 b (p.sub b D)) o.siz) (λb D=>(o.same b (j.1 b (p.sub b D))).trans (p.same b D)) [] (St.all h') _ _ Q A) (BL (kp [16,5,7,0,1,8] O) λae C af=>AF O E (λU E=>?_) (λU E=>?_))
   ·exact RT
   refine AU ?_;refine BD (AU ?_);refine WF.nil (λt u l m=>?_);exact⟨(BG (z+1)),_,_,l.sub (kp [7,0,1,8] O),m,C,EX,(BF _),E⟩
  refine A8 O (λt u l m=>?_);exact⟨_,_,l.sub MC,m,j,p,E⟩
 rintro t u ⟨ag,ah,l,m,W,ai,E⟩;refine AI ?_ l m;clear l m u t;rw[Dk] at E;exact RT
def KL (j:St S L h) {a:Value}{g:(List Int)}(d:Sl S h AB a g) {b:Value}{i:(Int→Option Bool)}(c:Rd S h (BB.fn prog (λx:Int=>([vI x]:List Value)) (λx:Int=>AA x) (λy:Bool=> .bool y) (λy:Bool=>True)) b i) {r:Bool}(E:FQ N g i=some r):
 B0 prog 269 #[a,b] S h (λv S' h'=>v= .bool r∧St S' (L) h'):=by
 refine BA 9 func269 O ntmps269 O λB=>?_;rw[FQ] at E;obtain⟨l,m,rfl,n,p⟩:=c.fn;refine AU ?_;refine BZ (.inl O) j (AU ?_);refine CC E O O O Y9 O (λq k h' o=>Kt (St.all h') (d.mono' (o.all j.1)) (c.mono (o.all j.1)) k) λq E s=>?_;have w:=s;refine AU ?_;exact BL (kp [4] O) λz t u=>RT
def PL (c:St S L h) {a:Int}(b:AA a) {r:Bool}(E:J5 N a=some r):
 B0 prog 270 #[vI a] S h (λv S' h'=>v= .bool r∧St S' (L) h'):=by
 refine BA 5 func270 O ntmps270 O λB=>?_;rw[J5] at E;exact RT
def QM (A:St S L h) {c:Int}(m:AA c) {a:Int}(n:AA a) {d:Value}{i:(List Int)}(g:Sl S h AB d i) {r:(List BM)}(E:Mk N c a i=some r):
 B0 prog 218 #[vN,vI c,vI a,d] S h (λv S' h'=>St S' (OS A3 121 v r::L) h'):=by
 refine BA (l:=[vN,vI c,vI a,d]) 32 func218 O ntmps218 O λB=>?_;rw[Mk] at E;refine BV (Bz O (kp [0,1,2,3] O) (BV (AD O (AD O (Nz O sl_33.1 O (AD O (Nz O sl_33.1 O (XM O O O sl_33.1 O (Bz O (kp [9,1,2,3] O) (BI (BI (BZ (.inl O) A (AD O (DN O (AD O ?_)))))))))))))));obtain⟨b2,j,E⟩:=bd E;refine AS 4 22 (.bool b2) ?_ ?_
 ·cases c1:(decide (a<0))
  ·have j:=Em c1 j;refine AM O (AD O (AM O ?_));have U:Rd S h (BB.fn prog (λx:Int=>([vI x]:List Value)) (λx:Int=>AA x) (λy:Bool=> .bool y) (λy:Bool=>True)) (.func (.func 270) #[] #[]) (λx=>J5 N x):=Rd.ofFn 270 #[] ZI λS' h' s' e' L A x y h1 h2=>(PL A h1 h2).mono λ_ _ _ _ p=>⟨p.1,trivial,p.2⟩
   obtain⟨y4,V,j⟩:=bd j;refine Ht O O O ZJ O (λh' o=>KL (St.all h') (g.mono' (o.all A.1)) (U.mono (o.all A.1)) V) (AM O (HI O (BP O ?_)));cases j;exact AQ O
  have j:=El c1 j;cases j;exact A6 O O
 refine BL (kp [22,9,1,2,3] O) λh6 u W=>AF O E (λc9 E=>?_) (λc9 E=>?_)
 ·refine BV (AD O (Bz O (kp [8] O) (BS (λaa ww X Y=>?_))));have C:=u.nil A3 121;cases E;exact Oo X Y O O W C
 refine CA (WF.sl (BO 4 (AD O (AD O (AD O (AD O (BQ ?_)))))));have Z:=g.mono' W;obtain⟨z,D,E⟩:=bd E;refine Cn O O O Od O u (Cp (St.all _) (Z.mono (λb hb=>u.1 b hb) (λ_ _=>rfl)) D) λai aj ak ah ab ac p=>?_;have F:=p;have s:=u.join ac F ⟨OS.flat (λ{_ _ _ _ _ _} k=>k),trivial⟩;simp only[gZ,gQ] at s;refine BO 1 ?_;obtain⟨w,t,rfl,al⟩:=s.oslen mh;refine Dd (cs:=[vI c,vI a,(.slice w z.length t)]) TP O O O (BQ (Df (cs:=[vI c,vI a,(.slice w z.length t)]) Pk O O O O O O O s λam an G ad=>?_));have H:=G.nil A3 121;obtain⟨ao,I,ae,af⟩:=H.pubs (.tail (.tail .head));obtain⟨J,E⟩:=LA E;refine JX (r:=A3) (l:=([]:List BM)) (xs:=([(⟨c,a,z⟩:BM)]:List BM)) O O Pk O (mt mh) ⟨_,_,O,⟨_,O,m,n,af⟩,O⟩ O O J O I (λ_=> .head) λap aq K ag=>?_;have M:=K.drop (.tail .head);refine BO 1 (CM O (BQ (LF.nil (kp [8] O) (BS (λaa ww X Y=>?_)))));cases E;have Q:=W.trans (ab.trans (ad.trans (ae.trans ag)));exact Oo X Y O O Q M
def Ja {d:Nat}{p0_w:A5}{al:Value}{am:Value}{an:Value}{ao:Value}{ap:Value}{aq:Value}{ar:Value}{au:Value}{ag:Value}{ah:Value}{ai:Value}{aj:Value}{ak:Value}{M:Value}{V:Value}{ab:Value}{ac:Value}{ae:Value}{aw:Value}{a0:Value}{af:Value}{av:Value}(hs:St S (Bx d 160 [.string p0_w.b.C,al,vI p0_w.b.H,am,an,ao,ap,aq,ar,au,vI p0_w.b.G,ag,ah,ai,aj,ak,vI p0_w.s.A,M,V,ab,ac,ae,aw,a0,af,av]::OS (BB.sl AB) 29 M p0_w.s.F::OS AB 3 V p0_w.s.K::OS A3 121 ab p0_w.s.P::OS BK 106 ac p0_w.s.Q::OS AB 3 ae p0_w.s.O::OS AB 3 aw p0_w.s.N::OS BJ 74 a0 p0_w.moves::OS AB 3 af p0_w.peaks::OS A3 121 av p0_w.sent::L) h) (dr:p0_w.b.C.size≤maxLen) (ds:Sl S h BB.str al p0_w.b.I) (dt:AA p0_w.b.H) (du:Sl S h BX am p0_w.b.E) (dv:Sl S h Bu an p0_w.b.J) (dw:Sl S h DL ao p0_w.b.U) (dx:Sl S h Cw ap p0_w.b.W) (dy:Sl S h DM aq p0_w.b.Y) (dz:Sl S h Cd ar p0_w.b.Z) (d0:Sl S h AB au p0_w.b.X) (cm:AA p0_w.b.G) (cn:Sl S h AB ag p0_w.in_.Aa) (co:Sl S h D0 ah p0_w.in_.Ai) (cp:Sl S h H2 ai p0_w.in_.Aj) (cq:Sl S h D3 aj p0_w.in_.Ak) (cr:Sl S h Ea ak p0_w.in_.Ag) (a4:AA p0_w.s.A) {t:Int}(bj:AA t) {a9:Value}{c:AE}(cd:Rd S h A0 a9 c) {r:(List (List Int))×(List Int)×(List AX)×(List BM)}(E:HN N p0_w t c=some r):
 B0 prog 167 #[vP d 0,vI t,a9] S h (λv S' h'=>∃bk bl bm bn:Value,v= .tuple #[]∧St S' (Bx d 160 [.string p0_w.b.C,al,vI p0_w.b.H,am,an,ao,ap,aq,ar,au,vI p0_w.b.G,ag,ah,ai,aj,ak,vI p0_w.s.A,bk,V,ab,ac,ae,bl,bm,af,bn]::OS (BB.sl AB) 29 bk r.1::OS AB 3 V p0_w.s.K::OS A3 121 ab p0_w.s.P::OS BK 106 ac p0_w.s.Q::OS AB 3 ae p0_w.s.O::OS AB 3 bl r.2.1::OS BJ 74 bm r.2.2.1::OS AB 3 af p0_w.peaks::OS A3 121 bn r.2.2.2::L) h'):=by
 refine BA (l:=[vP d 0,vI t,a9]) 89 func167 O ntmps167 O λB=>?_;rw[HN] at E;refine AU ?_;refine B4 O cd (λe=>by cases e) O hs λq1 S2 h3 z e5 k6=>AU ?_;refine R6 (kp [5,0,1] O) ?_;obtain⟨jm,d1,E⟩:=bd E;obtain⟨ct,d2,E⟩:=bd E;obtain⟨w,d3,E⟩:=bd E;refine UK (m:=[(5,q1),(0,vP d 0),(1,vI t)]) [] [] [] (λX i v q=>match i with|0=>Pt S2 q (BB.fnr prog (λS h vs (x:(List Int))=>∃w0:Value,vs=[w0]∧Sl S h AB w0 x) (λS h v (y:((List Int)×(List Int)))=>∃w0 w1:Value,v= .tuple #[w0,w1]∧Sl S h AB w0 y.1∧Sl S h AB w1 y.2)) v c.take|1=>Rd S2 q (BB.fnr prog (λS h vs (x:(List Int))=>∃w0:Value,vs=[w0]∧Sl S h AB w0 x) (λS h v (y:((List Int)×(List Int)))=>∃w0 w1:Value,v= .tuple #[w0,w1]∧Sl S h AB w0 y.1∧Sl S h AB w1 y.2)) v c.take|2=>v=vP d 0|3=>v=vP d 0|4=>v=vP d 16|5=>v=vP d 17|6=>v=M|7=>v=vI t∧AA t|8=>EP M (t.toNat*((BB.sl AB)).sz+0) v|9=>Sl S2 q AB v ct|10=>∃w0 w1:Value,v= .tuple #[w0,w1]∧(Sl (SX S2 h3 q X) q AB w0 w.1)∧(Sl (SX S2 h3 q X) q AB w1 w.2)|11=>∃w0 w1:Value,v= .tuple #[w0,w1]∧(Sl (SX S2 h3 q X) q AB w0 w.1)∧(Sl (SX S2 h3 q X) q AB w1 w.2)|12=>Sl (SX S2 h3 q X) q AB v w.1|13=>Sl (SX S2 h3 q X) q AB v w.2|14=>Sl (SX S2 h3 q X) q AB v w.1|15=>Sl (SX S2 h3 q X) q AB v w.2|_=>False) [[],[(0,9)],[],[(2,11)],[(3,12)],[(4,13)],[(5,14)],[],[(6,15),(7,16)],[(8,17)],[(1,10),(9,18)],[(10,19)],[(11,8)],[(11,8)],[(12,20)],[(13,21)]] [(14,6),(15,7)] mo (by kernel_rfl) [5,0,1] O (by kernel_rfl) (by kernel_rfl) (by kernel_rfl) O (kp [5,0,1] O) (λi v h1 h2 X X' o1 o2 u1 u2 u=>?_) (by kernel_rfl) UI ?_ ?_ ?_
 ·match i,u with
   |0,u=>exact(K4.mono u (o2.ext λb hb=>gJ (z.1 b hb) o1.siz))
   |1,u=>exact(Rd.mono u (o2.ext λb hb=>gJ (z.1 b hb) o1.siz))
   |2,u|3,u|4,u|5,u|6,u|7,u|8,u=>exact u
   |9,u=>exact(Sl.mono' u (o2.ext λb hb=>gJ (z.1 b hb) o1.siz))
   |10,u|11,u=>obtain⟨w0,w1,e,k0,k1⟩:=u;exact⟨w0,w1,e,(Sl.mono' k0 (SX.mono z.1 o1 o2 u1 u2)),(Sl.mono' k1 (SX.mono z.1 o1 o2 u1 u2))⟩
   |12,u|13,u|14,u|15,u=>exact(Sl.mono' u (SX.mono z.1 o1 o2 u1 u2))
   |_+16,u=>exact u.elim
 ·exact trivial
 ·refine Dr.cons O O O ?_ ?_
  ·intro X mq q o hX;have n:=o.st z;have gk:=k6.mono (o.ext z.1);have gl:=gk.fl Lt;refine AU ?_;exact AL (CF.refl _) gl
  refine Dr.cons O O O ?_ ?_
  ·intro X mq q o hX;intro gm cu;have n:=o.st z;have cu:Pt _ _ (BB.fnr prog (λS h vs (x:(List Int))=>∃w0:Value,vs=[w0]∧Sl S h AB w0 x) (λS h v (y:((List Int)×(List Int)))=>∃w0 w1:Value,v= .tuple #[w0,w1]∧Sl S h AB w0 y.1∧Sl S h AB w1 y.2)) gm c.take:=cu;refine AU ?_;refine JJ FC n.1 O cu ty_257.1 (λ_=>rfl) O λjn gn=>AU ?_;exact AL (CF.refl _) gn
  refine Dr.cons O O O ?_ ?_
  ·intro X mq q o hX;have n:=o.st z;refine AU ?_;exact AL (CF.refl _) O
  refine Dr.cons O O O ?_ ?_
  ·intro X mq q o hX;intro jo gp;have n:=o.st z;cases gp;refine AU ?_;exact AL (CF.refl _) O
  refine Dr.cons O O O ?_ ?_
  ·intro X mq q o hX;intro jp gq;have n:=o.st z;cases gq;refine AU ?_;exact AL (CF.refl _) O
  refine Dr.cons O O O ?_ ?_
  ·intro X mq q o hX;intro jq gr;have n:=o.st z;cases gr;refine AU ?_;exact AL (CF.refl _) O
  refine Dr.cons O O O ?_ ?_
  ·intro X mq q o hX;intro jr gs;have n:=o.st z;cases gs;refine AU ?_;exact AL (CF.refl _) O
  refine Dr.cons O O O ?_ ?_
  ·intro X mq q o hX;have n:=o.st z;refine AU ?_;exact AL (CF.refl _) ⟨O,bj⟩
  refine Dr.cons O O O ?_ ?_
  ·intro X mq q o hX;intro js gt jt gu;have n:=o.st z;cases gt;obtain⟨rfl,ju⟩:=gu;refine AU ?_;refine BT n (mt mh) O O sl_32.1 d1 O λjv d4=>AU ?_;exact AL (CF.refl _) d4
  refine Dr.cons O O O ?_ ?_
  ·intro X mq q o hX;intro jw gv;have n:=o.st z;refine AU ?_;have gw:=n.epAt (mt mh) d2 Co.id gv;refine GN FC (λ_ x=>x) O gw ty_29.1 O λjx gx=>AU ?_;exact AL (CF.refl _) gx
  refine Dr.cons O O O ?_ ?_
  ·intro X mq q o hX;intro gy br gz bs;have n:=La (X:=X) z o;have br:=Rd.mono (S':=(SX S2 h3 q X)) br ⟨λb hb=>(SX.ext z.1 o hX).sub b hb,λ_ _=>rfl,gN _⟩;have br:Rd _ _ (BB.fnr prog (λS h vs (x:(List Int))=>∃w0:Value,vs=[w0]∧Sl S h AB w0 x) (λS h v (y:((List Int)×(List Int)))=>∃w0 w1:Value,v= .tuple #[w0,w1]∧Sl S h AB w0 y.1∧Sl S h AB w1 y.2)) gy c.take:=br;have bs:=Sl.mono' (S':=(SX S2 h3 q X)) bs ⟨λb hb=>(SX.ext z.1 o hX).sub b hb,λ_ _=>rfl,gN _⟩;have bs:Sl _ _ AB gz ct:=bs;have bt:=n.fz;obtain⟨hl,hm,rfl,d5,d6⟩:=br.fnr;refine Cr O O O d5 O (d6 _ _ (λb hb=>(B6.refl (SX S2 h3 q X) q).sub b hb) (λb hb=>(B6.refl (SX S2 h3 q X) q).same b hb) _ bt ct _ _ ⟨_,O,bs⟩ d3) λjy jz j0 g0 p=>?_;obtain⟨⟨j1,j2,rfl,g1,g2⟩,d7⟩:=p;have bu:=SX.done o hX g0 d7;exact AL bu.1 ⟨_,_,O,(Sl.mono' g1 bu.2),(Sl.mono' g2 bu.2)⟩
  refine Dr.cons O O O ?_ ?_
  ·intro X mq q o hX;intro j3 g3;have n:=La (X:=X) z o;obtain⟨g4,g5,rfl,cv,cw⟩:=g3;have cv:Sl _ _ AB g4 w.1:=cv;have cw:Sl _ _ AB g5 w.2:=cw;refine AU ?_;exact AL (CF.refl _) ⟨_,_,O,cv,cw⟩
  refine Dr.cons O O O ?_ ?_
  ·intro X mq q o hX;intro j4 g6;have n:=La (X:=X) z o;obtain⟨g7,g8,rfl,cx,d8⟩:=g6;have cx:Sl _ _ AB g7 w.1:=cx;have d8:Sl _ _ AB g8 w.2:=d8;refine AU ?_;exact AL (CF.refl _) cx
  refine Dr.cons O O O ?_ ?_
  ·intro X mq q o hX;intro j5 g9;have n:=La (X:=X) z o;obtain⟨ha,hc,rfl,d9,cy⟩:=g9;have d9:Sl _ _ AB ha w.1:=d9;have cy:Sl _ _ AB hc w.2:=cy;refine AU ?_;exact AL (CF.refl _) cy
  refine Dr.cons O O O ?_ ?_
  ·intro X mq q o hX;intro hd cz;have n:=La (X:=X) z o;have cz:Sl _ _ AB hd w.1:=cz;refine AU ?_;exact AL (CF.refl _) cz
  refine Dr.cons O O O ?_ ?_
  ·intro X mq q o hX;intro he bv;have n:=La (X:=X) z o;have bv:Sl _ _ AB he w.2:=bv;refine AU ?_;exact AL (CF.refl _) bv
  exact trivial
 intro ax ay a5 a1 bw a7 ea bx hg hi;have bz:=(Wq.nil z a5 a1).st;have a7:Sl _ _ AB bw w.1:=a7;have bx:Sl _ _ AB ea w.2:=bx;refine AU ?_;obtain⟨hn,c0,E⟩:=bd E;refine BT bz (mt mh) O O sl_32.1 c0 O λho c1=>AU ?_;obtain⟨eb,c2,E⟩:=bd E;refine De (r:=(BB.sl AB)) (l:=p0_w.s.F) (i:=t) (x:=eb) O O (Nx bx) c1 c2 MT.id ty_29.1 (λ_=>rfl) bz (.tail .head) λhp b0 az=>AU ?_;refine BZ (.inl O) b0 (AU ?_);have ec:=a7.mono' az;obtain⟨hq,c3,E⟩:=bd E;refine Kz O O O Ls O (λh' o=>Ci (St.all h') (ec.mono' (o.all b0.1)) c3) λed=>?_;have ht:=ed;refine AU ?_;refine BL (kp [32,6,5,0,1] O) λa6 g a2=>AF O E (λee E=>?_) (λee E=>?_)
 ·refine BS (λaa ww hf hw=>?_);cases E;have c4:=e5.trans ((SX.ext z.1 a5 a1).trans (az.trans a2));exact Hk hf O hw Hj O c4 ⟨_,_,_,_,O,g⟩
 refine AU ?_;refine R8 (m:=[(6,bw),(5,q1),(0,vP d 0),(1,vI t)]) 18 [0] (λi v q=>match i with|0=>v=vP d 0|1=>v=vP d 0|2=>v=vP d 0|3=>v=vP d 23|4=>v=a0|5=>v=vP d 0|6=>v=vP d 0|7=>v=vP d 16|8=>v=vP d 16|9=>v=vI p0_w.s.A∧AA p0_w.s.A|10=>v=vI t∧AA t|11=>Pt (SX S2 h3 ax ay) q AB v c.to_|12=>v=vI c.to_∧AA c.to_|13=>Pt (SX S2 h3 ax ay) q AB v c.way|14=>v=vI c.way∧AA c.way|15=>Sl (SX S2 h3 ax ay) q AB v w.1|16=>Rd (SX S2 h3 ax ay) q BJ v (⟨p0_w.s.A,t,c.to_,c.way,w.1⟩:AX)|17=>Sl (SN (SX S2 h3 ax ay) a6 q) q BJ v ([(⟨p0_w.s.A,t,c.to_,c.way,w.1⟩:AX)]:List AX)∧∃ad,v= .slice (some ad) 1 1|_=>False) [[],[],[(1,34)],[(2,35)],[(3,36)],[],[(5,38)],[(6,39)],[(7,40)],[(8,41)],[],[],[(11,44)],[],[(13,46)],[],[(9,42),(10,43),(12,45),(14,47),(15,48)],[(16,49)]] [(0,33),(4,37),(17,50)] mo (by kernel_rfl) [6,5,0,1] O (by kernel_rfl) (by kernel_rfl) (by kernel_rfl) (kp [6,5,0,1] O) (λi v h1 h2 o1 o2 u=>?_) ?_ ?_ ?_
 ·match i,u with
   |0,u|1,u|2,u|3,u|4,u|5,u|6,u|7,u|8,u|9,u|10,u|12,u|14,u=>exact u
   |11,u|13,u=>exact K4.mono u (o2.ext λb hb=>gJ (g.1 b hb) o1.siz)
   |15,u=>exact Sl.mono' u (o2.ext λb hb=>gJ (g.1 b hb) o1.siz)
   |16,u=>exact Rd.mono u (o2.ext λb hb=>gJ (g.1 b hb) o1.siz)
   |17,u=>exact⟨Sl.mono' u.1 (SN.mono g.1 o1 o2),u.2⟩
   |_+18,u=>exact u.elim
 ·refine Pd.cons [] (by kernel_rfl) O O (by kernel_rfl) ?_ ?_
  ·intro mq q o;intro a hf;exact⟨vP d 0,ME hf O,O⟩
  exact trivial
 ·refine AW.cons O ?_ ?_
  ·intro mq q o;have n:=o.st g;refine AU ?_;exact AL (CF.refl _) O
  refine AW.cons O ?_ ?_
  ·intro mq q o;have n:=o.st g;refine AU ?_;exact AL (CF.refl _) O
  refine AW.cons O ?_ ?_
  ·intro mq q o;intro hu ef;have n:=o.st g;cases ef;refine AU ?_;exact AL (CF.refl _) O
  refine AW.cons O ?_ ?_
  ·intro mq q o;intro hv eg;have n:=o.st g;cases eg;refine AU ?_;exact AL (CF.refl _) O
  refine AW.cons O ?_ ?_
  ·intro mq q o;intro hx eh;have n:=o.st g;cases eh;refine AU ?_;exact AL (CF.refl _) O
  refine AW.cons O ?_ ?_
  ·intro mq q o;have n:=o.st g;refine AU ?_;exact AL (CF.refl _) O
  refine AW.cons O ?_ ?_
  ·intro mq q o;intro hy ei;have n:=o.st g;cases ei;refine AU ?_;exact AL (CF.refl _) O
  refine AW.cons O ?_ ?_
  ·intro mq q o;intro hz ej;have n:=o.st g;cases ej;refine AU ?_;exact AL (CF.refl _) O
  refine AW.cons O ?_ ?_
  ·intro mq q o;intro h0 ek;have n:=o.st g;cases ek;refine AU ?_;exact AL (CF.refl _) O
  refine AW.cons O ?_ ?_
  ·intro mq q o;intro h4 el;have n:=o.st g;cases el;refine AU ?_;exact AL (CF.refl _) ⟨O,a4⟩
  refine AW.cons O ?_ ?_
  ·intro mq q o;have n:=o.st g;refine AU ?_;exact AL (CF.refl _) ⟨O,bj⟩
  refine AW.cons O ?_ ?_
  ·intro mq q o;have n:=o.st g;have em:=k6.mono ((SX.ext z.1 a5 a1).trans (az.trans (a2.trans (o.ext g.1))));have en:=em.fl KY;refine AU ?_;exact AL (CF.refl _) en
  refine AW.cons O ?_ ?_
  ·intro mq q o;intro eo b1;have n:=o.st g;have b1:Pt _ _ AB eo c.to_:=b1;have ep:=b1.i;refine AU ?_;exact AL (CF.refl _) ⟨O,ep⟩
  refine AW.cons O ?_ ?_
  ·intro mq q o;have n:=o.st g;have eq:=k6.mono ((SX.ext z.1 a5 a1).trans (az.trans (a2.trans (o.ext g.1))));have er:=eq.fl MW;refine AU ?_;exact AL (CF.refl _) er
  refine AW.cons O ?_ ?_
  ·intro mq q o;intro es b2;have n:=o.st g;have b2:Pt _ _ AB es c.way:=b2;have eu:=b2.i;refine AU ?_;exact AL (CF.refl _) ⟨O,eu⟩
  refine AW.cons O ?_ ?_
  ·intro mq q o;have n:=o.st g;refine AU ?_;have ev:=a7.mono' (az.trans (a2.trans (o.ext g.1)));exact AL (CF.refl _) ev
  refine AW.cons O ?_ ?_
  ·intro mq q o;intro h5 ew h6 ey h7 ez h8 e0 e1 bo;have n:=o.st g;obtain⟨rfl,e2⟩:=ew;obtain⟨rfl,e3⟩:=ey;obtain⟨rfl,e4⟩:=ez;obtain⟨rfl,e6⟩:=e0;have bo:Sl _ _ AB e1 w.1:=bo;refine AU ?_;obtain⟨c5,ce,rfl,h9⟩:=(bo).len;refine Dd (cs:=[vI p0_w.s.A,vI t,vI c.to_,vI c.way,(.slice c5 w.1.length ce)]) RQ O O O (AU ?_);exact AL (CF.refl _) (BJ.mk (x:=(⟨p0_w.s.A,t,c.to_,c.way,w.1⟩:AX)) e2 e3 e4 e6 bo)
  refine AW.cons O ?_ ?_
  ·intro mq q o;intro e7 bb;have n:=SN.st g o;have bb:=Rd.mono (S':=(SN (SX S2 h3 ax ay) a6 q)) bb ⟨λb hb=> .inl hb,λ_ _=>rfl,gN _⟩;have bb:Rd _ _ BJ e7 (⟨p0_w.s.A,t,c.to_,c.way,w.1⟩:AX):=bb;have bt:=n.fz;obtain⟨ia,rfl,e8,e9,fa,fb,cg⟩:=BJ.ex bb;obtain⟨c6,cf,rfl,ib⟩:=(cg).len;refine Df (cs:=[vI ((⟨p0_w.s.A,t,c.to_,c.way,w.1⟩:AX).A),vI ((⟨p0_w.s.A,t,c.to_,c.way,w.1⟩:AX).D),vI ((⟨p0_w.s.A,t,c.to_,c.way,w.1⟩:AX).B),vI ((⟨p0_w.s.A,t,c.to_,c.way,w.1⟩:AX).Aw),(.slice c6 ((⟨p0_w.s.A,t,c.to_,c.way,w.1⟩:AX).R).length cf)]) Rb O O O O O O O bt λic ie c7 ch=>?_;have fc:=cg.mono' ch;have c8:=c7.bxos (r:=BJ) (l:=([(⟨p0_w.s.A,t,c.to_,c.way,w.1⟩:AX)]:List AX)) .head ⟨_,_,O,⟨_,O,e8,e9,fa,fb,fc⟩,O⟩ (by simp [maxLen]);obtain⟨ig,c9,fd,fe⟩:=c8.pubs .head;have b3:=Fz.done o (ch.trans fd) c9;exact AL b3.1 ⟨Sl.mono' fe b3.2,_,O⟩
  exact trivial
 intro bc a8 ih ff ii fg ij b4;have da:=SN.st g a8;cases ff;cases fg;obtain⟨b4,hj,rfl⟩:=b4;obtain⟨db,E⟩:=LA E;refine IJ (r:=BJ) (l:=p0_w.moves) (xs:=([(⟨p0_w.s.A,t,c.to_,c.way,w.1⟩:AX)]:List AX)) O O Rb O (Sl.src b4) O db O da (λ_=>(.tail (.tail (.tail (.tail (.tail (.tail (.tail .head)))))))) λik il b5 be=>AU ?_;obtain⟨ba,a3,rfl,im⟩:=b5.oslen (mt (mt (mt (mt (mt (mt (mt mh)))))));refine DY (vs:=[(.slice ba (p0_w.moves++([(⟨p0_w.s.A,t,c.to_,c.way,w.1⟩:AX)]:List AX)).length a3)]) (cs':=[.string p0_w.b.C,al,vI p0_w.b.H,am,an,ao,ap,aq,ar,au,vI p0_w.b.G,ag,ah,ai,aj,ak,vI p0_w.s.A,M,V,ab,ac,ae,aw,(.slice ba (p0_w.moves++([(⟨p0_w.s.A,t,c.to_,c.way,w.1⟩:AX)]:List AX)).length a3),af,av]) O O O O ty_70.1 O b5 .head O O λci j bf=>?_;have dc:=(SX.ext z.1 a5 a1).trans (az.trans (a2.trans ((SN.ext g.1 a8).trans (be.trans bf))));have cj:=k6.mono dc;refine AU ?_;refine AF O E (λfh E=>?_) (λfh E=>?_)
 ·refine AU ?_;refine B5 (AU ?_);have dd:=az.trans (a2.trans ((SN.ext g.1 a8).trans (be.trans bf)));have fi:=a7.mono' dd;obtain⟨ck,de,E⟩:=bd E;refine Cn O O O Vq O j (Mc (St.all _) (j.oslAll (mt (mt (mt (mt (mt (mt mh))))))) (fi.mono (λb hb=>j.1 b hb) (λ_ _=>rfl)) de) λio ip ir hk fj fk p=>?_;have df:=p;have bi:=j.join fk df ⟨OS.flat (λ{_ _ _ _ _ _} k=>k),trivial⟩;simp only[gZ,gQ] at bi;refine AU ?_;obtain⟨b6,bp,rfl,it⟩:=bi.oslen mh;refine DY (vs:=[(.slice b6 ck.length bp)]) (cs':=[.string p0_w.b.C,al,vI p0_w.b.H,am,an,ao,ap,aq,ar,au,vI p0_w.b.G,ag,ah,ai,aj,ak,vI p0_w.s.A,M,V,ab,ac,ae,(.slice b6 ck.length bp),(.slice ba (p0_w.moves++([(⟨p0_w.s.A,t,c.to_,c.way,w.1⟩:AX)]:List AX)).length a3),af,av]) O O O O ty_29.1 O bi (.tail .head) O O λiu dg fm=>AU ?_;refine BS (λaa ww hf hw=>?_);have dh:=dg.sel [1,1,1,1,1,1,0,1,1,1] 1 O;cases E;have di:=e5.trans ((SX.ext z.1 a5 a1).trans (az.trans (a2.trans ((SN.ext g.1 a8).trans (be.trans (bf.trans (fj.trans fm)))))));exact Hk hf O hw Hj O di ⟨_,_,_,_,O,dh⟩
 refine AU ?_;obtain⟨bg,dj,E⟩:=bd E;refine R8 (m:=[(6,bw),(5,q1),(0,vP d 0)]) 18 [0] (λi v q=>match i with|0=>v=vP d 0|1=>v=vP d 0|2=>v=vP d 0|3=>v=vP d 25|4=>v=av|5=>v=vP d 0|6=>v=vP d 0|7=>v=vP d 16|8=>v=vP d 16|9=>v=vI p0_w.s.A∧AA p0_w.s.A|10=>v=vI (BG (p0_w.s.A+1))∧AA (BG (p0_w.s.A+1))|11=>Pt (SN (SX S2 h3 ax ay) a6 bc) q AB v c.delay|12=>v=vI c.delay∧AA c.delay|13=>v=vI (BG ((BG (p0_w.s.A+1))+c.delay))∧AA (BG ((BG (p0_w.s.A+1))+c.delay))|14=>Pt (SN (SX S2 h3 ax ay) a6 bc) q AB v c.to_|15=>v=vI c.to_∧AA c.to_|16=>Sl (SN (SX S2 h3 ax ay) a6 bc) q AB v w.1|17=>Sl (SN (SN (SX S2 h3 ax ay) a6 bc) ci q) q A3 v bg|_=>False) [[],[],[(1,69)],[(2,70)],[(3,71)],[],[(5,73)],[(6,74)],[(7,75)],[(8,76)],[(9,77)],[],[(11,79)],[(10,78),(12,80)],[],[(14,82)],[],[(13,81),(15,83),(16,84)]] [(0,68),(4,72),(17,85)] mo (by kernel_rfl) [6,5,0] O (by kernel_rfl) (by kernel_rfl) (by kernel_rfl) (kp [6,5,0] O) (λi v h1 h2 o1 o2 u=>?_) ?_ ?_ ?_
 ·match i,u with
   |0,u|1,u|2,u|3,u|4,u|5,u|6,u|7,u|8,u|9,u|10,u|12,u|13,u|15,u=>exact u
   |11,u|14,u=>exact K4.mono u (o2.ext λb hb=>gJ (j.1 b hb) o1.siz)
   |16,u=>exact Sl.mono' u (o2.ext λb hb=>gJ (j.1 b hb) o1.siz)
   |17,u=>exact Sl.mono' u (SN.mono j.1 o1 o2)
   |_+18,u=>exact u.elim
 ·refine Pd.cons [] (by kernel_rfl) O O (by kernel_rfl) ?_ ?_
  ·intro mq q o;intro a hf;exact⟨vP d 0,ME hf O,O⟩
  exact trivial
 ·refine AW.cons O ?_ ?_
  ·intro mq q o;have n:=o.st j;refine AU ?_;exact AL (CF.refl _) O
  refine AW.cons O ?_ ?_
  ·intro mq q o;have n:=o.st j;refine AU ?_;exact AL (CF.refl _) O
  refine AW.cons O ?_ ?_
  ·intro mq q o;intro iv fn;have n:=o.st j;cases fn;refine AU ?_;exact AL (CF.refl _) O
  refine AW.cons O ?_ ?_
  ·intro mq q o;intro iw fo;have n:=o.st j;cases fo;refine AU ?_;exact AL (CF.refl _) O
  refine AW.cons O ?_ ?_
  ·intro mq q o;intro iy fp;have n:=o.st j;cases fp;refine AU ?_;exact AL (CF.refl _) O
  refine AW.cons O ?_ ?_
  ·intro mq q o;have n:=o.st j;refine AU ?_;exact AL (CF.refl _) O
  refine AW.cons O ?_ ?_
  ·intro mq q o;intro iz fq;have n:=o.st j;cases fq;refine AU ?_;exact AL (CF.refl _) O
  refine AW.cons O ?_ ?_
  ·intro mq q o;intro i0 fr;have n:=o.st j;cases fr;refine AU ?_;exact AL (CF.refl _) O
  refine AW.cons O ?_ ?_
  ·intro mq q o;intro i1 fs;have n:=o.st j;cases fs;refine AU ?_;exact AL (CF.refl _) O
  refine AW.cons O ?_ ?_
  ·intro mq q o;intro i2 ft;have n:=o.st j;cases ft;refine AU ?_;exact AL (CF.refl _) ⟨O,a4⟩
  refine AW.cons O ?_ ?_
  ·intro mq q o;intro i3 fu;have n:=o.st j;obtain⟨rfl,i4⟩:=fu;refine AU ?_;exact AL (CF.refl _) ⟨O,(BF _)⟩
  refine AW.cons O ?_ ?_
  ·intro mq q o;have n:=o.st j;have fv:=cj.mono (o.ext j.1);have fw:=fv.fl Lf;refine AU ?_;exact AL (CF.refl _) fw
  refine AW.cons O ?_ ?_
  ·intro mq q o;intro fx b7;have n:=o.st j;have b7:Pt _ _ AB fx c.delay:=b7;have fy:=b7.i;refine AU ?_;exact AL (CF.refl _) ⟨O,fy⟩
  refine AW.cons O ?_ ?_
  ·intro mq q o;intro i5 f0 i6 f1;have n:=o.st j;obtain⟨rfl,i7⟩:=f0;obtain⟨rfl,i8⟩:=f1;refine AU ?_;exact AL (CF.refl _) ⟨O,(BF _)⟩
  refine AW.cons O ?_ ?_
  ·intro mq q o;have n:=o.st j;have f2:=cj.mono (o.ext j.1);have f3:=f2.fl KY;refine AU ?_;exact AL (CF.refl _) f3
  refine AW.cons O ?_ ?_
  ·intro mq q o;intro f4 b8;have n:=o.st j;have b8:Pt _ _ AB f4 c.to_:=b8;have f5:=b8.i;refine AU ?_;exact AL (CF.refl _) ⟨O,f5⟩
  refine AW.cons O ?_ ?_
  ·intro mq q o;have n:=o.st j;refine AU ?_;have f6:=a7.mono' (az.trans (a2.trans ((SN.ext g.1 a8).trans (be.trans (bf.trans (o.ext j.1))))));exact AL (CF.refl _) f6
  refine AW.cons O ?_ ?_
  ·intro mq q o;intro i9 f7 ja f8 f9 bh;have n:=SN.st j o;obtain⟨rfl,ga⟩:=f7;obtain⟨rfl,gb⟩:=f8;have bh:=Sl.mono' (S':=(SN (SN (SX S2 h3 ax ay) a6 bc) ci q)) bh ⟨λb hb=> .inl hb,λ_ _=>rfl,gN _⟩;have bh:Sl _ _ AB f9 w.1:=bh;have bt:=n.fz;refine Cr O O O ZT O (QM bt ga gb bh dj) λjb jc jd gc p=>?_;have dk:=p;obtain⟨je,dl,gd,ge⟩:=dk.pubs .head;have b9:=Fz.done o (gc.trans gd) dl;exact AL b9.1 (Sl.mono' ge b9.2)
  exact trivial
 intro jf cl jg gf jh gg gh ca;have dm:=SN.st j cl;cases gf;cases gg;have ca:Sl _ _ A3 gh bg:=ca;obtain⟨dn,E⟩:=LA E;refine IJ (r:=A3) (l:=p0_w.sent) (xs:=bg) O O Pk O (Sl.src ca) O dn O dm (λ_=>(.tail (.tail (.tail (.tail (.tail (.tail (.tail (.tail (.tail .head)))))))))) λji jj cb gi=>AU ?_;obtain⟨cc,bq,rfl,jk⟩:=cb.oslen (mt (mt (mt (mt (mt (mt (mt (mt (mt mh)))))))));refine DY (vs:=[(.slice cc (p0_w.sent++bg).length bq)]) (cs':=[.string p0_w.b.C,al,vI p0_w.b.H,am,an,ao,ap,aq,ar,au,vI p0_w.b.G,ag,ah,ai,aj,ak,vI p0_w.s.A,M,V,ab,ac,ae,aw,(.slice ba (p0_w.moves++([(⟨p0_w.s.A,t,c.to_,c.way,w.1⟩:AX)]:List AX)).length a3),af,(.slice cc (p0_w.sent++bg).length bq)]) O O O O ty_33.1 O cb .head O O λjl dp gj=>AU ?_;refine WF.nil (λaa ww hf hw=>?_);cases E;have dq:=e5.trans ((SX.ext z.1 a5 a1).trans (az.trans (a2.trans ((SN.ext g.1 a8).trans (be.trans (bf.trans ((SN.ext j.1 cl).trans (gi.trans gj))))))));exact Hk hf O hw Hj O dq ⟨_,_,_,_,O,dp⟩
end Go.Proofs.YtedgiljmffngoaaGreat
