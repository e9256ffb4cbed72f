import Derived.Test.YtedgiljmffngoaaGreatPInst
import Derived.Test.YtedgiljmffngoaaGreatPForms
import Derived.Test.YtedgiljmffngoaaGreatPSort5
import Derived.Test.YtedgiljmffngoaaGreatPWalk1
import Derived.Test.YtedgiljmffngoaaGreatPWalk2
import Derived.Test.YtedgiljmffngoaaGreatPWalk9
import Derived.Test.YtedgiljmffngoaaGreatPWalk10
namespace Go.Proofs.YtedgiljmffngoaaGreat
set_option linter.all false
open Go.RowKit
open Go.Proofs.Tryz
set_option maxRecDepth 10000
set_option maxHeartbeats 2000000
variable {N:Nat}{S:Nat→Prop}{L:List HP}{h:AS}
def OF (hs:St S L h) {i:Int}(o:IntKind.has .u64 i) {b:Int}(t:AA b) {c:Int}(u:AA c) {d:Int}(x:IntKind.has .u8 d) {r:(List Int)}(E:LX N i b c d=some r):
 B6 prog 226 #[.int .u64 i,vI b,vI c,.int .u8 d] S h (λv S' h'=>St S' (OS (A6.intk .u8) 5 v r::L) h'):=by
 refine A7 35 func226 O ntmps226 O λB=>?_;rw[LX] at E;refine AU ?_;obtain⟨C,E⟩:=KM E;refine J2 (r:=(A6.intk .u8)) (zx:=0) O7 O ⟨O,⟨by decide,by decide⟩⟩ O O C O O hs λv2 W X e5=>AU ?_;refine AN (λa w=>∃(Y:Value) (A:List Int),IV B S W (35,[]) a w [(1,vI b),(2,vI c),(9,Y)] (OS (A6.intk .u8) 5 Y A::L) λ_ _=>Jl N b c A=some r) ?_ ?_
 ·refine AY (λn1=>λa w=>∃(g:Int) (q:Value) (k:List Int),IV B S W (35,[]) a w [(1,vI b),(2,vI c),(3,.int .u8 d),(0,.int .u64 g),(9,q)] (OS (A6.intk .u8) 5 q k::L) λ_ _=>IntKind.has .u64 g∧Ih N d (Jl N b c) n1 g k=some r) N ?_ ?_ ?_
  ·intro y z m n;exact⟨i,v2,(List.replicate (0:Int).toNat (0:Int)),_,_,m.sub (kp [1,2,3,0,9] O),n,X,(CG.refl S W),o,E⟩
  ·rintro y z ⟨_,_,_,_,_,_,_,_,_,_,E⟩;rw[Ih] at E;cases E
  rintro n1 y z ⟨g,q,k,af,ag,m,n,s,Z,ab,E⟩;refine AK ?_ m n;clear m n z y;rw[Ih] at E;refine AU ?_;refine AG O E (λac E=>?_) (λac E=>?_)
  ·refine AU ?_;refine A3 (AU ?_);refine Dv O If Wp O (AU ?_);refine Yj O O O (AU ?_);refine Ez (cs:=[.int .u8 (FJ .xor .u8 (IntKind.wrap .u8 g) d)]) O7 O O O O O O O s λah ai D aj=>?_;obtain⟨F,E⟩:=KM E;refine Jw (r:=(A6.intk .u8)) (l:=k) (xs:=([(FJ .xor .u8 (IntKind.wrap .u8 g) d)]:List Int)) O O O7 O mh ⟨_,_,O,⟨O,(Ct _ _)⟩,O⟩ O O F O D (λ_=>(.tail .head)) λad ak G al=>?_;have H:=G.drop .head;refine AU ?_;refine BE (AU ?_);refine JU (j:=8) O O O O (AU ?_);refine WF.nil (λy z m n=>?_);exact⟨(EJ .u64 g 8),ad,(k++([(FJ .xor .u8 (IntKind.wrap .u8 g) d)]:List Int)),_,_,m.sub (kp [1,2,3,0,9] O),n,H,EX,(Qt _ ab _),E⟩
  refine A8 O (λy z m n=>?_);exact⟨q,k,_,_,m.sub (kp [1,2,9] O),n,s,Z,E⟩
 rintro y z ⟨Y,A,am,an,m,n,I,ao,E⟩;refine AK ?_ m n;clear m n z y;rw[Jl] at E;refine AU ?_;refine Dv O MC Wp O (AU ?_);refine Ez (cs:=[.int .u8 (IntKind.wrap .u8 (A9 (b+(A9 (c*(↑A.length:Int))))))]) O7 O O O O O O O I λap aq J ar=>?_;obtain⟨K,E⟩:=KM E;refine Jw (r:=(A6.intk .u8)) (l:=A) (xs:=([(IntKind.wrap .u8 (A9 (b+(A9 (c*(↑A.length:Int))))))]:List Int)) O O O7 O mh ⟨_,_,O,⟨O,(Ct _ _)⟩,O⟩ O O K O J (λ_=>(.tail .head)) λau av M aw=>?_;have Q:=M.drop .head;refine AU ?_;refine B1 (AU ?_);refine BQ E O O O pT O (λae U=>Lx Q U) λae E ax ay az a0 p=>?_;obtain⟨rfl,V⟩:=p;refine AU ?_;cases E;exact KG V O O EX
def HC (l:St S L h) {a:Int}(m:AA a) {r:ByteArray}(E:HW N a=some r):
 B6 prog 172 #[vI a] S h (λv S' h'=>v= .string r∧r.size≤maxLen∧St S' (L) h'):=by
 refine A7 15 func172 O ntmps172 O λB=>?_;rw[HW] at E;refine AU ?_;refine AG O E (λw E=>?_) (λw E=>?_)
 ·refine AU ?_;refine B1 (AU ?_);refine Dv O MC If O (AU ?_);refine Cf E O O O eJ O l (λy o=>OF (St.all _) (Ct _ _) (iq (n:=128) O) (iq (n:=1) O) (show IntKind.has .u8 0 by first|assumption|exact⟨by decide,by decide⟩) o) λy E M Q U z V A p=>?_;have q:=p;have b:=l.join A q ⟨OS.flat (λ{_ _ _ _ _ _} k=>k),trivial⟩;simp only[Aa4,Aav] at b;refine AU ?_;obtain⟨C,c,E⟩:=bd E;have D:=bT c;exact fU K9 (λ_ x=>x) O (b.oslAll mh) aJ tN MU c O (RT)
 refine AU ?_;refine B1 (AU ?_);refine Yl O O (Dv O MC If O (AU ?_));refine Cf E O O O eJ O l (λs i=>OF (St.all _) (Ct _ _) (iq (n:=127) O) (iq (n:=(-1)) O) (show IntKind.has .u8 255 by first|assumption|exact⟨by decide,by decide⟩) i) λs E F G H u I t p=>?_;have j:=p;have d:=l.join t j ⟨OS.flat (λ{_ _ _ _ _ _} k=>k),trivial⟩;simp only[Aa4,Aav] at d;refine AU ?_;obtain⟨J,g,E⟩:=bd E;have K:=bT g;exact fU K9 (λ_ x=>x) O (d.oslAll mh) aJ tN MU g O (RT)
def NR (hs:St S L h) {b:Value}{c:(List Int)}(k:Sl S h AB b c) {r:ByteArray}(E:JQ N c=some r):
 B6 prog 227 #[b,.func (.func 172) #[] #[]] S h (λv S' h'=>v= .string r∧r.size≤maxLen∧St S' (L) h'):=by
 refine A7 (l:=[b,.func (.func 172) #[] #[]]) 22 func227 O ntmps227 O λB=>?_;rw[JQ] at E;refine AU ?_;refine fZ Zv 5 O hs λJ K M e4=>?_;have k5:=k.mono' e4;refine AU ?_;refine AN (λa w=>∃(Q:ByteArray),IV B S K (22,[]) a w [(5,vP J 0)] (Vc J 269 5 Q::L) λ_ _=>HE N Q=some r) ?_ ?_
 ·refine AY (λn1=>λa w=>∃(d:Int) (m:ByteArray),IV B S K (22,[]) a w [(9,vI (↑c.length:Int)),(8,b),(5,vP J 0),(1,.func (.func 172) #[] #[]),(10,vI d)] (Vc J 269 5 m::L) λ_ _=>AA d∧Fh N c (HE N) n1 d m=some r) N ?_ ?_ ?_
  ·intro q s g j;exact⟨0,ByteArray.empty,_,_,g.sub (kp [9,8,5,1,10] O),j,M,(CG.refl S K),(iq (n:=0) O),E⟩
  ·rintro q s ⟨_,_,_,_,_,_,_,_,_,E⟩;rw[Fh] at E;cases E
  rintro n1 q s ⟨d,m,ag,ah,g,j,o,t,ai,E⟩;refine AK ?_ g j;clear g j s q;rw[Fh] at E;refine AU ?_;refine AG O E (λU E=>?_) (λU E=>?_)
  ·refine AU ?_;refine A3 (AU ?_);have V:=k5.mono' t;refine A4 E O O V Ce.1 O λaj E ak W=>?_;have X:=W.i;refine AU ?_;refine B1 ?_;refine BQ E O O O eB O (λY u=>eU o (show IntKind.has .u8 1 by first|assumption|exact⟨by decide,by decide⟩) u) λY E al am an ao p=>?_;obtain⟨rfl,x⟩:=p;refine AU ?_;refine B1 (AU ?_);refine Cf E O O O NK O x (λZ y=>HC (St.all _) X y) λZ E ap aq ar z au av p=>?_;obtain⟨rfl,ab,ae⟩:=p;refine BQ E O O O Kb O (λA C=>Kc z ab C) λA E aw ax ay az p=>?_;obtain⟨rfl,D⟩:=p;refine AU ?_;refine BE (AU ?_);refine WF.nil (λq s g j=>?_);exact⟨(A9 (d+1)),A,_,_,g.sub (kp [9,8,5,1,10] O),j,D,EX,(BF _),E⟩
  refine A8 O (λq s g j=>?_);exact⟨m,_,_,g.sub (kp [5] O),j,o,t,E⟩
 rintro q s ⟨Q,a0,a1,g,j,F,a2,E⟩;refine AK ?_ g j;clear g j s q;rw[HE] at E;refine AU ?_;refine B1 ?_;refine BQ E O O O eB O (λac G=>eU F (show IntKind.has .u8 0 by first|assumption|exact⟨by decide,by decide⟩) G) λac E a3 a4 a5 a6 p=>?_;obtain⟨rfl,H⟩:=p;refine AU ?_;refine B1 ?_;refine BQ E O O O eO O (λad I=>YR H I) λad E a7 a8 a9 ba p=>?_;obtain⟨rfl,bb,af⟩:=p;exact RT
def J3 (g:St S L h) {a:Value}{c:(List Int)}(b:Sl S h AB a c) {r:ByteArray}(E:JZ N c=some r):
 B6 prog 173 #[a] S h (λv S' h'=>v= .string r∧r.size≤maxLen∧St S' (L) h'):=by
 refine A7 5 func173 O ntmps173 O λB=>?_;rw[JZ] at E;refine AU ?_;refine BY (.inl O) g (AU ?_);refine B4 E O O O qH O (λi d h' o=>NR (St.all h') (b.mono' (o.all g.1)) d) λi E j=>?_;have l:=j;refine AU ?_;exact BG (kp [2] O) λm k n=>RT
def P0 (hs:St S L h) {y:Value}{b:AF}(ah:Rd S h BA y b) {r:ByteArray}(E:NC N b=some r):
 B6 prog 97 #[y] S h (λv S' h'=>v= .string r∧r.size≤maxLen∧St S' (L) h'):=by
 refine A7 101 func97 O ntmps97 O λB=>?_;rw[NC] at E;refine AU ?_;refine Bz O ah CE O hs λq1 S2 h3 e4 e5 k6=>AU ?_;refine fZ Zv 5 O e4 λs h8 e6 e7=>AU ?_;refine B1 ?_;have cj:=k6.mono e7;have e8:=cj.fl AF.f_Hour;have e9:=e8.i;refine AU ?_;refine Cf E O O O NK O e6 (λfa ck=>HC (St.all _) e9 ck) λfa E j7 j8 j9 cl ka kb p=>?_;obtain⟨rfl,fb,f7⟩:=p;refine BQ E O O O Kb O (λfc cm=>Kc cl fb cm) λfc E kc kd ke kf p=>?_;obtain⟨rfl,cn⟩:=p;refine AU ?_;refine B1 ?_;have co:=cj.nw;have fd:=co.fl FL;obtain⟨kg,_,fe⟩:=fd.ll;have ff:=fe.le;refine AU ?_;refine Cf E O O O NK O cn (λfg cp=>HC (St.all _) (KU ff) cp) λfg E kh ki kj cq kk kl p=>?_;obtain⟨rfl,fh,f8⟩:=p;refine BQ E O O O Kb O (λcr cs=>Kc cq fh cs) λcr E km ax ay kn p=>?_;obtain⟨rfl,ct⟩:=p;have cu:=co.nw;have fi:=cu.fl FL;obtain⟨fj,_,fk⟩:=fi.ll;refine AU ?_;refine AN (λa w=>∃(az:ByteArray),IV B ax ay (101,[]) a w [(3,vP s 0),(1,q1)] (Vc s 269 5 az::L) λ_ _=>Ks N b az=some r) ?_ ?_
 ·refine AY (λn1=>λa w=>∃(F:Int) (ai:ByteArray),IV B ax ay (101,[]) a w [(22,vI (↑b.E.length:Int)),(21,fj),(3,vP s 0),(1,q1),(23,vI F)] (Vc s 269 5 ai::L) λ_ _=>AA F∧Jb N b (Ks N b) n1 F ai=some r) N ?_ ?_ ?_
  ·intro j k c d;exact⟨0,cr,_,_,c.sub (kp [22,21,3,1,23] O),d,ct,(CG.refl ax ay),(iq (n:=0) O),E⟩
  ·rintro j k ⟨_,_,_,_,_,_,_,_,_,E⟩;rw[Jb] at E;cases E
  rintro n1 j k ⟨F,ai,ko,kr,c,d,z,cv,ks,E⟩;refine AK ?_ c d;clear c d k j;rw[Jb] at E;refine AU ?_;refine AG O E (λfm E=>?_) (λfm E=>?_)
  ·refine AU ?_;refine A3 (AU ?_);have fn:=fk.mono' cv;refine A4 E O O fn IP.1 O λkt E ku fo=>?_;obtain⟨kv,_,fp⟩:=fo.ll;refine AU ?_;refine B1 (AU ?_);refine Cf E O O O TS O z (λfq cw=>J3 (St.all _) (fp.mono z.ea.1 z.ea.2) cw) λfq E kw kx ky cx kz k0 p=>?_;obtain⟨rfl,fr,f9⟩:=p;refine BQ E O O O Kb O (λcy cz=>Kc cx fr cz) λcy E k1 k2 k3 k4 p=>?_;obtain⟨rfl,c0⟩:=p;refine AU ?_;refine BE (AU ?_);refine WF.nil (λj k c d=>?_);exact⟨(A9 (F+1)),cy,_,_,c.sub (kp [22,21,3,1,23] O),d,c0,EX,(BF _),E⟩
  refine A8 O (λj k c d=>?_);exact⟨ai,_,_,c.sub (kp [3,1] O),d,z,cv,E⟩
 rintro j k ⟨az,k5,k7,c,d,G,fs,E⟩;refine AK ?_ c d;clear c d k j;rw[Ks] at E;refine AU ?_;refine B1 ?_;have c1:=cu.mono fs;have ft:=c1.fl Jx;obtain⟨k8,_,fu⟩:=ft.ll;refine AU ?_;refine Cf E O O O TS O G (λc2 a0=>J3 (St.all _) (fu.mono G.ea.1 G.ea.2) a0) λc2 E ga gb gc a1 gd ge p=>?_;obtain⟨rfl,c3,fv⟩:=p;refine BQ E O O O Kb O (λc4 a2=>Kc a1 c3 a2) λc4 E gf gg gh gi p=>?_;obtain⟨rfl,a3⟩:=p;refine AU ?_;refine B1 ?_;have aj:=c1.nw;have c5:=aj.fl Fs;obtain⟨gj,_,c6⟩:=c5.ll;have c7:=c6.le;refine AU ?_;refine Cf E O O O NK O a3 (λc8 a4=>HC (St.all _) (KU c7) a4) λc8 E gl gm gn a5 gp gq p=>?_;obtain⟨rfl,c9,fw⟩:=p;refine BQ E O O O Kb O (λak a6=>Kc a5 c9 a6) λak E gr I J gs p=>?_;obtain⟨rfl,a7⟩:=p;have am:=aj.nw;have da:=am.fl Fs;obtain⟨db,_,dc⟩:=da.ll;refine AU ?_;refine AN (λa w=>∃(K:ByteArray),IV B I J (101,[]) a w [(3,vP s 0),(1,q1)] (Vc s 269 5 K::L) λ_ _=>Kr N b K=some r) ?_ ?_
 ·refine AY (λn3=>λa w=>∃(q:Int) (A:ByteArray),IV B I J (101,[]) a w [(42,vI (↑b.H.length:Int)),(41,db),(3,vP s 0),(1,q1),(43,vI q)] (Vc s 269 5 A::L) λ_ _=>AA q∧Ja N b (Kr N b) n3 q A=some r) N ?_ ?_ ?_
  ·intro j k c d;exact⟨0,ak,_,_,c.sub (kp [42,41,3,1,43] O),d,a7,(CG.refl I J),(iq (n:=0) O),E⟩
  ·rintro j k ⟨_,_,_,_,_,_,_,_,_,E⟩;rw[Ja] at E;cases E
  rintro n3 j k ⟨q,A,gt,gu,c,d,M,an,gv,E⟩;refine AK ?_ c d;clear c d k j;rw[Ja] at E;refine AU ?_;refine AG O E (λdd E=>?_) (λdd E=>?_)
  ·refine AU ?_;refine A3 (AU ?_);have de:=dc.mono' an;refine A4 E O O de LA.1 O λgw E gx df=>?_;obtain⟨gy,_,dg⟩:=df.lv;refine AU ?_;refine CP Nq O M λgz g0 a8 dh=>?_;have di:=dg.mono dh;obtain⟨g1,rfl,dj,dk,dl⟩:=AZ.ex di;refine DU O O O ON Ns.1 O a8 .head O λg2 a9 g3=>AU ?_;refine B1 (AU ?_);refine Cf E O O O NK O a9 (λdm ba=>HC (St.all _) dj ba) λdm E g4 g5 g6 bb g7 g8 p=>?_;obtain⟨rfl,dn,fx⟩:=p;have bc:=bb.pick (.tail .head);refine BQ E O O O Kb O (λdp be=>Kc bc dn be) λdp E g9 ha hb hc p=>?_;obtain⟨rfl,bf⟩:=p;refine AU ?_;refine B1 (AU ?_);refine Cf E O O O NK O bf (λdq bg=>HC (St.all _) dk bg) λdq E hd he hg bh hh hi p=>?_;obtain⟨rfl,dr,fy⟩:=p;refine BQ E O O O Kb O (λds bi=>Kc bh dr bi) λds E hj hk hl hm p=>?_;obtain⟨rfl,t⟩:=p;refine AU ?_;refine B1 (AU ?_);have dt:=dl.nw;refine Cf E O O O TS O t (λdu bj=>J3 (St.all _) (dt.mono t.ea.1 t.ea.2) bj) λdu E hn ho hp bk hq hr p=>?_;obtain⟨rfl,dv,fz⟩:=p;refine BQ E O O O Kb O (λao bl=>Kc bk dv bl) λao E ht hu hv hx p=>?_;obtain⟨rfl,bm⟩:=p;refine AU ?_;refine BE (AU ?_);refine WF.nil (λj k c d=>?_);have bn:=bm.drop (.tail .head);exact⟨(A9 (q+1)),ao,_,_,c.sub (kp [42,41,3,1,43] O),d,bn,EX,(BF _),E⟩
  refine A8 O (λj k c d=>?_);exact⟨A,_,_,c.sub (kp [3,1] O),d,M,an,E⟩
 rintro j k ⟨K,hy,hz,c,d,bo,dw,E⟩;refine AK ?_ c d;clear c d k j;rw[Kr] at E;refine AU ?_;refine B1 ?_;have ap:=am.mono dw;have dx:=ap.fl Ix;obtain⟨h0,_,dy⟩:=dx.ll;have dz:=dy.le;refine AU ?_;refine Cf E O O O NK O bo (λd0 bp=>HC (St.all _) (KU dz) bp) λd0 E h1 h2 h4 bq h5 h6 p=>?_;obtain⟨rfl,d1,f0⟩:=p;refine BQ E O O O Kb O (λaq br=>Kc bq d1 br) λaq E h7 Q U h9 p=>?_;obtain⟨rfl,bs⟩:=p;have ar:=ap.nw;have d2:=ar.fl Ix;obtain⟨W,_,d3⟩:=d2.ll;refine AU ?_;refine AN (λa w=>∃(Y:ByteArray),IV B Q U (101,[]) a w [(3,vP s 0),(1,q1)] (Vc s 269 5 Y::L) λ_ _=>Il N b Y=some r) ?_ ?_
 ·refine AY (λn5=>λa w=>∃(l:Int) (m:ByteArray),IV B Q U (101,[]) a w [(67,vI (↑b.O.length:Int)),(66,W),(3,vP s 0),(1,q1),(68,vI l)] (Vc s 269 5 m::L) λ_ _=>AA l∧HM N b (Il N b) n5 l m=some r) N ?_ ?_ ?_
  ·intro j k c d;exact⟨0,aq,_,_,c.sub (kp [67,66,3,1,68] O),d,bs,(CG.refl Q U),(iq (n:=0) O),E⟩
  ·rintro j k ⟨_,_,_,_,_,_,_,_,_,E⟩;rw[HM] at E;cases E
  rintro n5 j k ⟨l,m,Z,ia,c,d,ab,au,ib,E⟩;refine AK ?_ c d;clear c d k j;rw[HM] at E;refine AU ?_;refine AG O E (λd4 E=>?_) (λd4 E=>?_)
  ·refine AU ?_;refine A3 (AU ?_);have d5:=d3.mono' au;refine A4 E O O d5 NV.1 O λg E ic d6=>?_;obtain⟨id,_,d7⟩:=d6.lv;refine AU ?_;refine CP P7 O ab λC ie bt d8=>?_;have d9:=d7.mono d8;obtain⟨rfl,⟨eb,ec⟩⟩:=BJ.ex d9;refine C0 O O O O Hh.1 O bt .head O λac ad ig=>AU ?_;refine Gx (λa w=>∃(o:Int),IV B Z ac (101,[]) a w [(9,vP C 0),(67,vI (↑b.O.length:Int)),(66,W),(3,vP s 0),(1,q1),(68,vI l),(10,vI o)] (Bx C 106 [vI g.V,vI g.X,.bool g.Au,.bool g.Am]::Vc s 269 5 m::L) λ_ _=>AA o∧Kq N l m g (HM N b (Il N b) n5) o=some r) ?_ ?_
   ·refine AG O E (λed E=>?_) (λed E=>?_)
    ·refine AU ?_;refine WF.nil (λj k c d=>?_);exact⟨(A9 (0+1)),_,_,c.sub (kp [9,67,66,3,1,68,10] O),d,ad,(CG.refl Z ac),(BF _),E⟩
    refine AU ?_;refine WF.nil (λj k c d=>?_);exact⟨0,_,_,c.sub (kp [9,67,66,3,1,68,10] O),d,ad,(CG.refl Z ac),(iq (n:=0) O),E⟩
   rintro j k ⟨o,ae,af,c,d,ag,ih,ee,E⟩;refine AK ?_ c d;clear c d k j;rw[Kq] at E;refine AU ?_;refine Gx (λa w=>∃(D:Int),IV B ae af (101,[]) a w [(9,vP C 0),(67,vI (↑b.O.length:Int)),(66,W),(3,vP s 0),(1,q1),(68,vI l),(10,vI D)] (Bx C 106 [vI g.V,vI g.X,.bool g.Au,.bool g.Am]::Vc s 269 5 m::L) λ_ _=>AA D∧Kp N l m g (HM N b (Il N b) n5) D=some r) ?_ ?_
   ·refine AG O E (λef E=>?_) (λef E=>?_)
    ·refine AU ?_;refine WF.nil (λj k c d=>?_);exact⟨(A9 (o+2)),_,_,c.sub (kp [9,67,66,3,1,68,10] O),d,ag,(CG.refl ae af),(BF _),E⟩
    refine AU ?_;refine WF.nil (λj k c d=>?_);exact⟨o,_,_,c.sub (kp [9,67,66,3,1,68,10] O),d,ag,(CG.refl ae af),ee,E⟩
   rintro j k ⟨D,ii,ij,c,d,bu,ik,eg,E⟩;refine AK ?_ c d;clear c d k j;rw[Kp] at E;refine AU ?_;refine B1 (AU ?_);refine Cf E O O O NK O bu (λeh bv=>HC (St.all _) eb bv) λeh E il im io bw ip ir p=>?_;obtain⟨rfl,ei,f1⟩:=p;have bx:=bw.pick (.tail .head);refine BQ E O O O Kb O (λej bz=>Kc bx ei bz) λej E it iu iv iw p=>?_;obtain⟨rfl,b0⟩:=p;refine AU ?_;refine B1 (AU ?_);refine Cf E O O O NK O b0 (λek b1=>HC (St.all _) ec b1) λek E iy iz i0 b2 i1 i2 p=>?_;obtain⟨rfl,el,f2⟩:=p;refine BQ E O O O Kb O (λem b3=>Kc b2 el b3) λem E i3 i4 i5 i6 p=>?_;obtain⟨rfl,b4⟩:=p;refine AU ?_;refine B1 (AU ?_);refine Cf E O O O NK O b4 (λen b5=>HC (St.all _) eg b5) λen E i7 i8 i9 b6 ja jb p=>?_;obtain⟨rfl,eo,f3⟩:=p;refine BQ E O O O Kb O (λav b8=>Kc b6 eo b8) λav E jc jd je jf p=>?_;obtain⟨rfl,b9⟩:=p;refine AU ?_;refine BE (AU ?_);refine WF.nil (λj k c d=>?_);have ca:=b9.drop (.tail .head);exact⟨(A9 (l+1)),av,_,_,c.sub (kp [67,66,3,1,68] O),d,ca,EX,(BF _),E⟩
  refine A8 O (λj k c d=>?_);exact⟨m,_,_,c.sub (kp [3,1] O),d,ab,au,E⟩
 rintro j k ⟨Y,jg,jh,c,d,u,ep,E⟩;refine AK ?_ c d;clear c d k j;rw[Il] at E;refine AU ?_;refine B1 ?_;have aw:=ar.mono ep;have eq:=aw.fl I1;obtain⟨ji,_,er⟩:=eq.ll;refine AU ?_;refine Cf E O O O TS O u (λes cb=>J3 (St.all _) (er.mono u.ea.1 u.ea.2) cb) λes E jj jk jl cc jm jn p=>?_;obtain⟨rfl,eu,f4⟩:=p;refine BQ E O O O Kb O (λev cd=>Kc cc eu cd) λev E jo jp jq jr p=>?_;obtain⟨rfl,x⟩:=p;refine AU ?_;refine B1 ?_;have ew:=aw.nw;have ey:=ew.fl HI;obtain⟨js,_,ez⟩:=ey.ll;refine AU ?_;refine Cf E O O O TS O x (λe0 ce=>J3 (St.all _) (ez.mono x.ea.1 x.ea.2) ce) λe0 E jt ju jv cf jw jx p=>?_;obtain⟨rfl,e1,f5⟩:=p;refine BQ E O O O Kb O (λe2 cg=>Kc cf e1 cg) λe2 E jy jz j0 j1 p=>?_;obtain⟨rfl,ch⟩:=p;refine AU ?_;refine B1 ?_;refine BQ E O O O eO O (λe3 ci=>YR ch ci) λe3 E j2 j3 j4 j5 p=>?_;obtain⟨rfl,j6,f6⟩:=p;exact RT
def Qj (hs:St S L h) {c:Value}{t:AE}(m:Rd S h By c t) {g:ByteArray}(q:g.size≤maxLen) {r:AF×Bool}(E:N3 N t g=some r):
 B6 prog 96 #[c,.string g] S h (λv S' h'=>∃C:Value,v= .tuple #[C,.bool r.2]∧Rd S' h' BA C r.1∧St S' (L) h'):=by
 refine A7 30 func96 O ntmps96 O λB=>?_;rw[N3] at E;refine AU ?_;refine Bz O m CE O hs λq1 S2 h3 ad e5 k6=>CP M2 O ad λb7 h8 ae ap=>AU ?_;refine B1 (AU ?_);refine BQ E O O O rC O (λD F=>Y4 ae q F) λD E aq ar au av p=>?_;obtain⟨aw,rfl,af,G⟩:=p;refine BQ E O O O rD O (λH I=>Um (p0_r:=D) G af I) λH E ax ay az a0 p=>?_;obtain⟨a1,rfl,ag,a2,J⟩:=p;refine AU ?_;refine CP M2 O J λa3 a4 K ah=>?_;have s:=ag.mono ah;obtain⟨a5,a6,a7,a8,a9,ba,rfl,bb,bc,be,bf,bg,bh,bi⟩:=BA.ex s;refine DU O O O ON ID.1 O K .head O λbj d M=>AU ?_;refine BY (.inl O) d (AU ?_);obtain⟨Q,a,E⟩:=bd E;refine AW 5 21 (.bool Q) ?_ ?_
 ·cases U:(!H.2.1)
  ·have a:=Gw U a;have ai:=k6.nw;obtain⟨bk,_,aj⟩:=ai.lv;refine AU ?_;have i:=s.mono M;obtain⟨bl,V,a⟩:=bd a;refine K3 O O O mJ O (λh' o=>Ok (St.all h') (aj.mono (o.all d.1)) (i.mono (o.all d.1)) V) (AU ?_);cases a;exact AX O
  have a:=Gv U a;cases a;exact BD O O
 refine AU ?_;obtain⟨ak,b,E⟩:=bd E;refine AW 5 27 (.bool ak) ?_ ?_
 ·cases W:Q
  ·have b:=Gw W b;refine AU ?_;have j:=s.mono M;obtain⟨bm,X,b⟩:=bd b;refine PN O O O mF O (λh' o=>P0 (St.all h') (j.mono (o.all d.1)) X) λam=>?_;have bn:=am;refine AU ?_;refine Wg O O O (AU ?_);cases b;exact AX O
  have b:=Gv W b;cases b;exact BD O O
 refine BG (kp [27,6,4] O) λbo u bp=>AG O E (λan E=>?_) (λan E=>?_)
 ·refine AU ?_;refine FV (cs:=[vI 0,vN,vN,vN,vN,vN,vN]) lM O O O (AU ?_);refine C0 O O O O ID.1 O u (.tail (.tail .head)) O λbq Y br=>AU ?_;refine B0 (λaa ww z Z=>?_);have w:=Y.sel [2] 2 O;have ab:=w.drop .head;cases E;exact JC z O Z (G4 (Uk z Z w O mh ID.1 O) (G4 (IC z (v:=_) O) JB)) O EX ⟨_,O,(BA.mk (x:=(⟨0,[],[],[],[],[],[]⟩:AF)) (iq (n:=0) O) (.inl ⟨O,O⟩) (.inl ⟨O,O⟩) (.inl ⟨O,O⟩) (.inl ⟨O,O⟩) (.inl ⟨O,O⟩) (.inl ⟨O,O⟩)),ab⟩
 refine AU ?_;have k:=s.nw;refine DU O O O ON ID.1 O u (.tail (.tail .head)) O λbs ac ao=>AU ?_;refine B0 (λaa ww z Z=>?_);have y:=ac.sel [2] 2 O;have l:=k.mono ao;have A:=y.drop .head;cases E;exact JC z O Z (G4 (Uk z Z y O mh ID.1 O) (G4 (IC z (v:=_) O) JB)) O EX ⟨_,O,l,A⟩
def JF (i:St S L h) {a:Value}{d:AE}(c:Rd S h By a d) {b:Int}(g:AA b) {r:Bool}(E:Hk N d b=some r):
 B6 prog 113 #[a,vI b] S h (λv S' h'=>v= .bool r∧St S' (L) h'):=by
 refine A7 14 func113 O ntmps113 O λB=>?_;rw[Hk] at E;refine AU ?_;exact Bz O c CE O i λk S2 l j m n=>RT
def Ot (hs:St S L h) {A:Value}{q:AE}(K:Rd S h By A q) {d:Value}{c:(List AI)}(s:Sl S h BO d c) {b:Int}(M:AA b) {r:Int×Int}(E:Jn N q c b=some r):
 B6 prog 38 #[A,d,vI b] S h (λv S' h'=>v= .tuple #[vI r.1,vI r.2]∧AA r.1∧AA r.2∧St S' (L) h'):=by
 refine A7 88 func38 O ntmps38 O λB=>?_;rw[Jn] at E;refine AU ?_;refine Bz O K CE O hs λq1 S2 h3 bl e5 k6=>?_;have k7:=s.mono' e5;refine AU ?_;refine AN (λa w=>∃(i9:Int) (Q:Int),IV B S2 h3 (88,[]) a w [(8,vI i9),(9,vI Q)] (L) λ_ _=>AA i9∧AA Q∧E0 N i9 Q=some r) ?_ ?_
 ·refine AY (λn1=>λa w=>∃(x:Int) (m:Int) (p:Int),IV B S2 h3 (88,[]) a w [(15,vI (↑c.length:Int)),(14,d),(3,q1),(2,vI b),(8,vI x),(9,vI m),(16,vI p)] (L) λ_ _=>AA x∧AA m∧AA p∧DE N q c b (E0 N) n1 x m p=some r) N ?_ ?_ ?_
  ·intro t u g i;exact⟨0,0,0,_,_,g.sub (kp [15,14,3,2,8,9,16] O),i,bl,(CG.refl S2 h3),(iq (n:=0) O),(iq (n:=0) O),(iq (n:=0) O),E⟩
  ·rintro t u ⟨_,_,_,_,_,_,_,_,_,_,_,_,E⟩;rw[DE] at E;cases E
  rintro n1 t u ⟨x,m,p,ab,bm,g,i,W,ap,U,V,co,E⟩;refine AK ?_ g i;clear g i u t;rw[DE] at E;refine AU ?_;refine AG O E (λbn E=>?_) (λbn E=>?_)
  ·refine AU ?_;refine AN (λa w=>∃(H:Int) (I:Int),IV B ab bm (88,[]) a w [(15,vI (↑c.length:Int)),(14,d),(3,q1),(2,vI b),(16,vI p),(8,vI H),(9,vI I)] (L) λ_ _=>AA H∧AA I∧F7 N p (DE N q c b (E0 N) n1) H I=some r) ?_ ?_
   ·refine AU ?_;have bo:=k7.mono' ap;refine A4 E O O bo UA.1 O λy E cp bp=>?_;obtain⟨cq,_,bq⟩:=bp.lv;refine AU ?_;refine CP Ve O W λaq cr ar br=>?_;have bs:=bq.mono br;obtain⟨bt,rfl,cs,bu,bv,ct,au⟩:=BO.ex bs;refine DU O O O ON T6.1 O ar .head O λcu J cv=>AU ?_;refine BY (.inl O) J ?_;have ac:=k6.nw;obtain⟨cw,_,bw⟩:=ac.lv;refine AU ?_;refine A5 E O O O TU O (λav aw h' o=>JF (St.all h') (bw.mono (o.all J.1)) bu aw) λav E=>AU ?_;obtain⟨bx,j,E⟩:=bd E;refine AW 11 36 (.bool bx) ?_ ?_
    ·cases ax:(!av)
     ·have j:=Gw ax j;refine AU ?_;obtain⟨bz,k,j⟩:=bd j;refine AW 6 35 (.bool bz) ?_ ?_
      ·cases ay:(decide (y.B≠(-1)))
       ·have k:=Gw ay k;cases k;exact BD O O
       have k:=Gv ay k;obtain⟨cx,_,b0⟩:=ac.lv;refine AU ?_;refine A5 k O O O TU O (λb1 az h' o=>JF (St.all h') (b0.mono (o.all J.1)) bv az) λb1 k=>AU ?_;cases k;exact AX O
      refine AU ?_;cases j;exact AX O
     have j:=Gv ax j;cases j;exact BD O O
    refine BG (kp [36,11,15,14,3,2,8,9,16] O) λa0 F b2=>AG O E (λb3 E=>?_) (λb3 E=>?_)
    ·refine A8 O (λt u g i=>?_);have a1:=F.drop .head;exact⟨x,m,_,_,g.sub (kp [15,14,3,2,16,8,9] O),i,a1,EX,U,V,E⟩
    have a2:=ac.mono b2;have b4:=a2.fl BZ;obtain⟨cy,_,b5⟩:=b4.ll;refine AU ?_;refine A4 E O O b5 Kk.1 O λa3 E cz c0=>AU ?_;obtain⟨ad,l,E⟩:=bd E;refine AW 10 59 (.bool ad) ?_ ?_
    ·cases a4:(decide (y.B≠(-1)))
     ·have l:=Gw a4 l;cases l;exact BD O O
     have l:=Gv a4 l;have b6:=a2.fl BZ;obtain⟨c1,_,b7⟩:=b6.ll;refine AU ?_;refine A4 l O O b7 Kk.1 O λc2 l c3 c4=>AU ?_;cases l;exact AX O
    refine AU ?_;refine Gx (λa w=>∃(G:Int),IV B ab a0 (88,[]) a w [(13,.bool ad),(12,.bool (decide (a3.Ac=b))),(11,vP aq 0),(15,vI (↑c.length:Int)),(14,d),(3,q1),(2,vI b),(9,vI m),(16,vI p),(8,vI G)] (Bx aq 74 [vI y.C,vI y.D,vI y.B,vI y.Ap,bt]::L) λ_ _=>AA G∧IJ N b m y a3 ad (F7 N p (DE N q c b (E0 N) n1)) G=some r) ?_ ?_
    ·refine AG O E (λa5 E=>?_) (λa5 E=>?_)
     ·refine BY (.inl O) F (AU ?_);have a6:=au.nw;refine B4 E O O O L9 O (λa7 ae h' o=>C1 (St.all h') (a6.mono' (o.all F.1)) ae) λa7 E a8=>?_;have a9:=a8;refine B4 E O O O Q0 O (λX af h' o=>HH (St.all h') U a9 af) λX E ba=>?_;have bb:=ba;refine AU ?_;refine BG (kp [8,13,12,11,15,14,3,2,9,16] O) λcc ag bc=>WF.nil (λt u g i=>?_);exact⟨X,_,_,g.sub (kp [13,12,11,15,14,3,2,9,16,8] O),i,ag,bc,bb,E⟩
     refine AU ?_;refine WF.nil (λt u g i=>?_);exact⟨x,_,_,g.sub (kp [13,12,11,15,14,3,2,9,16,8] O),i,F,(CG.refl ab a0),U,E⟩
    rintro t u ⟨G,cd,ce,g,i,z,cf,Y,E⟩;refine AK ?_ g i;clear g i u t;rw[IJ] at E;refine AU ?_;refine AG O E (λbe E=>?_) (λbe E=>?_)
    ·refine BY (.inl O) z (AU ?_);have bf:=au.nw;refine B4 E O O O L9 O (λbg ah h' o=>C1 (St.all h') (bf.mono' (o.all z.1)) ah) λbg E bh=>?_;have bi:=bh;refine B4 E O O O Q0 O (λZ ai h' o=>HH (St.all h') V bi ai) λZ E bj=>?_;have bk:=bj;refine AU ?_;refine BG (kp [9,15,14,3,2,16,8] O) λcg aj ch=>WF.nil (λt u g i=>?_);have ak:=aj.drop .head;exact⟨G,Z,_,_,g.sub (kp [15,14,3,2,16,8,9] O),i,ak,EX,Y,bk,E⟩
    refine AU ?_;refine WF.nil (λt u g i=>?_);have am:=z.drop .head;exact⟨G,m,_,_,g.sub (kp [15,14,3,2,16,8,9] O),i,am,EX,Y,V,E⟩
   rintro t u ⟨H,I,ci,cj,g,i,an,ck,b8,b9,E⟩;refine AK ?_ g i;clear g i u t;rw[F7] at E;refine AU ?_;refine WF.nil (λt u g i=>?_);exact⟨H,I,(A9 (p+1)),_,_,g.sub (kp [15,14,3,2,8,9,16] O),i,an,EX,b8,b9,(BF _),E⟩
  refine A8 O (λt u g i=>?_);exact⟨x,m,_,_,g.sub (kp [8,9] O),i,W,ap,U,V,E⟩
 rintro t u ⟨i9,Q,cl,cm,g,i,ao,cn,ca,cb,E⟩;refine AK ?_ g i;clear g i u t;rw[E0] at E;refine AU ?_;refine B0 (λt u g i=>?_);cases E;exact JC g O i (G4 (IC g (v:=_) O) (G4 (IC g (v:=_) O) JB)) O EX ⟨O,ca,cb,ao⟩
end Go.Proofs.YtedgiljmffngoaaGreat
