import Derived.Test.YtedgiljmffngoaaGreatFFacts
import Derived.Test.YtedgiljmffngoaaGreatFForms
import Derived.Test.YtedgiljmffngoaaGreatFInst
import Derived.Test.YtedgiljmffngoaaGreatFSort5
import Derived.Test.YtedgiljmffngoaaGreatFWalk1
import Derived.Test.YtedgiljmffngoaaGreatFWalk2
import Derived.Test.YtedgiljmffngoaaGreatFWalk9
import Derived.Test.YtedgiljmffngoaaGreatFWalk10
namespace Go.Proofs.YtedgiljmffngoaaGreat
set_option linter.all false
open Go.RowKit
open Go.Proofs.Tryz
set_option maxRecDepth 10000
set_option maxHeartbeats 2000000
variable {N:Nat}{S:Nat→Prop}{L:List HP}{h:AT}
def Mv (hs:St S L h) {i:Int}(o:IntKind.has .u64 i) {b:Int}(t:AA b) {c:Int}(u:AA c) {d:Int}(x:IntKind.has .u8 d) {r:(List Int)}(E:KZ N i b c d=some r):
 B0 prog 226 #[.int .u64 i,vI b,vI c,.int .u8 d] S h (λv S' h'=>St S' (OS (BB.intk .u8) 5 v r::L) h'):=by
 refine BA 35 func226 O ntmps226 O λB=>?_;rw[KZ] at E;refine AU ?_;obtain⟨C,E⟩:=LA E;refine I7 (r:=(BB.intk .u8)) (zx:=0) NX O ⟨O,⟨by decide,by decide⟩⟩ O O C O O hs λv2 W X e5=>AU ?_;refine AK (λa w=>∃(Y:Value) (A:List Int),IV B S W (35,[]) a w [(1,vI b),(2,vI c),(9,Y)] (OS (BB.intk .u8) 5 Y A::L) λ_ _=>Ig N b c A=some r) ?_ ?_
 ·refine AY (λn1=>λa w=>∃(g:Int) (q:Value) (k:List Int),IV B S W (35,[]) a w [(1,vI b),(2,vI c),(3,.int .u8 d),(0,.int .u64 g),(9,q)] (OS (BB.intk .u8) 5 q k::L) λ_ _=>IntKind.has .u64 g∧HK N d (Ig N b c) n1 g k=some r) N ?_ ?_ ?_
  ·intro y z m n;exact⟨i,v2,(List.replicate (0:Int).toNat (0:Int)),_,_,m.sub (kp [1,2,3,0,9] O),n,X,(B6.refl S W),o,E⟩
  ·rintro y z ⟨_,_,_,_,_,_,_,_,_,_,E⟩;rw[HK] at E;cases E
  rintro n1 y z ⟨g,q,k,af,ag,m,n,s,Z,ab,E⟩;refine AI ?_ m n;clear m n z y;rw[HK] at E;refine AU ?_;refine AF O E (λac E=>?_) (λac E=>?_)
  ·refine AU ?_;refine AZ (AU ?_);refine Ca O Fi TK O (AU ?_);refine UU O O O (AU ?_);refine Df (cs:=[.int .u8 (EH .xor .u8 (IntKind.wrap .u8 g) d)]) NX O O O O O O O s λah ai D aj=>?_;obtain⟨F,E⟩:=LA E;refine JX (r:=(BB.intk .u8)) (l:=k) (xs:=([(EH .xor .u8 (IntKind.wrap .u8 g) d)]:List Int)) O O NX O mh ⟨_,_,O,⟨O,(CT _ _)⟩,O⟩ O O F O D (λ_=>(.tail .head)) λad ak G al=>?_;have H:=G.drop .head;refine AU ?_;refine BD (AU ?_);refine HH (j:=8) O O O O (AU ?_);refine WF.nil (λy z m n=>?_);exact⟨(Dn .u64 g 8),ad,(k++([(EH .xor .u8 (IntKind.wrap .u8 g) d)]:List Int)),_,_,m.sub (kp [1,2,3,0,9] O),n,H,EX,(O1 _ ab _),E⟩
  refine A8 O (λy z m n=>?_);exact⟨q,k,_,_,m.sub (kp [1,2,9] O),n,s,Z,E⟩
 rintro y z ⟨Y,A,am,an,m,n,I,ao,E⟩;refine AI ?_ m n;clear m n z y;rw[Ig] at E;refine AU ?_;refine Ca O Jp TK O (AU ?_);refine Df (cs:=[.int .u8 (IntKind.wrap .u8 (BG (b+(BG (c*(↑A.length:Int))))))]) NX O O O O O O O I λap aq J ar=>?_;obtain⟨K,E⟩:=LA E;refine JX (r:=(BB.intk .u8)) (l:=A) (xs:=([(IntKind.wrap .u8 (BG (b+(BG (c*(↑A.length:Int))))))]:List Int)) O O NX O mh ⟨_,_,O,⟨O,(CT _ _)⟩,O⟩ O O K O J (λ_=>(.tail .head)) λau av M aw=>?_;have Q:=M.drop .head;refine AU ?_;refine B5 (AU ?_);refine BR E O O O ZD O (λae U=>Ks Q U) λae E ax ay az a0 p=>?_;obtain⟨rfl,V⟩:=p;refine AU ?_;cases E;exact KN V O O EX
def E6 (l:St S L h) {a:Int}(m:AA a) {r:ByteArray}(E:Fj N a=some r):
 B0 prog 172 #[vI a] S h (λv S' h'=>v= .string r∧r.size≤maxLen∧St S' (L) h'):=by
 refine BA 15 func172 O ntmps172 O λB=>?_;rw[Fj] at E;refine AU ?_;refine AF O E (λw E=>?_) (λw E=>?_)
 ·refine AU ?_;refine B5 (AU ?_);refine Ca O Jp Fi O (AU ?_);refine CS E O O O V0 O l (λy o=>Mv (St.all _) (CT _ _) (iq (n:=128) O) (iq (n:=1) O) (show IntKind.has .u8 0 by first|assumption|exact⟨by decide,by decide⟩) o) λy E M Q U z V A p=>?_;have q:=p;have b:=l.join A q ⟨OS.flat (λ{_ _ _ _ _ _} k=>k),trivial⟩;simp only[gZ,gQ] at b;refine AU ?_;obtain⟨C,c,E⟩:=bd E;have D:=VT c;exact Wa FC (λ_ x=>x) O (b.oslAll mh) VM bE LG c O (RT)
 refine AU ?_;refine B5 (AU ?_);refine UW O O (Ca O Jp Fi O (AU ?_));refine CS E O O O V0 O l (λs i=>Mv (St.all _) (CT _ _) (iq (n:=127) O) (iq (n:=(-1)) O) (show IntKind.has .u8 255 by first|assumption|exact⟨by decide,by decide⟩) i) λs E F G H u I t p=>?_;have j:=p;have d:=l.join t j ⟨OS.flat (λ{_ _ _ _ _ _} k=>k),trivial⟩;simp only[gZ,gQ] at d;refine AU ?_;obtain⟨J,g,E⟩:=bd E;have K:=VT g;exact Wa FC (λ_ x=>x) O (d.oslAll mh) VM bE LG g O (RT)
def MG (hs:St S L h) {b:Value}{c:(List Int)}(k:Sl S h AB b c) {r:ByteArray}(E:H9 N c=some r):
 B0 prog 227 #[b,.func (.func 172) #[] #[]] S h (λv S' h'=>v= .string r∧r.size≤maxLen∧St S' (L) h'):=by
 refine BA (l:=[b,.func (.func 172) #[] #[]]) 22 func227 O ntmps227 O λB=>?_;rw[H9] at E;refine AU ?_;refine Wf VA 5 O hs λJ K M e4=>?_;have k5:=k.mono' e4;refine AU ?_;refine AK (λa w=>∃(Q:ByteArray),IV B S K (22,[]) a w [(5,vP J 0)] (SV J 269 5 Q::L) λ_ _=>E8 N Q=some r) ?_ ?_
 ·refine AY (λn1=>λa w=>∃(d:Int) (m:ByteArray),IV B S K (22,[]) a w [(9,vI (↑c.length:Int)),(8,b),(5,vP J 0),(1,.func (.func 172) #[] #[]),(10,vI d)] (SV J 269 5 m::L) λ_ _=>AA d∧Dp N c (E8 N) n1 d m=some r) N ?_ ?_ ?_
  ·intro q s g j;exact⟨0,ByteArray.empty,_,_,g.sub (kp [9,8,5,1,10] O),j,M,(B6.refl S K),(iq (n:=0) O),E⟩
  ·rintro q s ⟨_,_,_,_,_,_,_,_,_,E⟩;rw[Dp] at E;cases E
  rintro n1 q s ⟨d,m,ag,ah,g,j,o,t,ai,E⟩;refine AI ?_ g j;clear g j s q;rw[Dp] at E;refine AU ?_;refine AF O E (λU E=>?_) (λU E=>?_)
  ·refine AU ?_;refine AZ (AU ?_);have V:=k5.mono' t;refine A9 E O O V sl_29.1 O λaj E ak W=>?_;have X:=W.i;refine AU ?_;refine B5 ?_;refine BR E O O O Vs O (λY u=>WA o (show IntKind.has .u8 1 by first|assumption|exact⟨by decide,by decide⟩) u) λY E al am an ao p=>?_;obtain⟨rfl,x⟩:=p;refine AU ?_;refine B5 (AU ?_);refine CS E O O O L8 O x (λZ y=>E6 (St.all _) X y) λZ E ap aq ar z au av p=>?_;obtain⟨rfl,ab,ae⟩:=p;refine BR E O O O Jk O (λA C=>Jl z ab C) λA E aw ax ay az p=>?_;obtain⟨rfl,D⟩:=p;refine AU ?_;refine BD (AU ?_);refine WF.nil (λq s g j=>?_);exact⟨(BG (d+1)),A,_,_,g.sub (kp [9,8,5,1,10] O),j,D,EX,(BF _),E⟩
  refine A8 O (λq s g j=>?_);exact⟨m,_,_,g.sub (kp [5] O),j,o,t,E⟩
 rintro q s ⟨Q,a0,a1,g,j,F,a2,E⟩;refine AI ?_ g j;clear g j s q;rw[E8] at E;refine AU ?_;refine B5 ?_;refine BR E O O O Vs O (λac G=>WA F (show IntKind.has .u8 0 by first|assumption|exact⟨by decide,by decide⟩) G) λac E a3 a4 a5 a6 p=>?_;obtain⟨rfl,H⟩:=p;refine AU ?_;refine B5 ?_;refine BR E O O O V5 O (λad I=>UF H I) λad E a7 a8 a9 ba p=>?_;obtain⟨rfl,bb,af⟩:=p;exact RT
def I9 (g:St S L h) {a:Value}{c:(List Int)}(b:Sl S h AB a c) {r:ByteArray}(E:IQ N c=some r):
 B0 prog 173 #[a] S h (λv S' h'=>v= .string r∧r.size≤maxLen∧St S' (L) h'):=by
 refine BA 5 func173 O ntmps173 O λB=>?_;rw[IQ] at E;refine AU ?_;refine BZ (.inl O) g (AU ?_);refine CC E O O O ZQ O (λi d h' o=>MG (St.all h') (b.mono' (o.all g.1)) d) λi E j=>?_;have l:=j;refine AU ?_;exact BL (kp [2] O) λm k n=>RT
def OG (hs:St S L h) {y:Value}{b:AJ}(ah:Rd S h A7 y b) {r:ByteArray}(E:Lq N b=some r):
 B0 prog 97 #[y] S h (λv S' h'=>v= .string r∧r.size≤maxLen∧St S' (L) h'):=by
 refine BA 101 func97 O ntmps97 O λB=>?_;rw[Lq] at E;refine AU ?_;refine B4 O ah CE O hs λq1 S2 h3 e4 e5 k6=>AU ?_;refine Wf VA 5 O e4 λs h8 e6 e7=>AU ?_;refine B5 ?_;have cj:=k6.mono e7;have e8:=cj.fl AJ.f_Hour;have e9:=e8.i;refine AU ?_;refine CS E O O O L8 O e6 (λfa ck=>E6 (St.all _) e9 ck) λfa E j6 j7 j8 cl j9 ka p=>?_;obtain⟨rfl,fb,f7⟩:=p;refine BR E O O O Jk O (λfc cm=>Jl cl fb cm) λfc E kb kc kd ke p=>?_;obtain⟨rfl,cn⟩:=p;refine AU ?_;refine B5 ?_;have co:=cj.nw;have fd:=co.fl Dg;obtain⟨kf,_,fe⟩:=fd.ll;have ff:=fe.le;refine AU ?_;refine CS E O O O L8 O cn (λfg cp=>E6 (St.all _) (Jb ff) cp) λfg E kg kh ki cq kj kk p=>?_;obtain⟨rfl,fh,f8⟩:=p;refine BR E O O O Jk O (λcr cs=>Jl cq fh cs) λcr E kl ax ay km p=>?_;obtain⟨rfl,ct⟩:=p;have cu:=co.nw;have fi:=cu.fl Dg;obtain⟨fj,_,fk⟩:=fi.ll;refine AU ?_;refine AK (λa w=>∃(az:ByteArray),IV B ax ay (101,[]) a w [(3,vP s 0),(1,q1)] (SV s 269 5 az::L) λ_ _=>J4 N b az=some r) ?_ ?_
 ·refine AY (λn1=>λa w=>∃(G:Int) (ai:ByteArray),IV B ax ay (101,[]) a w [(22,vI (↑b.F.length:Int)),(21,fj),(3,vP s 0),(1,q1),(23,vI G)] (SV s 269 5 ai::L) λ_ _=>AA G∧IU N b (J4 N b) n1 G ai=some r) N ?_ ?_ ?_
  ·intro j k c d;exact⟨0,cr,_,_,c.sub (kp [22,21,3,1,23] O),d,ct,(B6.refl ax ay),(iq (n:=0) O),E⟩
  ·rintro j k ⟨_,_,_,_,_,_,_,_,_,E⟩;rw[IU] at E;cases E
  rintro n1 j k ⟨G,ai,kn,ko,c,d,z,cv,kq,E⟩;refine AI ?_ c d;clear c d k j;rw[IU] at E;refine AU ?_;refine AF O E (λfm E=>?_) (λfm E=>?_)
  ·refine AU ?_;refine AZ (AU ?_);have fn:=fk.mono' cv;refine A9 E O O fn sl_32.1 O λkr E ks fo=>?_;obtain⟨kt,_,fp⟩:=fo.ll;refine AU ?_;refine B5 (AU ?_);refine CS E O O O Qb O z (λfq cw=>I9 (St.all _) (fp.mono z.ea.1 z.ea.2) cw) λfq E ku kv kw cx kx ky p=>?_;obtain⟨rfl,fr,f9⟩:=p;refine BR E O O O Jk O (λcy cz=>Jl cx fr cz) λcy E kz k0 k1 k2 p=>?_;obtain⟨rfl,c0⟩:=p;refine AU ?_;refine BD (AU ?_);refine WF.nil (λj k c d=>?_);exact⟨(BG (G+1)),cy,_,_,c.sub (kp [22,21,3,1,23] O),d,c0,EX,(BF _),E⟩
  refine A8 O (λj k c d=>?_);exact⟨ai,_,_,c.sub (kp [3,1] O),d,z,cv,E⟩
 rintro j k ⟨az,k3,k4,c,d,H,fs,E⟩;refine AI ?_ c d;clear c d k j;rw[J4] at E;refine AU ?_;refine B5 ?_;have c1:=cu.mono fs;have ft:=c1.fl Iz;obtain⟨k5,_,fu⟩:=ft.ll;refine AU ?_;refine CS E O O O Qb O H (λc2 a0=>I9 (St.all _) (fu.mono H.ea.1 H.ea.2) a0) λc2 E ga gb gc a1 gd ge p=>?_;obtain⟨rfl,c3,fv⟩:=p;refine BR E O O O Jk O (λc4 a2=>Jl a1 c3 a2) λc4 E gf gg gh gi p=>?_;obtain⟨rfl,a3⟩:=p;refine AU ?_;refine B5 ?_;have aj:=c1.nw;have c5:=aj.fl Dt;obtain⟨gj,_,c6⟩:=c5.ll;have c7:=c6.le;refine AU ?_;refine CS E O O O L8 O a3 (λc8 a4=>E6 (St.all _) (Jb c7) a4) λc8 E gk gl gm a5 gn gp p=>?_;obtain⟨rfl,c9,fw⟩:=p;refine BR E O O O Jk O (λak a6=>Jl a5 c9 a6) λak E gq I J gr p=>?_;obtain⟨rfl,a7⟩:=p;have am:=aj.nw;have da:=am.fl Dt;obtain⟨db,_,dc⟩:=da.ll;refine AU ?_;refine AK (λa w=>∃(K:ByteArray),IV B I J (101,[]) a w [(3,vP s 0),(1,q1)] (SV s 269 5 K::L) λ_ _=>J3 N b K=some r) ?_ ?_
 ·refine AY (λn3=>λa w=>∃(q:Int) (A:ByteArray),IV B I J (101,[]) a w [(42,vI (↑b.P.length:Int)),(41,db),(3,vP s 0),(1,q1),(43,vI q)] (SV s 269 5 A::L) λ_ _=>AA q∧IT N b (J3 N b) n3 q A=some r) N ?_ ?_ ?_
  ·intro j k c d;exact⟨0,ak,_,_,c.sub (kp [42,41,3,1,43] O),d,a7,(B6.refl I J),(iq (n:=0) O),E⟩
  ·rintro j k ⟨_,_,_,_,_,_,_,_,_,E⟩;rw[IT] at E;cases E
  rintro n3 j k ⟨q,A,gs,gt,c,d,M,an,gu,E⟩;refine AI ?_ c d;clear c d k j;rw[IT] at E;refine AU ?_;refine AF O E (λdd E=>?_) (λdd E=>?_)
  ·refine AU ?_;refine AZ (AU ?_);have de:=dc.mono' an;refine A9 E O O de sl_33.1 O λgv E gw df=>?_;obtain⟨gx,_,dg⟩:=df.lv;refine AU ?_;refine CG NB O M λgy gz a8 dh=>?_;have di:=dg.mono dh;obtain⟨g0,rfl,dj,dk,dl⟩:=A3.ex di;refine Dj O O O ON ty_121.1 O a8 .head O λg1 a9 g2=>AU ?_;refine B5 (AU ?_);refine CS E O O O L8 O a9 (λdm ba=>E6 (St.all _) dj ba) λdm E g3 g4 g5 bb g6 g7 p=>?_;obtain⟨rfl,dn,fx⟩:=p;have bc:=bb.pick (.tail .head);refine BR E O O O Jk O (λdp be=>Jl bc dn be) λdp E g8 g9 ha hb p=>?_;obtain⟨rfl,bf⟩:=p;refine AU ?_;refine B5 (AU ?_);refine CS E O O O L8 O bf (λdq bg=>E6 (St.all _) dk bg) λdq E hc hd he bh hg hh p=>?_;obtain⟨rfl,dr,fy⟩:=p;refine BR E O O O Jk O (λds bi=>Jl bh dr bi) λds E hi hj hk hl p=>?_;obtain⟨rfl,t⟩:=p;refine AU ?_;refine B5 (AU ?_);have dt:=dl.nw;refine CS E O O O Qb O t (λdu bj=>I9 (St.all _) (dt.mono t.ea.1 t.ea.2) bj) λdu E hm hn ho bk hp hq p=>?_;obtain⟨rfl,dv,fz⟩:=p;refine BR E O O O Jk O (λao bl=>Jl bk dv bl) λao E hr ht hu hv p=>?_;obtain⟨rfl,bm⟩:=p;refine AU ?_;refine BD (AU ?_);refine WF.nil (λj k c d=>?_);have bn:=bm.drop (.tail .head);exact⟨(BG (q+1)),ao,_,_,c.sub (kp [42,41,3,1,43] O),d,bn,EX,(BF _),E⟩
  refine A8 O (λj k c d=>?_);exact⟨A,_,_,c.sub (kp [3,1] O),d,M,an,E⟩
 rintro j k ⟨K,hx,hy,c,d,bo,dw,E⟩;refine AI ?_ c d;clear c d k j;rw[J3] at E;refine AU ?_;refine B5 ?_;have ap:=am.mono dw;have dx:=ap.fl Hh;obtain⟨hz,_,dy⟩:=dx.ll;have dz:=dy.le;refine AU ?_;refine CS E O O O L8 O bo (λd0 bp=>E6 (St.all _) (Jb dz) bp) λd0 E h0 h1 h2 bq h4 h5 p=>?_;obtain⟨rfl,d1,f0⟩:=p;refine BR E O O O Jk O (λaq br=>Jl bq d1 br) λaq E h6 U W h7 p=>?_;obtain⟨rfl,bs⟩:=p;have ar:=ap.nw;have d2:=ar.fl Hh;obtain⟨X,_,d3⟩:=d2.ll;refine AU ?_;refine AK (λa w=>∃(Y:ByteArray),IV B U W (101,[]) a w [(3,vP s 0),(1,q1)] (SV s 269 5 Y::L) λ_ _=>HR N b Y=some r) ?_ ?_
 ·refine AY (λn5=>λa w=>∃(l:Int) (m:ByteArray),IV B U W (101,[]) a w [(67,vI (↑b.Q.length:Int)),(66,X),(3,vP s 0),(1,q1),(68,vI l)] (SV s 269 5 m::L) λ_ _=>AA l∧FT N b (HR N b) n5 l m=some r) N ?_ ?_ ?_
  ·intro j k c d;exact⟨0,aq,_,_,c.sub (kp [67,66,3,1,68] O),d,bs,(B6.refl U W),(iq (n:=0) O),E⟩
  ·rintro j k ⟨_,_,_,_,_,_,_,_,_,E⟩;rw[FT] at E;cases E
  rintro n5 j k ⟨l,m,Z,h9,c,d,ab,au,ia,E⟩;refine AI ?_ c d;clear c d k j;rw[FT] at E;refine AU ?_;refine AF O E (λd4 E=>?_) (λd4 E=>?_)
  ·refine AU ?_;refine AZ (AU ?_);have d5:=d3.mono' au;refine A9 E O O d5 sl_34.1 O λg E ib d6=>?_;obtain⟨ic,_,d7⟩:=d6.lv;refine AU ?_;refine CG OM O ab λC id bt d8=>?_;have d9:=d7.mono d8;obtain⟨rfl,⟨eb,ec⟩⟩:=BK.ex d9;refine CV O O O O ty_106.1 O bt .head O λac ad ie=>AU ?_;refine EZ (λa w=>∃(o:Int),IV B Z ac (101,[]) a w [(9,vP C 0),(67,vI (↑b.Q.length:Int)),(66,X),(3,vP s 0),(1,q1),(68,vI l),(10,vI o)] (Bx C 106 [vI g.Ah,vI g.V,.bool g.An,.bool g.Ae]::SV s 269 5 m::L) λ_ _=>AA o∧J2 N l m g (FT N b (HR N b) n5) o=some r) ?_ ?_
   ·refine AF O E (λed E=>?_) (λed E=>?_)
    ·refine AU ?_;refine WF.nil (λj k c d=>?_);exact⟨(BG (0+1)),_,_,c.sub (kp [9,67,66,3,1,68,10] O),d,ad,(B6.refl Z ac),(BF _),E⟩
    refine AU ?_;refine WF.nil (λj k c d=>?_);exact⟨0,_,_,c.sub (kp [9,67,66,3,1,68,10] O),d,ad,(B6.refl Z ac),(iq (n:=0) O),E⟩
   rintro j k ⟨o,ae,af,c,d,ag,ig,ee,E⟩;refine AI ?_ c d;clear c d k j;rw[J2] at E;refine AU ?_;refine EZ (λa w=>∃(D:Int),IV B ae af (101,[]) a w [(9,vP C 0),(67,vI (↑b.Q.length:Int)),(66,X),(3,vP s 0),(1,q1),(68,vI l),(10,vI D)] (Bx C 106 [vI g.Ah,vI g.V,.bool g.An,.bool g.Ae]::SV s 269 5 m::L) λ_ _=>AA D∧J1 N l m g (FT N b (HR N b) n5) D=some r) ?_ ?_
   ·refine AF O E (λef E=>?_) (λef E=>?_)
    ·refine AU ?_;refine WF.nil (λj k c d=>?_);exact⟨(BG (o+2)),_,_,c.sub (kp [9,67,66,3,1,68,10] O),d,ag,(B6.refl ae af),(BF _),E⟩
    refine AU ?_;refine WF.nil (λj k c d=>?_);exact⟨o,_,_,c.sub (kp [9,67,66,3,1,68,10] O),d,ag,(B6.refl ae af),ee,E⟩
   rintro j k ⟨D,ih,ii,c,d,bu,ij,eg,E⟩;refine AI ?_ c d;clear c d k j;rw[J1] at E;refine AU ?_;refine B5 (AU ?_);refine CS E O O O L8 O bu (λeh bv=>E6 (St.all _) eb bv) λeh E ik il im bw io ip p=>?_;obtain⟨rfl,ei,f1⟩:=p;have bx:=bw.pick (.tail .head);refine BR E O O O Jk O (λej bz=>Jl bx ei bz) λej E ir it iu iv p=>?_;obtain⟨rfl,b0⟩:=p;refine AU ?_;refine B5 (AU ?_);refine CS E O O O L8 O b0 (λek b1=>E6 (St.all _) ec b1) λek E iw iy iz b2 i0 i1 p=>?_;obtain⟨rfl,el,f2⟩:=p;refine BR E O O O Jk O (λem b3=>Jl b2 el b3) λem E i2 i3 i4 i5 p=>?_;obtain⟨rfl,b4⟩:=p;refine AU ?_;refine B5 (AU ?_);refine CS E O O O L8 O b4 (λen b5=>E6 (St.all _) eg b5) λen E i6 i7 i8 b6 i9 ja p=>?_;obtain⟨rfl,eo,f3⟩:=p;refine BR E O O O Jk O (λav b8=>Jl b6 eo b8) λav E jb jc jd je p=>?_;obtain⟨rfl,b9⟩:=p;refine AU ?_;refine BD (AU ?_);refine WF.nil (λj k c d=>?_);have ca:=b9.drop (.tail .head);exact⟨(BG (l+1)),av,_,_,c.sub (kp [67,66,3,1,68] O),d,ca,EX,(BF _),E⟩
  refine A8 O (λj k c d=>?_);exact⟨m,_,_,c.sub (kp [3,1] O),d,ab,au,E⟩
 rintro j k ⟨Y,jf,jg,c,d,u,ep,E⟩;refine AI ?_ c d;clear c d k j;rw[HR] at E;refine AU ?_;refine B5 ?_;have aw:=ar.mono ep;have eq:=aw.fl Hm;obtain⟨jh,_,er⟩:=eq.ll;refine AU ?_;refine CS E O O O Qb O u (λes cb=>I9 (St.all _) (er.mono u.ea.1 u.ea.2) cb) λes E ji jj jk cc jl jm p=>?_;obtain⟨rfl,eu,f4⟩:=p;refine BR E O O O Jk O (λev cd=>Jl cc eu cd) λev E jn jo jp jq p=>?_;obtain⟨rfl,x⟩:=p;refine AU ?_;refine B5 ?_;have ew:=aw.nw;have ey:=ew.fl FE;obtain⟨jr,_,ez⟩:=ey.ll;refine AU ?_;refine CS E O O O Qb O x (λe0 ce=>I9 (St.all _) (ez.mono x.ea.1 x.ea.2) ce) λe0 E js jt ju cf jv jw p=>?_;obtain⟨rfl,e1,f5⟩:=p;refine BR E O O O Jk O (λe2 cg=>Jl cf e1 cg) λe2 E jx jy jz j0 p=>?_;obtain⟨rfl,ch⟩:=p;refine AU ?_;refine B5 ?_;refine BR E O O O V5 O (λe3 ci=>UF ch ci) λe3 E j1 j2 j3 j4 p=>?_;obtain⟨rfl,j5,f6⟩:=p;exact RT
def Oy (hs:St S L h) {g:Value}{q:AO}(l:Rd S h BW g q) {j:ByteArray}(m:j.size≤maxLen) {r:AJ×Bool}(E:Mh N q j=some r):
 B0 prog 96 #[g,.string j] S h (λv S' h'=>∃I:Value,v= .tuple #[I,.bool r.2]∧Rd S' h' A7 I r.1∧St S' (L) h'):=by
 refine BA 30 func96 O ntmps96 O λB=>?_;rw[Mh] at E;refine AU ?_;refine B4 O l CE O hs λq1 S2 h3 ah e5 k6=>CG MD O ah λb7 h8 ai bi=>AU ?_;refine B5 (AU ?_);refine BR E O O O Zk O (λJ K=>Un ai m K) λJ E bj bk bl bm p=>?_;obtain⟨bn,rfl,aj,M⟩:=p;refine BR E O O O Zl O (λk Q=>Ro (p0_r:=J) M aj Q) λk E bo bp bq br p=>?_;obtain⟨bs,rfl,ak,bt,U⟩:=p;refine AU ?_;refine CG MD O U λbu bv V am=>?_;have an:=ak.mono am;obtain⟨bw,bx,bz,b0,b1,b2,rfl,w,y,z,A,C,D,F⟩:=A7.ex an;refine Dj O O O ON ty_36.1 O V .head O λb3 a d=>AU ?_;refine BZ (.inl O) a (AU ?_);obtain⟨W,b,E⟩:=bd E;refine AS 5 21 (.bool W) ?_ ?_
 ·cases X:(!k.2.1)
  ·have b:=Em X b;have ao:=k6.nw;obtain⟨b4,_,ap⟩:=ao.lv;refine AU ?_;have aq:=y.mono' d;have ar:=z.mono' d;have au:=A.mono' d;have av:=C.mono' d;have aw:=D.mono' d;have ax:=F.mono' d;obtain⟨b5,Y,b⟩:=bd b;refine Ht O O O dK O (λh' o=>QE (St.all h') (ap.mono (o.all a.1)) (A7.mk (x:=k.1) w (aq.mono' (o.all a.1)) (ar.mono' (o.all a.1)) (au.mono' (o.all a.1)) (av.mono' (o.all a.1)) (aw.mono' (o.all a.1)) (ax.mono' (o.all a.1))) Y) (AU ?_);cases b;exact AQ O
  have b:=El X b;cases b;exact A6 O O
 refine AU ?_;obtain⟨ay,c,E⟩:=bd E;refine AS 5 27 (.bool ay) ?_ ?_
 ·cases Z:W
  ·have c:=Em Z c;refine AU ?_;have az:=y.mono' d;have a0:=z.mono' d;have a1:=A.mono' d;have a2:=C.mono' d;have a3:=D.mono' d;have a4:=F.mono' d;obtain⟨b6,ab,c⟩:=bd c;refine Kz O O O X8 O (λh' o=>OG (St.all h') (A7.mk (x:=k.1) w (az.mono' (o.all a.1)) (a0.mono' (o.all a.1)) (a1.mono' (o.all a.1)) (a2.mono' (o.all a.1)) (a3.mono' (o.all a.1)) (a4.mono' (o.all a.1))) ab) λa5=>?_;have b8:=a5;refine AU ?_;refine TC O O O (AU ?_);cases c;exact AQ O
  have c:=El Z c;cases c;exact A6 O O
 refine BL (kp [27,6,4] O) λb9 s ca=>AF O E (λa6 E=>?_) (λa6 E=>?_)
 ·refine AU ?_;refine Dd (cs:=[vI 0,vN,vN,vN,vN,vN,vN]) VO O O O (AU ?_);refine CV O O O O ty_36.1 O s (.tail (.tail .head)) O λcb ac cc=>AU ?_;refine BS (λaa ww G hw=>?_);have t:=ac.sel [2] 2 O;have ad:=t.drop .head;cases E;exact Hk G O hw (Eg (Rn G hw t O mh ty_36.1 O) (Eg (GE G (v:=_) O) Hj)) O EX ⟨_,O,(A7.mk (x:=(⟨0,[],[],[],[],[],[]⟩:AJ)) (iq (n:=0) O) (.inl ⟨O,O⟩) (.inl ⟨O,O⟩) (.inl ⟨O,O⟩) (.inl ⟨O,O⟩) (.inl ⟨O,O⟩) (.inl ⟨O,O⟩)),ad⟩
 refine AU ?_;have a7:=F.nw;have a8:=D.nw;have a9:=C.nw;have ba:=A.nw;have bb:=z.nw;have bc:=y.nw;refine Dj O O O ON ty_36.1 O s (.tail (.tail .head)) O λcd ae i=>AU ?_;refine BS (λaa ww G hw=>?_);have u:=ae.sel [2] 2 O;have be:=bc.mono' i;have bf:=bb.mono' i;have bg:=ba.mono' i;have bh:=a9.mono' i;have af:=a8.mono' i;have ag:=a7.mono' i;have H:=u.drop .head;cases E;exact Hk G O hw (Eg (Rn G hw u O mh ty_36.1 O) (Eg (GE G (v:=_) O) Hj)) O EX ⟨_,O,(A7.mk (x:=k.1) w be bf bg bh af ag),H⟩
def Hv (i:St S L h) {a:Value}{d:AO}(c:Rd S h BW a d) {b:Int}(g:AA b) {r:Bool}(E:G8 N d b=some r):
 B0 prog 113 #[a,vI b] S h (λv S' h'=>v= .bool r∧St S' (L) h'):=by
 refine BA 14 func113 O ntmps113 O λB=>?_;rw[G8] at E;refine AU ?_;exact B4 O c CE O i λk S2 l j m n=>RT
def QK (hs:St S L h) {C:Value}{q:AO}(K:Rd S h BW C q) {d:Value}{c:(List AX)}(s:Sl S h BJ d c) {b:Int}(M:AA b) {r:Int×Int}(E:Mi N q c b=some r):
 B0 prog 38 #[C,d,vI b] S h (λv S' h'=>v= .tuple #[vI r.1,vI r.2]∧AA r.1∧AA r.2∧St S' (L) h'):=by
 refine BA 88 func38 O ntmps38 O λB=>?_;rw[Mi] at E;refine AU ?_;refine B4 O K CE O hs λq1 S2 h3 bl e5 k6=>?_;have k7:=s.mono' e5;refine AU ?_;refine AK (λa w=>∃(i9:Int) (Q:Int),IV B S2 h3 (88,[]) a w [(8,vI i9),(9,vI Q)] (L) λ_ _=>AA i9∧AA Q∧Gf N i9 Q=some r) ?_ ?_
 ·refine AY (λn1=>λa w=>∃(x:Int) (m:Int) (p:Int),IV B S2 h3 (88,[]) a w [(15,vI (↑c.length:Int)),(14,d),(3,q1),(2,vI b),(8,vI x),(9,vI m),(16,vI p)] (L) λ_ _=>AA x∧AA m∧AA p∧Dy N q c b (Gf N) n1 x m p=some r) N ?_ ?_ ?_
  ·intro t u g i;exact⟨0,0,0,_,_,g.sub (kp [15,14,3,2,8,9,16] O),i,bl,(B6.refl S2 h3),(iq (n:=0) O),(iq (n:=0) O),(iq (n:=0) O),E⟩
  ·rintro t u ⟨_,_,_,_,_,_,_,_,_,_,_,_,E⟩;rw[Dy] at E;cases E
  rintro n1 t u ⟨x,m,p,ab,bm,g,i,W,ap,U,V,co,E⟩;refine AI ?_ g i;clear g i u t;rw[Dy] at E;refine AU ?_;refine AF O E (λbn E=>?_) (λbn E=>?_)
  ·refine AU ?_;refine AK (λa w=>∃(H:Int) (I:Int),IV B ab bm (88,[]) a w [(15,vI (↑c.length:Int)),(14,d),(3,q1),(2,vI b),(16,vI p),(8,vI H),(9,vI I)] (L) λ_ _=>AA H∧AA I∧Ge N p (Dy N q c b (Gf N) n1) H I=some r) ?_ ?_
   ·refine AU ?_;have bo:=k7.mono' ap;refine A9 E O O bo sl_70.1 O λy E cp bp=>?_;obtain⟨cq,_,bq⟩:=bp.lv;refine AU ?_;refine CG SW O W λaq cr ar br=>?_;have bs:=bq.mono br;obtain⟨bt,rfl,cs,bu,bv,ct,au⟩:=BJ.ex bs;refine Dj O O O ON ty_74.1 O ar .head O λcu J cv=>AU ?_;refine BZ (.inl O) J ?_;have ac:=k6.nw;obtain⟨cw,_,bw⟩:=ac.lv;refine AU ?_;refine BC E O O O Qd O (λav aw h' o=>Hv (St.all h') (bw.mono (o.all J.1)) bu aw) λav E=>AU ?_;obtain⟨bx,j,E⟩:=bd E;refine AS 11 36 (.bool bx) ?_ ?_
    ·cases ax:(!av)
     ·have j:=Em ax j;refine AU ?_;obtain⟨bz,k,j⟩:=bd j;refine AS 6 35 (.bool bz) ?_ ?_
      ·cases ay:(decide (y.B≠(-1)))
       ·have k:=Em ay k;cases k;exact A6 O O
       have k:=El ay k;obtain⟨cx,_,b0⟩:=ac.lv;refine AU ?_;refine BC k O O O Qd O (λb1 az h' o=>Hv (St.all h') (b0.mono (o.all J.1)) bv az) λb1 k=>AU ?_;cases k;exact AQ O
      refine AU ?_;cases j;exact AQ O
     have j:=El ax j;cases j;exact A6 O O
    refine BL (kp [36,11,15,14,3,2,8,9,16] O) λa0 F b2=>AF O E (λb3 E=>?_) (λb3 E=>?_)
    ·refine A8 O (λt u g i=>?_);have a1:=F.drop .head;exact⟨x,m,_,_,g.sub (kp [15,14,3,2,16,8,9] O),i,a1,EX,U,V,E⟩
    have a2:=ac.mono b2;have b4:=a2.fl B3;obtain⟨cy,_,b5⟩:=b4.ll;refine AU ?_;refine A9 E O O b5 sl_23.1 O λa3 E cz c0=>AU ?_;obtain⟨ad,l,E⟩:=bd E;refine AS 10 59 (.bool ad) ?_ ?_
    ·cases a4:(decide (y.B≠(-1)))
     ·have l:=Em a4 l;cases l;exact A6 O O
     have l:=El a4 l;have b6:=a2.fl B3;obtain⟨c1,_,b7⟩:=b6.ll;refine AU ?_;refine A9 l O O b7 sl_23.1 O λc2 l c3 c4=>AU ?_;cases l;exact AQ O
    refine AU ?_;refine EZ (λa w=>∃(G:Int),IV B ab a0 (88,[]) a w [(13,.bool ad),(12,.bool (decide (a3.Al=b))),(11,vP aq 0),(15,vI (↑c.length:Int)),(14,d),(3,q1),(2,vI b),(9,vI m),(16,vI p),(8,vI G)] (Bx aq 74 [vI y.A,vI y.D,vI y.B,vI y.Aw,bt]::L) λ_ _=>AA G∧JQ N b m y a3 ad (Ge N p (Dy N q c b (Gf N) n1)) G=some r) ?_ ?_
    ·refine AF O E (λa5 E=>?_) (λa5 E=>?_)
     ·refine BZ (.inl O) F (AU ?_);have a6:=au.nw;refine CC E O O O Ls O (λa7 ae h' o=>Ci (St.all h') (a6.mono' (o.all F.1)) ae) λa7 E a8=>?_;have a9:=a8;refine CC E O O O Pm O (λX af h' o=>GB (St.all h') U a9 af) λX E ba=>?_;have bb:=ba;refine AU ?_;refine BL (kp [8,13,12,11,15,14,3,2,9,16] O) λcc ag bc=>WF.nil (λt u g i=>?_);exact⟨X,_,_,g.sub (kp [13,12,11,15,14,3,2,9,16,8] O),i,ag,bc,bb,E⟩
     refine AU ?_;refine WF.nil (λt u g i=>?_);exact⟨x,_,_,g.sub (kp [13,12,11,15,14,3,2,9,16,8] O),i,F,(B6.refl ab a0),U,E⟩
    rintro t u ⟨G,cd,ce,g,i,z,cf,Y,E⟩;refine AI ?_ g i;clear g i u t;rw[JQ] at E;refine AU ?_;refine AF O E (λbe E=>?_) (λbe E=>?_)
    ·refine BZ (.inl O) z (AU ?_);have bf:=au.nw;refine CC E O O O Ls O (λbg ah h' o=>Ci (St.all h') (bf.mono' (o.all z.1)) ah) λbg E bh=>?_;have bi:=bh;refine CC E O O O Pm O (λZ ai h' o=>GB (St.all h') V bi ai) λZ E bj=>?_;have bk:=bj;refine AU ?_;refine BL (kp [9,15,14,3,2,16,8] O) λcg aj ch=>WF.nil (λt u g i=>?_);have ak:=aj.drop .head;exact⟨G,Z,_,_,g.sub (kp [15,14,3,2,16,8,9] O),i,ak,EX,Y,bk,E⟩
    refine AU ?_;refine WF.nil (λt u g i=>?_);have am:=z.drop .head;exact⟨G,m,_,_,g.sub (kp [15,14,3,2,16,8,9] O),i,am,EX,Y,V,E⟩
   rintro t u ⟨H,I,ci,cj,g,i,an,ck,b8,b9,E⟩;refine AI ?_ g i;clear g i u t;rw[Ge] at E;refine AU ?_;refine WF.nil (λt u g i=>?_);exact⟨H,I,(BG (p+1)),_,_,g.sub (kp [15,14,3,2,8,9,16] O),i,an,EX,b8,b9,(BF _),E⟩
  refine A8 O (λt u g i=>?_);exact⟨x,m,_,_,g.sub (kp [8,9] O),i,W,ap,U,V,E⟩
 rintro t u ⟨i9,Q,cl,cm,g,i,ao,cn,ca,cb,E⟩;refine AI ?_ g i;clear g i u t;rw[Gf] at E;refine AU ?_;refine BS (λt u g i=>?_);cases E;exact Hk g O i (Eg (GE g (v:=_) O) (Eg (GE g (v:=_) O) Hj)) O EX ⟨O,ca,cb,ao⟩
end Go.Proofs.YtedgiljmffngoaaGreat
