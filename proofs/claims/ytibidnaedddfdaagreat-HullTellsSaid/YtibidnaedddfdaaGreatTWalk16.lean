import Derived.Test.YtibidnaedddfdaaGreatTFacts
import Derived.Test.YtibidnaedddfdaaGreatTForms
import Derived.Test.YtibidnaedddfdaaGreatTWalk0
import Derived.Test.YtibidnaedddfdaaGreatTWalk13
namespace Go.Proofs.YtibidnaedddfdaaGreat
set_option linter.all false
open Go.RowKit
open Go.Proofs.Tryz
set_option maxRecDepth 10000
set_option maxHeartbeats 2000000
variable {N:Nat}{S:Nat→Prop}{L:List HP}{h:A4}
def Jt (K:St S L h) {b:Value}{d:(List Int)}(c:Sl S h AW b d) {r:Int}(E:Fk N d=some r):
 CA prog 70 #[b] S h (λv M h'=>v=vI r∧AA r∧St M (L) h'):=by
 refine A8 18 func70 O ntmps70 O λB=>?_;rw[Fk] at E;refine AU ?_;refine AN (λa w=>∃(y:Int),IV B S h (18,[]) a w [(3,vI y)] (L) λ_ _=>AA y∧JQ N y=some r) ?_ ?_
 ·refine BA (λH=>λa w=>∃(q:Int) (s:Int),IV B S h (18,[]) a w [(0,b),(3,vI q),(4,vI s)] (L) λ_ _=>AA q∧AA s∧FJ N d (JQ N) H q s=some r) N ?_ ?_ ?_
  ·intro l m g j;exact⟨0,0,_,_,g.sub (kp [0,3,4] O),j,K,(CX.refl S h),(iq (n:=0) O),(iq (n:=0) O),E⟩
  ·rintro l m ⟨_,_,_,_,_,_,_,_,_,_,E⟩;rw[FJ] at E;cases E
  rintro H l m ⟨q,s,Q,U,g,j,k,p,I,V,E⟩;refine AI ?_ g j;clear g j m l;rw[FJ] at E;have W:=c.mono' p;refine AU ?_;refine AE O E (λz E=>?_) (λz E=>?_)
  ·refine AU ?_;refine BG (WF.rc (.inl O) k (AU ?_));have A:=c.mono' p;refine AO E O O A sl_29.1 O λX E Y C=>?_;have D:=C.i;refine AU ?_;refine A5 E O O O PM O (λt u h' o=>DU (St.all h') I D u) λt E F=>?_;have G:=F;refine AU ?_;refine BB (kp [3,0,4] O) λZ x ab=>BP (AU ?_);refine WF.nil (λl m g j=>?_);exact⟨t,(BV (s+1)),_,_,g.sub (kp [0,3,4] O),j,x,EX,G,(BY _),E⟩
  refine WF.exit O (λl m g j=>?_);exact⟨q,_,_,g.sub (kp [3] O),j,k,p,I,E⟩
 rintro l m ⟨y,ac,ad,g,j,J,ae,r2,E⟩;refine AI ?_ g j;clear g j m l;rw[JQ] at E;exact RT
def EJ (k:St S L h) {a:Int}(b:AA a) {r:AB}(E:Cx N a=some r):
 CA prog 69 #[vI a] S h (λv l h'=>v= .agg #[vI r.B,vI r.A]∧AB.ok r∧St l (L) h'):=by
 refine A8 6 func69 O ntmps69 O λB=>?_;rw[Cx] at E;refine AU ?_;refine BZ EU O k λm n d o=>AU ?_;refine CT (cs:=[vI a,vI a]) HY O O O (AU ?_);refine BI O O O O ty_51.1 O d .head O λp c q=>AU ?_;refine WF.ret (λs t i j=>?_);have g:=c.drop .head;cases E;exact Jw i O j (Hr (NS i j c O mh ty_51.1 O) Jr) O EX ⟨O,⟨b,b⟩,g⟩
def LZ (hs:St S L h) {a:Value}{g:AB}(c:Rd S h AC a g) {b:Value}{j:AB}(d:Rd S h AC b j) {r:AB}(E:G5 N g j=some r):
 CA prog 126 #[a,b] S h (λv S' h'=>v= .agg #[vI r.B,vI r.A]∧AB.ok r∧St S' (L) h'):=by
 refine A8 20 func126 O ntmps126 O λB=>?_;rw[G5] at E;refine AU ?_;refine A6 O c CE O hs λq1 S2 h3 C e5 k6=>?_;have k7:=d.mono e5;refine A6 O k7 CE O C λq8 S9 ac l ad D=>BZ EU O l λae af m F=>AU ?_;refine WF.rc (.inl O) m ?_;have n:=k6.nw;have G:=n.fl AB.f_Lo;have H:=G.i;have p:=D.mono F;have I:=p.fl AB.f_Lo;have J:=I.i;refine AU ?_;refine A5 E O O O PM O (λq s h' o=>DU (St.all h') H J s) λq E K=>?_;have M:=K;refine AU ?_;refine BB (kp [5,4,3,2] O) λag t u=>AU ?_;refine WF.rc (.inl O) t ?_;have Q:=n.mono u;have U:=Q.fl AB.f_Hi;have V:=U.i;have W:=p.mono u;have X:=W.fl AB.f_Hi;have Y:=X.i;refine AU ?_;refine A5 E O O O PM O (λw x h' o=>DU (St.all h') V Y x) λw E Z=>?_;have ab:=Z;refine AU ?_;refine BB (kp [6,5,4] O) λah y ai=>AU ?_;refine CT (cs:=[vI q,vI w]) HY O O O (AU ?_);refine BI O O O O ty_51.1 O y .head O λaj k ak=>AU ?_;refine WF.ret (λaa ww hf hw=>?_);have z:=k.drop .head;cases E;exact Jw hf O hw (Hr (NS hf hw k O mh ty_51.1 O) Jr) O EX ⟨O,⟨M,ab⟩,z⟩
def Ix (w:St S L h) {a:Value}{b:AB}(c:Rd S h AC a b) {r:AB}(E:Fp N b=some r):
 CA prog 127 #[a] S h (λv x h'=>v= .agg #[vI r.B,vI r.A]∧AB.ok r∧St x (L) h'):=by
 refine A8 10 func127 O ntmps127 O λB=>?_;rw[Fp] at E;refine AU ?_;refine A6 O c CE O w λD F G k H y=>BZ EU O k λI J l m=>?_;have g:=y.mono m;have o:=g.fl AB.f_Lo;have p:=o.i;refine AU ?_;refine Lb O O O ?_;have q:=g.fl AB.f_Hi;have s:=q.i;refine AU ?_;refine Lb O O O (CT (cs:=[vI (min b.B 1125899906842624),vI (min b.A 1125899906842624)]) HY O O O (AU ?_));refine BI O O O O ty_51.1 O l .head O λz d C=>AU ?_;refine WF.ret (λK M t u=>?_);have j:=d.drop .head;cases E;exact Jw t O u (Hr (NS t u d O mh ty_51.1 O) Jr) O EX ⟨O,⟨(IR p (iq (n:=1125899906842624) O)),(IR s (iq (n:=1125899906842624) O))⟩,j⟩
def LY {d:Value}{m:(List AY)}(hs:St S (OS BU 93 d m::L) h) {b:Int}(F:AA b) {c:Int}(H:AA c) {Q:Value}{g:AB}(ae:Rd S h AC Q g) {r:(List AY)}(E:H7 N m b c g=some r):
 CA prog 71 #[d,vI b,vI c,Q] S h (λv S' h'=>St S' (OS BU 93 v r::L) h'):=by
 refine A8 88 func71 O ntmps71 O λB=>?_;rw[H7] at E;refine AU ?_;refine A6 O ae CE O hs λq1 S2 h3 bb e5 k6=>AU ?_;refine AE O E (λcb E=>?_) (λcb E=>?_)
 ·refine AU ?_;cases E;exact Ma bb O O EX
 refine AU ?_;refine AN (λa w=>∃(af:Value) (W:List AY) (am:Bool),IV B S2 h3 (88,[]) a w [(7,q1),(1,vI b),(2,vI c),(9,af),(10,.bool am)] (OS BU 93 af W::L) λ_ _=>Dd N b c g W am=some r) ?_ ?_
 ·refine BA (λn1=>λa w=>∃(J:Value) (s:List AY) (X:Bool) (t:Int),IV B S2 h3 (88,[]) a w [(7,q1),(0,d),(1,vI b),(2,vI c),(9,J),(10,.bool X),(11,vI t)] (OS BU 93 J s::OS BU 93 d m::L) λ_ _=>AA t∧Dc N m b c g (Dd N b c g) n1 s X t=some r) N ?_ ?_ ?_
  ·intro u y i j;have bc:=bb.nil BU 93;exact⟨(vN),([]:List AY),false,0,_,_,i.sub (kp [7,0,1,2,9,10,11] O),j,bc,(CX.refl S2 h3),(iq (n:=0) O),E⟩
  ·rintro u y ⟨_,_,_,_,_,_,_,_,_,_,_,E⟩;rw[Dc] at E;cases E
  rintro n1 u y ⟨J,s,X,t,be,dx,i,j,U,cc,dy,E⟩;refine AI ?_ i j;clear i j y u;rw[Dc] at E;refine AU ?_;refine AE O E (λcd E=>?_) (λcd E=>?_)
  ·refine AU ?_;refine BG (AU ?_);obtain⟨dz,bf,E⟩:=bd E;refine CR U (mt mh) O O sl_33.1 bf O λd0 bg=>?_;obtain⟨k,bh,E⟩:=bd E;have ce:=U.epAt (mt mh) bh Gs.id bg;refine Iz K1 (λ_ x=>x) O ce ty_93.1 CE O λd1 cf=>AU ?_;refine BZ Sq O U λag d2 bi cg=>?_;have ch:=cf.mono cg;obtain⟨rfl,⟨ci,cj,bj,bk⟩⟩:=BU.ex ch;refine BI O O O O ty_93.1 O bi .head O λbl Y d3=>AU ?_;refine F2 (λa w=>∃(ah:Bool) (z:Int) (D:Int),IV B be bl (88,[]) a w [(12,vP ag 0),(7,q1),(0,d),(1,vI b),(2,vI c),(9,J),(11,vI t),(10,.bool ah)] (Bx ag 93 [vI k.K,vI k.C,vI z,vI D]::OS BU 93 J s::OS BU 93 d m::L) λ_ _=>AA z∧AA D∧Im N b c g s t k (Dc N m b c g (Dd N b c g) n1) ah z D=some r) ?_ ?_
   ·refine AE O E (λck E=>?_) (λck E=>?_)
    ·refine AU ?_;refine Es ?_;have cl:=k6.nw;obtain⟨d4,_,cm⟩:=cl.lv;refine AU ?_;obtain⟨cn,bm,E⟩:=bd E;refine Cj O O O XI O Y (LZ (St.all _) (AC.mk (x:=k.G) ⟨bj,bk⟩) (cm.mono Y.ea) bm) λd5 d6 d7 bn d8 d9 p=>?_;obtain⟨rfl,⟨co,cp⟩,cx⟩:=p;refine BZ EU O bn λeb ec bo ed=>?_;refine BI O O O O ty_51.1 O bo .head O λee bp ef=>AU ?_;refine Es (AU ?_);obtain⟨ai,bq,E⟩:=bd E;refine Cj O O O Vf O bp (Ix (St.all _) (AC.mk (x:=cn) ⟨co,cp⟩) bq) λeg eh ei br ej ek p=>?_;obtain⟨rfl,⟨cq,cr⟩,cy⟩:=p;refine AU ?_;refine HH (cs':=[vI k.K,vI k.C,vI ai.B,vI ai.A]) O O O O ty_51.1 O br (.tail .head) O O λel bs em=>AU ?_;refine WF.nil (λu y i j=>?_);have bt:=bs.sel [1,1,1] 1 O;exact⟨true,ai.B,ai.A,_,_,i.sub (kp [12,7,0,1,2,9,11,10] O),j,bt,EX,cq,cr,E⟩
    refine AU ?_;refine WF.nil (λu y i j=>?_);exact⟨X,k.G.B,k.G.A,_,_,i.sub (kp [12,7,0,1,2,9,11,10] O),j,Y,(CX.refl be bl),bj,bk,E⟩
   rintro u y ⟨ah,z,D,bu,bv,i,j,Z,en,ct,cu,E⟩;refine AI ?_ i j;clear i j y u;rw[Im] at E;refine AU ?_;refine F2 (λa w=>∃(ab:Value) (I:List AY) (V:Bool),IV B bu bv (88,[]) a w [(12,vP ag 0),(7,q1),(0,d),(1,vI b),(2,vI c),(11,vI t),(9,ab),(10,.bool V)] (OS BU 93 ab I::Bx ag 93 [vI k.K,vI k.C,vI z,vI D]::OS BU 93 d m::L) λ_ _=>Il N t k z D (Dc N m b c g (Dd N b c g) n1) I V=some r) ?_ ?_
   ·refine AE O E (λbw E=>?_) (λbw E=>?_)
    ·refine AU ?_;refine Es ?_;have bx:=k6.nw;obtain⟨cz,_,bz⟩:=bx.lv;refine AU ?_;refine Ia E O O O Vf O Z (λo an=>Ix (St.all _) (bz.mono Z.ea) an) λo E c0 c1 c2 ao c3 c4 p=>?_;obtain⟨rfl,⟨b0,b1⟩,cv⟩:=p;refine AU ?_;refine CT (cs:=[vI b,vI c,vI o.B,vI o.A]) Xl O O O (AU ?_);refine IB (cs:=[vI b,vI c,vI o.B,vI o.A]) Ob O O O O O O O ao λc5 c6 ap c7=>?_;obtain⟨aq,E⟩:=Qw E;refine LA (r:=BU) (l:=s) (xs:=([(⟨b,c,o⟩:AY)]:List AY)) O O Ob O mh ⟨_,_,O,⟨O,⟨F,H,b0,b1⟩⟩,O⟩ O O aq O ap (λ_=>(.tail (.tail .head))) λb2 c8 ar c9=>?_;have au:=ar.drop .head;refine AU ?_;refine WF.nil (λu y i j=>?_);have av:=au.sel [1,0,0] 0 O;exact⟨b2,(s++([(⟨b,c,o⟩:AY)]:List AY)),true,_,_,i.sub (kp [12,7,0,1,2,11,9,10] O),j,av,EX,E⟩
    refine AU ?_;refine WF.nil (λu y i j=>?_);have aw:=Z.sel [1,0,0] 0 O;exact⟨J,s,ah,_,_,i.sub (kp [12,7,0,1,2,11,9,10] O),j,aw,(CX.refl bu bv),E⟩
   rintro u y ⟨ab,I,V,da,db,i,j,ax,dc,E⟩;refine AI ?_ i j;clear i j y u;rw[Il] at E;refine AU ?_;refine IB (cs:=[vI k.K,vI k.C,vI z,vI D]) Ob O O O O O O O ax λdd de ay df=>?_;obtain⟨az,E⟩:=Qw E;refine LA (r:=BU) (l:=I) (xs:=([({ k with G:=(⟨z,D⟩:AB)}:AY)]:List AY)) O O Ob O mh ⟨_,_,O,⟨O,⟨ci,cj,ct,cu⟩⟩,O⟩ O O az O ay (λ_=>(.tail .head)) λb3 dg a0 dh=>?_;have a1:=a0.drop .head;refine AU ?_;refine BP (AU ?_);refine WF.nil (λu y i j=>?_);have a2:=a1.sel [0,1] 1 O;exact⟨b3,(I++([({ k with G:=(⟨z,D⟩:AB)}:AY)]:List AY)),V,(BV (t+1)),_,_,i.sub (kp [7,0,1,2,9,10,11] O),j,a2,EX,(BY _),E⟩
  refine WF.exit O (λu y i j=>?_);have a3:=U.drop (.tail .head);exact⟨J,s,X,_,_,i.sub (kp [7,1,2,9,10] O),j,a3,cc,E⟩
 rintro u y ⟨af,W,am,aj,ak,i,j,M,b4,E⟩;refine AI ?_ i j;clear i j y u;rw[Dd] at E;refine AU ?_;refine F2 (λa w=>∃(ac:Value) (ad:List AY),IV B aj ak (88,[]) a w [(9,ac)] (OS BU 93 ac ad::L) λ_ _=>GT N ad=some r) ?_ ?_
 ·refine AE O E (λb5 E=>?_) (λb5 E=>?_)
  ·refine Es ?_;have b6:=k6.mono b4;obtain⟨di,_,b7⟩:=b6.lv;refine AU ?_;refine Ia E O O O Vf O M (λq a4=>Ix (St.all _) (b7.mono M.ea) a4) λq E dj dk dl a5 dm dn p=>?_;obtain⟨rfl,⟨b8,b9⟩,cw⟩:=p;refine AU ?_;refine CT (cs:=[vI b,vI c,vI q.B,vI q.A]) Xl O O O (AU ?_);refine IB (cs:=[vI b,vI c,vI q.B,vI q.A]) Ob O O O O O O O a5 λdp dq a6 dr=>?_;obtain⟨a7,E⟩:=Qw E;refine LA (r:=BU) (l:=W) (xs:=([(⟨b,c,q⟩:AY)]:List AY)) O O Ob O mh ⟨_,_,O,⟨O,⟨F,H,b8,b9⟩⟩,O⟩ O O a7 O a6 (λ_=>(.tail .head)) λca ds a8 dt=>?_;have a9:=a8.drop .head;refine AU ?_;refine WF.nil (λu y i j=>?_);exact⟨ca,(W++([(⟨b,c,q⟩:AY)]:List AY)),_,_,i.sub (kp [9] O),j,a9,EX,E⟩
  refine AU ?_;refine WF.nil (λu y i j=>?_);exact⟨af,W,_,_,i.sub (kp [9] O),j,M,(CX.refl aj ak),E⟩
 rintro u y ⟨ac,ad,du,dv,i,j,ba,dw,E⟩;refine AI ?_ i j;clear i j y u;rw[GT] at E;refine AU ?_;cases E;exact Ma ba O O EX
def NI (d:St S L h) {a:Bool}{r:Int}(E:J9 N a=some r):
 CA prog 72 #[.bool a] S h (λv b h'=>v=vI r∧AA r∧St b (L) h'):=by
 refine A8 4 func72 O ntmps72 O λB=>?_;rw[J9] at E;refine AU ?_;refine AE O E (λc E=>?_) (λc E=>?_)
 ·exact RT
 exact RT
def RZ (hs:St S L h) {ao:Value}{bz:AH}(bu:Rd S h B5 ao bz) {ap:Value}{c:BQ}(bv:Rd S h DX ap c) {r:AX}(E:Kd N bz c=some r):
 CA prog 25 #[ao,ap] S h (λv S' h'=>Rd S' h' DD v r∧St S' (L) h'):=by
 refine A8 93 func25 O ntmps25 O λB=>?_;rw[Kd] at E;refine AU ?_;refine A6 O bu CE O hs λq1 S2 h3 gi e5 k6=>?_;have k7:=bv.mono e5;refine A6 O k7 CE O gi λq8 S9 kv da kw gj=>BZ Q6 O da λF kx db gk=>?_;have bw:=gj.mono gk;have gl:=bw.fl BQ.f_Hour;have gm:=gl.i;refine AU ?_;refine CT (cs:=[vI c.H,vN,vN,vN]) Z5 O O O (AU ?_);refine BZ Q6 O db λy ky dc kz=>?_;refine BI O O O O ty_36.1 O dc .head O λb7 dd k0=>AU ?_;refine AN (λa w=>∃(G:Value) (V:List AB),IV B S9 b7 (93,[]) a w [(5,vP y 0),(4,vP F 0),(3,q8)] (OS AC 51 G V::Bx y 36 [vI c.H,G,vN,vN]::Bx F 36 [vI 0,vN,vN,vN]::L) λ_ _=>JF N c V=some r) ?_ ?_
 ·refine BA (λn1=>λa w=>∃(ah:Int) (az:Value) (ai:List AB),IV B S9 b7 (93,[]) a w [(5,vP y 0),(4,vP F 0),(3,q8),(6,vI ah)] (OS AC 51 az ai::Bx y 36 [vI c.H,az,vN,vN]::Bx F 36 [vI 0,vN,vN,vN]::L) λ_ _=>AA ah∧Gw N c (JF N c) n1 ah ai=some r) N ?_ ?_ ?_
  ·intro X Y t u;have de:=dd.nil AC 51;exact⟨0,(vN),([]:List AB),_,_,t.sub (kp [5,4,3,6] O),u,de,(CX.refl S9 b7),(iq (n:=0) O),E⟩
  ·rintro X Y ⟨_,_,_,_,_,_,_,_,_,_,E⟩;rw[Gw] at E;cases E
  rintro n1 X Y ⟨ah,az,ai,a0,df,t,u,z,gn,k1,E⟩;refine AI ?_ t u;clear t u Y X;rw[Gw] at E;have gp:=bw.nw;refine AU ?_;refine AE O E (λgq E=>?_) (λgq E=>?_)
  ·refine AU ?_;refine BG ?_;obtain⟨bx,dg,E⟩:=bd E;obtain⟨dh,di,E⟩:=bd E;obtain⟨W,dj,E⟩:=bd E;refine MJ (m:=[(5,vP y 0),(4,vP F 0),(3,q8),(6,vI ah)]) 10 (λi v s=>match i with|0=>v=vP y 1|1=>v=az|2=>Pt a0 s (BX.sl (BX.sl AW)) v c.Af|3=>Sl a0 s (BX.sl AW) v c.Af|4=>v=vI ah∧AA ah|5=>Pt a0 s (BX.sl AW) v bx|6=>Sl a0 s AW v bx|7=>v=vI dh∧AA dh|8=>v= .agg #[vI W.B,vI W.A]∧AA W.B∧AA W.A|9=>Sl (SN a0 df s) s AC v ([W]:List AB)∧∃ad,v= .slice (some ad) 1 1|_=>False) [[],[(0,21)],[],[(2,23)],[],[(3,24),(4,25)],[(5,26)],[(6,27)],[(7,28)],[(8,29)]] [(1,22),(9,30)] mo (by kernel_rfl) [5,4,3,6] O (by kernel_rfl) (by kernel_rfl) (by kernel_rfl) (kp [5,4,3,6] O) MO ?_ ?_
   ·refine AT.cons O DM (AT.cons O DM (AT.cons O ?_ ?_))
    ·intro Z s o;have d:=o.st z;have gr:=gp.mono (o.ext z.1);have gs:=gr.fl LV;refine AU ?_;exact BR gs
    refine AT.cons O ?_ ?_
    ·intro Z s o;intro gu b8;have d:=o.st z;have b8:Pt _ _ (BX.sl (BX.sl AW)) gu c.Af:=b8;obtain⟨k2,_,gv⟩:=b8.ll;refine AU ?_;exact BR gv
    refine AT.cons O DM (AT.cons O ?_ ?_)
    ·intro Z s o;intro gw b9 k3 gx;have d:=o.st z;have b9:Sl _ _ (BX.sl AW) gw c.Af:=b9;obtain⟨rfl,k4⟩:=gx;refine AU ?_;refine MK O O b9 sl_67.1 dg O λk5 gy=>AU ?_;exact BR gy
    refine AT.cons O ?_ ?_
    ·intro Z s o;intro gz ca;have d:=o.st z;have ca:Pt _ _ (BX.sl AW) gz bx:=ca;obtain⟨k8,_,g0⟩:=ca.ll;refine AU ?_;exact BR g0
    refine AT.cons O ?_ ?_
    ·intro Z s o;intro g1 a1;have d:=SN.st z o;have a1:=Sl.sn df a1;have a1:Sl _ _ AW g1 bx:=a1;refine Cj O O O YT O d (Jt (St.all _) (a1.mono d.ea.1 d.ea.2) di) λk9 hj hk g2 hl b0 p=>?_;obtain⟨rfl,dk,g3⟩:=p;exact B7 ⟨b0.siz,λb hb=>b0.same b hb⟩ ⟨O,dk⟩
    refine AT.cons O ?_ ?_
    ·intro Z s o;intro hm dl;have d:=SN.st z o;obtain⟨rfl,dm⟩:=dl;refine Cj O O O RH O d (EJ (St.all _) dm dj) λhn ho hp g4 hq b1 p=>?_;obtain⟨rfl,⟨dn,dp⟩,g5⟩:=p;exact B7 ⟨b1.siz,λb hb=>b1.same b hb⟩ ⟨O,dn,dp⟩
    refine AT.cons O ?_ ?_
    ·intro Z s o;intro hr dq;have d:=SN.st z o;obtain⟨rfl,dr,ds⟩:=dq;have cb:=d.fz;refine IB (cs:=[vI W.B,vI W.A]) Ng O O O O O O O cb λht hu cc hv=>?_;have cd:=cc.bxos (r:=AC) (l:=([W]:List AB)) .head ⟨_,_,O,⟨O,⟨dr,ds⟩⟩,O⟩ (by simp [maxLen]);obtain⟨hx,ce,hy,dt⟩:=cd.pubs .head;have a2:=Fz.done o EX ce;exact B7 a2.1 ⟨Sl.mono' dt a2.2,_,O⟩
    exact trivial
   intro hz du h0 dv h1 a3;have cf:=SN.st z du;cases dv;obtain⟨a3,g6,rfl⟩:=a3;obtain⟨cg,E⟩:=Qw E;refine Lt (r:=AC) (l:=ai) (xs:=([W]:List AB)) O O Ng O (Sl.src a3) O cg O cf (λ_=> .head) λh2 h4 a4 h5=>AU ?_;obtain⟨a5,aq,rfl,h6⟩:=a4.oslen mh;refine HH (cs':=[vI c.H,(.slice a5 (ai++([W]:List AB)).length aq),vN,vN]) O O O O ty_32.1 O a4 (.tail .head) O O λh7 ch h8=>AU ?_;refine BP (AU ?_);refine WF.nil (λX Y t u=>?_);exact⟨(BV (ah+1)),(.slice a5 (ai++([W]:List AB)).length aq),(ai++([W]:List AB)),_,_,t.sub (kp [5,4,3,6] O),u,ch,EX,(BY _),E⟩
  refine WF.exit O (λX Y t u=>?_);exact⟨az,ai,_,_,t.sub (kp [5,4,3] O),u,z,gn,E⟩
 rintro X Y ⟨G,V,a6,a7,t,u,ci,h9,E⟩;refine AI ?_ t u;clear t u Y X;rw[JF] at E;refine AU ?_;refine AN (λa w=>∃(J:Value) (M:List AY),IV B a6 a7 (93,[]) a w [(5,vP y 0),(4,vP F 0),(3,q8)] (OS BU 93 J M::OS AC 51 G V::Bx y 36 [vI c.H,G,J,vN]::Bx F 36 [vI 0,vN,vN,vN]::L) λ_ _=>IF N c V M=some r) ?_ ?_
 ·refine BA (λn3=>λa w=>∃(D:Int) (aj:Value) (ar:List AY),IV B a6 a7 (93,[]) a w [(5,vP y 0),(4,vP F 0),(3,q8),(7,vI D)] (OS BU 93 aj ar::OS AC 51 G V::Bx y 36 [vI c.H,G,aj,vN]::Bx F 36 [vI 0,vN,vN,vN]::L) λ_ _=>AA D∧Gv N c (IF N c V) n3 D ar=some r) N ?_ ?_ ?_
  ·intro X Y t u;have cj:=ci.nil BU 93;exact⟨0,(vN),([]:List AY),_,_,t.sub (kp [5,4,3,7] O),u,cj,(CX.refl a6 a7),(iq (n:=0) O),E⟩
  ·rintro X Y ⟨_,_,_,_,_,_,_,_,_,_,E⟩;rw[Gv] at E;cases E
  rintro n3 X Y ⟨D,aj,ar,Q,ia,t,u,an,dw,ib,E⟩;refine AI ?_ t u;clear t u Y X;rw[Gv] at E;have a8:=bw.nw;refine AU ?_;refine AE O E (λdx E=>?_) (λdx E=>?_)
  ·refine AU ?_;refine BG (AU ?_);refine WF.rc (.inl O) an ?_;have dy:=a8.fl BQ.f_Queue;obtain⟨ic,_,dz⟩:=dy.ll;refine AU ?_;refine AO E O O dz sl_68.1 O λid E ie d0=>?_;have d1:=d0.fl PE;obtain⟨ig,_,d2⟩:=d1.ll;refine AU ?_;refine A5 E O O O YT O (λau ck h' o=>Jt (St.all h') (d2.mono' (o.all an.1)) ck) λau E d3=>?_;have ih:=d3;refine AU ?_;refine BB (kp [8,5,4,3,7] O) λii k ij=>?_;obtain⟨ab,cl,E⟩:=bd E;obtain⟨ac,cm,E⟩:=bd E;obtain⟨ak,cn,E⟩:=bd E;refine MJ (m:=[(8,vI au),(5,vP y 0),(4,vP F 0),(3,q8),(7,vI D)]) 16 (λi v s=>match i with|0=>v=vP y 2|1=>v=aj|2=>Pt Q s (BX.sl Gq) v c.E|3=>Sl Q s Gq v c.E|4=>v=vI D∧AA D|5=>Pt Q s Gq v ab|6=>Pt Q s AW v ab.K|7=>v=vI ab.K∧AA ab.K|8=>Pt Q s (BX.sl Gq) v c.E|9=>Sl Q s Gq v c.E|10=>v=vI D∧AA D|11=>Pt Q s Gq v ac|12=>Pt Q s AW v ac.C|13=>v=vI ac.C∧AA ac.C|14=>v=vI au∧AA au|15=>v= .agg #[vI ak.B,vI ak.A]∧AA ak.B∧AA ak.A|_=>False) [[],[(0,47)],[],[(2,49)],[],[(3,50),(4,51)],[(5,52)],[(6,53)],[],[(8,55)],[],[(9,56),(10,57)],[(11,58)],[(12,59)],[],[(14,61)]] [(1,48),(7,54),(13,60),(15,62)] mo (by kernel_rfl) [8,5,4,3,7] O (by kernel_rfl) (by kernel_rfl) (by kernel_rfl) (kp [8,5,4,3,7] O) MO ?_ ?_
   ·refine AT.cons O DM (AT.cons O DM (AT.cons O ?_ ?_))
    ·intro Z s o;have d:=o.st k;have d4:=a8.nw;have d5:=d4.fl BQ.f_Queue;refine AU ?_;exact BR d5
    refine AT.cons O ?_ ?_
    ·intro Z s o;intro d6 a9;have d:=o.st k;have a9:Pt _ _ (BX.sl Gq) d6 c.E:=a9;obtain⟨ik,_,d7⟩:=a9.ll;refine AU ?_;exact BR d7
    refine AT.cons O DM (AT.cons O ?_ ?_)
    ·intro Z s o;intro d8 ba il d9;have d:=o.st k;have ba:Sl _ _ Gq d8 c.E:=ba;obtain⟨rfl,im⟩:=d9;refine AU ?_;refine MK O O ba sl_68.1 cl O λio eb=>AU ?_;exact BR eb
    refine AT.cons O ?_ ?_
    ·intro Z s o;intro ec bb;have d:=o.st k;have bb:Pt _ _ Gq ec ab:=bb;have ed:=bb.fl Hp.f_At;refine AU ?_;exact BR ed
    refine AT.cons O ?_ ?_
    ·intro Z s o;intro ee bc;have d:=o.st k;have bc:Pt _ _ AW ee ab.K:=bc;have ef:=bc.i;refine AU ?_;exact BR ⟨O,ef⟩
    refine AT.cons O ?_ ?_
    ·intro Z s o;have d:=o.st k;have eg:=a8.nw;have eh:=eg.fl BQ.f_Queue;refine AU ?_;exact BR eh
    refine AT.cons O ?_ ?_
    ·intro Z s o;intro ei be;have d:=o.st k;have be:Pt _ _ (BX.sl Gq) ei c.E:=be;obtain⟨ip,_,ej⟩:=be.ll;refine AU ?_;exact BR ej
    refine AT.cons O DM (AT.cons O ?_ ?_)
    ·intro Z s o;intro ek bf ir el;have d:=o.st k;have bf:Sl _ _ Gq ek c.E:=bf;obtain⟨rfl,it⟩:=el;refine AU ?_;refine MK O O bf sl_68.1 cm O λiu em=>AU ?_;exact BR em
    refine AT.cons O ?_ ?_
    ·intro Z s o;intro en bg;have d:=o.st k;have bg:Pt _ _ Gq en ac:=bg;have eo:=bg.fl Hp.f_To;refine AU ?_;exact BR eo
    refine AT.cons O ?_ ?_
    ·intro Z s o;intro ep bh;have d:=o.st k;have bh:Pt _ _ AW ep ac.C:=bh;have eq:=bh.i;refine AU ?_;exact BR ⟨O,eq⟩
    refine AT.cons O DM (AT.cons O ?_ ?_)
    ·intro Z s o;intro iv er;have d:=SN.st k o;obtain⟨rfl,es⟩:=er;refine Cj O O O RH O d (EJ (St.all _) es cn) λiw iy iz g7 i0 b2 p=>?_;obtain⟨rfl,⟨eu,ev⟩,g8⟩:=p;exact B7 ⟨b2.siz,λb hb=>b2.same b hb⟩ ⟨O,eu,ev⟩
    exact trivial
   intro i1 ew i2 ey i3 ez i4 e0 i5 e1;have co:=SN.st k ew;cases ey;obtain⟨rfl,e2⟩:=ez;obtain⟨rfl,e3⟩:=e0;obtain⟨rfl,e4,e6⟩:=e1;obtain⟨bi,cp,E⟩:=bd E;refine KG O O O bW O (LY co e2 e3 (AC.mk (x:=ak) ⟨e4,e6⟩) cp) λi6 i7 i8 i9 p=>?_;have bj:=p;refine AU ?_;obtain⟨bk,av,rfl,ja⟩:=bj.oslen mh;refine HH (cs':=[vI c.H,G,(.slice bk bi.length av),vN]) O O O O ty_33.1 O bj (.tail (.tail .head)) O O λjb cq jc=>AU ?_;refine BP (AU ?_);refine WF.nil (λX Y t u=>?_);exact⟨(BV (D+1)),(.slice bk bi.length av),bi,_,_,t.sub (kp [5,4,3,7] O),u,cq,EX,(BY _),E⟩
  refine WF.exit O (λX Y t u=>?_);exact⟨aj,ar,_,_,t.sub (kp [5,4,3] O),u,an,dw,E⟩
 rintro X Y ⟨J,M,bl,bm,t,u,cr,jd,E⟩;refine AI ?_ t u;clear t u Y X;rw[IF] at E;refine AU ?_;refine AN (λa w=>∃(bn:Value) (aw:List AF),IV B bl bm (93,[]) a w [(5,vP y 0),(4,vP F 0)] (OS AJ 97 bn aw::OS BU 93 J M::OS AC 51 G V::Bx y 36 [vI c.H,G,J,bn]::Bx F 36 [vI 0,vN,vN,vN]::L) λ_ _=>KP N c V M aw=some r) ?_ ?_
 ·refine BA (λn5=>λa w=>∃(af:Int) (am:Value) (U:List AF),IV B bl bm (93,[]) a w [(5,vP y 0),(4,vP F 0),(3,q8),(9,vI af)] (OS AJ 97 am U::OS BU 93 J M::OS AC 51 G V::Bx y 36 [vI c.H,G,J,am]::Bx F 36 [vI 0,vN,vN,vN]::L) λ_ _=>AA af∧Gu N c (KP N c V M) n5 af U=some r) N ?_ ?_ ?_
  ·intro X Y t u;have ct:=cr.nil AJ 97;exact⟨0,(vN),([]:List AF),_,_,t.sub (kp [5,4,3,9] O),u,ct,(CX.refl bl bm),(iq (n:=0) O),E⟩
  ·rintro X Y ⟨_,_,_,_,_,_,_,_,_,_,E⟩;rw[Gu] at E;cases E
  rintro n5 X Y ⟨af,am,U,e7,je,t,u,bo,e8,jf,E⟩;refine AI ?_ t u;clear t u Y X;rw[Gu] at E;have e9:=bw.nw;refine AU ?_;refine AE O E (λfa E=>?_) (λfa E=>?_)
  ·refine AU ?_;refine BG ?_;have fb:=e9.fl Jq;obtain⟨jg,_,fc⟩:=fb.ll;refine AU ?_;refine AO E O O fc sl_69.1 O λq E jh fd=>?_;obtain⟨ji,_,fe⟩:=fd.lv;refine AU ?_;refine BZ Rl O bo λax jj cu ff=>?_;have fg:=fe.mono ff;obtain⟨rfl,⟨jk,jl⟩⟩:=FU.ex fg;refine BI O O O O ty_81.1 O cu .head O λfh I jm=>AU ?_;refine Nn (kp [10,5,4,3,9] O) ?_;obtain⟨g,cv,E⟩:=bd E;obtain⟨b3,cw,E⟩:=bd E;obtain⟨j,cx,E⟩:=bd E;refine MJ (m:=[(10,vP ax 0),(5,vP y 0),(4,vP F 0),(3,q8),(9,vI af)]) 13 (λi v s=>match i with|0=>v=vP y 3|1=>v=am|2=>v=vP ax 0|3=>v=vI q.P∧AA q.P|4=>v= .agg #[vI g.B,vI g.A]∧AA g.B∧AA g.A|5=>v=vP ax 1|6=>v=vI q.S∧AA q.S|7=>v=vP ax 3|8=>v= .bool q.N|9=>v=vI b3∧AA b3|10=>v= .agg #[vI j.B,vI j.A]∧AA j.B∧AA j.A|11=>v= .agg #[vI g.B,vI g.A,vI q.S,vI j.B,vI j.A]∧AA g.B∧AA g.A∧AA q.S∧AA j.B∧AA j.A|12=>Sl (SN e7 fh s) s AJ v ([(⟨g,q.S,j⟩:AF)]:List AF)∧∃ad,v= .slice (some ad) 1 1|_=>False) [[],[(0,77)],[],[(2,79)],[(3,80)],[],[(5,82)],[],[(7,84)],[(8,85)],[(9,86)],[(4,81),(6,83),(10,87)],[(11,88)]] [(1,78),(12,89)] mo (by kernel_rfl) [10,5,4,3,9] O (by kernel_rfl) (by kernel_rfl) (by kernel_rfl) (kp [10,5,4,3,9] O) MO ?_ ?_
   ·refine AT.cons O DM (AT.cons O DM (AT.cons O DM (AT.cons O DM (AT.cons O ?_ ?_))))
    ·intro Z s o;intro jn fi;have d:=SN.st I o;obtain⟨rfl,fj⟩:=fi;refine Cj O O O RH O d (EJ (St.all _) fj cv) λjo jp jq g9 jr b4 p=>?_;obtain⟨rfl,⟨fk,fm⟩,ha⟩:=p;exact B7 ⟨b4.siz,λb hb=>b4.same b hb⟩ ⟨O,fk,fm⟩
    refine AT.cons O DM (AT.cons O DM (AT.cons O DM (AT.cons O DM (AT.cons O ?_ ?_))))
    ·intro Z s o;intro js fn;have d:=SN.st I o;cases fn;refine Cj O O O iO O d (NI (St.all _) cw) λjt ju jv hc jw b5 p=>?_;obtain⟨rfl,fo,hd⟩:=p;exact B7 ⟨b5.siz,λb hb=>b5.same b hb⟩ ⟨O,fo⟩
    refine AT.cons O ?_ ?_
    ·intro Z s o;intro jx fp;have d:=SN.st I o;obtain⟨rfl,fq⟩:=fp;refine Cj O O O RH O d (EJ (St.all _) fq cx) λjy jz j0 he j1 b6 p=>?_;obtain⟨rfl,⟨fr,fs⟩,hg⟩:=p;exact B7 ⟨b6.siz,λb hb=>b6.same b hb⟩ ⟨O,fr,fs⟩
    refine AT.cons O ?_ ?_
    ·intro Z s o;intro j2 ft j3 fu j4 fv;have d:=o.st I;obtain⟨rfl,fw,fx⟩:=ft;obtain⟨rfl,fy⟩:=fu;obtain⟨rfl,f0,f1⟩:=fv;refine AU ?_;refine CT (cs:=[vI g.B,vI g.A,vI q.S,vI j.B,vI j.A]) gW O O O (AU ?_);exact BR ⟨O,fw,fx,fy,f0,f1⟩
    refine AT.cons O ?_ ?_
    ·intro Z s o;intro j5 f2;have d:=SN.st I o;obtain⟨rfl,f3,f4,f5,f6,f7⟩:=f2;have cb:=d.fz;refine IB (cs:=[vI g.B,vI g.A,vI q.S,vI j.B,vI j.A]) S3 O O O O O O O cb λj6 j7 cy j8=>?_;have cz:=cy.bxos (r:=AJ) (l:=([(⟨g,q.S,j⟩:AF)]:List AF)) .head ⟨_,_,O,⟨O,⟨f3,f4,f5,f6,f7⟩⟩,O⟩ (by simp [maxLen]);obtain⟨j9,c0,ka,f8⟩:=cz.pubs .head;have bp:=Fz.done o EX c0;exact B7 bp.1 ⟨Sl.mono' f8 bp.2,_,O⟩
    exact trivial
   intro kb f9 kc ga kd bq;have c1:=SN.st I f9;cases ga;obtain⟨bq,hi,rfl⟩:=bq;obtain⟨c2,E⟩:=Qw E;refine Lt (r:=AJ) (l:=U) (xs:=([(⟨g,q.S,j⟩:AF)]:List AF)) O O S3 O (Sl.src bq) O c2 O c1 (λ_=>(.tail .head)) λke kf br kg=>AU ?_;obtain⟨bs,ay,rfl,kh⟩:=br.oslen (mt mh);refine HH (cs':=[vI c.H,G,J,(.slice bs (U++([(⟨g,q.S,j⟩:AF)]:List AF)).length ay)]) O O O O ty_34.1 O br (.tail (.tail (.tail (.tail .head)))) O O λki c3 kj=>AU ?_;refine BP (AU ?_);refine WF.nil (λX Y t u=>?_);have c4:=c3.sel [1,1,1,1,1] 1 O;exact⟨(BV (af+1)),(.slice bs (U++([(⟨g,q.S,j⟩:AF)]:List AF)).length ay),(U++([(⟨g,q.S,j⟩:AF)]:List AF)),_,_,t.sub (kp [5,4,3,9] O),u,c4,EX,(BY _),E⟩
  refine WF.exit O (λX Y t u=>?_);exact⟨am,U,_,_,t.sub (kp [5,4] O),u,bo,e8,E⟩
 rintro X Y ⟨bn,aw,kk,kl,t,u,ag,km,E⟩;refine AI ?_ t u;clear t u Y X;rw[KP] at E;refine AU ?_;refine G1 O O O (IL O (IL (ag.osone (mt (mt mh))) (IL (ag.osone (mt mh)) (IL (ag.osone mh) Ru)))) ty_36.1 O ag (.tail (.tail (.tail (.tail .head)))) O λkn c5 ko=>AU ?_;refine WF.ret (λX Y t u=>?_);obtain⟨kq,c6,kr,gb⟩:=c5.pubs (.tail (.tail .head));obtain⟨ks,c7,kt,gc⟩:=c6.pubs (.tail .head);obtain⟨ku,c8,ge,gf⟩:=c7.pubs .head;have bt:=c8.sel [1] 1 O;have gg:=gb.nw;have gh:=gc.mono' ge;have c9:=bt.drop .head;cases E;exact Jw t O u (Hr (NS t u bt O mh ty_36.1 O) Jr) O EX ⟨(DD.mk (x:=(⟨c.H,V,M,aw⟩:AX)) gm gg gh gf),c9⟩
def Kh (H:St S L h) {b:Value}{g:(List AB)}(d:Sl S h AC b g) {c:Value}{i:(List AB)}(m:Sl S h AC c i) {r:Bool}(E:Fu N g i=some r):
 CA prog 29 #[b,c] S h (λv I h'=>v= .bool r∧St I (L) h'):=by
 refine A8 26 func29 O ntmps29 O λB=>?_;rw[Fu] at E;refine AU ?_;refine AE O E (λJ E=>?_) (λJ E=>?_)
 ·exact RT
 refine AU ?_;refine AN (λa w=>IV B S h (26,[]) a w [] (L) λ_ _=>HG N=some r) ?_ ?_
 ·refine BA (λF=>λa w=>∃(s:Int),IV B S h (26,[]) a w [(0,b),(1,c),(5,vI s)] (L) λ_ _=>AA s∧D0 N g i (HG N) F s=some r) N ?_ ?_ ?_
  ·intro p q j k;exact⟨0,_,_,j.sub (kp [0,1,5] O),k,H,(CX.refl S h),(iq (n:=0) O),E⟩
  ·rintro p q ⟨_,_,_,_,_,_,_,_,E⟩;rw[D0] at E;cases E
  rintro F p q ⟨s,S8,h9,j,k,o,l,r7,E⟩;refine AI ?_ j k;clear j k q p;rw[D0] at E;have K:=d.mono' l;refine AU ?_;refine AE O E (λt E=>?_) (λt E=>?_)
  ·refine AU ?_;refine BG (AU ?_);refine JL (.inr ⟨mo,by kernel_rfl⟩) (AU ?_);have u:=d.mono' l;refine AO E O O u sl_32.1 O λM E Q x=>?_;obtain⟨U,_,y⟩:=x.lv;refine AU ?_;have z:=m.mono' l;refine AO E O O z sl_32.1 O λV E W A=>?_;obtain⟨X,_,C⟩:=A.lv;refine AU ?_;obtain⟨rfl,⟨Y,Z⟩⟩:=AC.ex y;obtain⟨rfl,⟨ab,ac⟩⟩:=AC.ex C;refine nT O O R8 O O O O (AU ?_);refine AE O E (λD E=>?_) (λD E=>?_)
   ·exact RT
   refine AU ?_;refine BP (AU ?_);refine WF.nil (λp q j k=>?_);exact⟨(BV (s+1)),_,_,j.sub (kp [0,1,5] O),k,o,l,(BY _),E⟩
  refine WF.exit O (λp q j k=>?_);exact⟨_,_,j.sub PJ,k,o,l,E⟩
 rintro p q ⟨ad,ae,j,k,G,af,E⟩;refine AI ?_ j k;clear j k q p;rw[HG] at E;exact RT
def My (hs:St S L h) {l:Value}{d:AX}(A:Rd S h DD l d) {m:Value}{g:AX}(C:Rd S h DD m g) {r:Bool}(E:IU N d g=some r):
 CA prog 23 #[l,m] S h (λv S' h'=>v= .bool r∧St S' (L) h'):=by
 refine A8 76 func23 O ntmps23 O λB=>?_;rw[IU] at E;refine AU ?_;refine A6 O A CE O hs λq1 S2 h3 ag e5 k6=>?_;have k7:=C.mono e5;refine A6 O k7 CE O ag λq8 S9 b1 t ah p=>AU ?_;refine WF.rc (.inl O) t ?_;have q:=k6.mono ah;have ai:=q.fl AX.f_Vol;obtain⟨b2,_,aj⟩:=ai.ll;have ak:=p.fl AX.f_Vol;obtain⟨b3,_,al⟩:=ak.ll;refine AU ?_;refine BE E O O O bY O (λam I h' o=>Kh (St.all h') (aj.mono' (o.all t.1)) (al.mono' (o.all t.1)) I) λam E=>AU ?_;refine BB (kp [5,3,2] O) λG J s=>?_;have b4:=q.mono s;have b5:=p.mono s;have b6:=q.mono s;have b7:=p.mono s;have b8:=q.mono s;have b9:=p.mono s;refine AU ?_;refine AE O E (λan E=>?_) (λan E=>?_)
 ·exact RT
 refine AU ?_;refine AN (λa w=>IV B S9 G (76,[]) a w [(3,q8),(2,q1)] (L) λ_ _=>Ft N d g=some r) ?_ ?_
 ·refine BA (λn1=>λa w=>∃(u:Int),IV B S9 G (76,[]) a w [(3,q8),(2,q1),(6,vI u)] (L) λ_ _=>AA u∧D6 N d g (Ft N d g) n1 u=some r) N ?_ ?_ ?_
  ·intro j k b c;exact⟨0,_,_,b.sub (kp [3,2,6] O),c,J,(CX.refl S9 G),(iq (n:=0) O),E⟩
  ·rintro j k ⟨_,_,_,_,_,_,_,_,E⟩;rw[D6] at E;cases E
  rintro n1 j k ⟨u,ca,cb,b,c,D,K,cc,E⟩;refine AI ?_ b c;clear b c k j;rw[D6] at E;have ao:=q.nw;refine AU ?_;refine AE O E (λap E=>?_) (λap E=>?_)
  ·refine AU ?_;refine BG (AU ?_);refine JL (.inr ⟨mo,by kernel_rfl⟩) ?_;have aq:=ao.fl AX.f_Queue;obtain⟨cd,_,ar⟩:=aq.ll;refine AU ?_;refine AO E O O ar sl_33.1 O λce E cf au=>?_;obtain⟨cg,_,av⟩:=au.lv;have aw:=p.nw;have ax:=aw.fl AX.f_Queue;obtain⟨ch,_,ay⟩:=ax.ll;refine AU ?_;refine AO E O O ay sl_33.1 O λci E cj az=>?_;obtain⟨ck,_,a0⟩:=az.lv;refine AU ?_;obtain⟨rfl,⟨a2,a3,a4,a5⟩⟩:=BU.ex av;obtain⟨rfl,⟨a6,a7,a8,a9⟩⟩:=BU.ex a0;refine dQ O O lH O O O O (AU ?_);refine AE O E (λM E=>?_) (λM E=>?_)
   ·exact RT
   refine AU ?_;refine BP (AU ?_);refine WF.nil (λj k b c=>?_);exact⟨(BV (u+1)),_,_,b.sub (kp [3,2,6] O),c,D,K,(BY _),E⟩
  refine WF.exit O (λj k b c=>?_);exact⟨_,_,b.sub (kp [3,2] O),c,D,K,E⟩
 rintro j k ⟨x,y,b,c,H,ba,E⟩;refine AI ?_ b c;clear b c k j;rw[Ft] at E;refine AU ?_;refine AN (λa w=>IV B x y (76,[]) a w [] (L) λ_ _=>IN N=some r) ?_ ?_
 ·refine BA (λn3=>λa w=>∃(i:Int),IV B x y (76,[]) a w [(3,q8),(2,q1),(7,vI i)] (L) λ_ _=>AA i∧Ed N d g (IN N) n3 i=some r) N ?_ ?_ ?_
  ·intro j k b c;exact⟨0,_,_,b.sub (kp [3,2,7] O),c,H,(CX.refl x y),(iq (n:=0) O),E⟩
  ·rintro j k ⟨_,_,_,_,_,_,_,_,E⟩;rw[Ed] at E;cases E
  rintro n3 j k ⟨i,bb,bc,b,c,z,F,be,E⟩;refine AI ?_ b c;clear b c k j;rw[Ed] at E;have Q:=q.nw;refine AU ?_;refine AE O E (λU E=>?_) (λU E=>?_)
  ·refine AU ?_;refine BG (AU ?_);refine JL (.inr ⟨mo,by kernel_rfl⟩) ?_;have V:=Q.fl AX.f_Links;obtain⟨bf,_,W⟩:=V.ll;refine AU ?_;refine AO E O O W sl_34.1 O λbg E bh X=>?_;obtain⟨bi,_,Y⟩:=X.lv;have Z:=p.nw;have ab:=Z.fl AX.f_Links;obtain⟨bj,_,ac⟩:=ab.ll;refine AU ?_;refine AO E O O ac sl_34.1 O λbk E bl ad=>?_;obtain⟨bm,_,ae⟩:=ad.lv;refine AU ?_;obtain⟨rfl,⟨bn,bo,bp,bq,br⟩⟩:=AJ.ex Y;obtain⟨rfl,⟨bs,bt,bu,bv,bw⟩⟩:=AJ.ex ae;refine dQ O O lG O O O O (AU ?_);refine AE O E (λaf E=>?_) (λaf E=>?_)
   ·exact RT
   refine AU ?_;refine BP (AU ?_);refine WF.nil (λj k b c=>?_);exact⟨(BV (i+1)),_,_,b.sub (kp [3,2,7] O),c,z,F,(BY _),E⟩
  refine WF.exit O (λj k b c=>?_);exact⟨_,_,b.sub PJ,c,z,F,E⟩
 rintro j k ⟨bx,bz,b,c,a1,b0,E⟩;refine AI ?_ b c;clear b c k j;rw[IN] at E;exact RT
def KR (i:St S L h) {a:Value}{d:AB}(c:Rd S h AC a d) {b:Int}(g:AA b) {r:Bool}(E:GG N d b=some r):
 CA prog 75 #[a,vI b] S h (λv j h'=>v= .bool r∧St j (L) h'):=by
 refine A8 15 func75 O ntmps75 O λB=>?_;rw[GG] at E;refine AU ?_;exact A6 O c CE O i λl m n k o p=>RT
def Pc (hs:St S L h) {g:Value}{l:(List Hp)}(i:Sl S h Gq g l) {b:Int}(y:AA b) {c:Int}(z:AA c) {r:Int}(E:JD N l b c=some r):
 CA prog 76 #[g,vI b,vI c] S h (λv S' h'=>v=vI r∧AA r∧St S' (L) h'):=by
 refine A8 42 func76 O ntmps76 O λB=>?_;rw[JD] at E;refine AU ?_;refine AN (λa w=>∃(Q:Int),IV B S h (42,[]) a w [(7,vI Q)] (L) λ_ _=>AA Q∧Dm N Q=some r) ?_ ?_
 ·refine BA (λU=>λa w=>∃(x:Int) (u:Int),IV B S h (42,[]) a w [(0,g),(1,vI b),(2,vI c),(7,vI x),(8,vI u)] (L) λ_ _=>AA x∧AA u∧DE N l b c (Dm N) U x u=some r) N ?_ ?_ ?_
  ·intro p q j k;exact⟨0,0,_,_,j.sub (kp [0,1,2,7,8] O),k,hs,(CX.refl S h),(iq (n:=0) O),(iq (n:=0) O),E⟩
  ·rintro p q ⟨_,_,_,_,_,_,_,_,_,_,E⟩;rw[DE] at E;cases E
  rintro U p q ⟨x,u,A,C,j,k,m,s,V,ao,E⟩;refine AI ?_ j k;clear j k q p;rw[DE] at E;have ap:=i.mono' s;refine AU ?_;refine AE O E (λW E=>?_) (λW E=>?_)
  ·refine AU ?_;refine AN (λa w=>∃(t:Int),IV B A C (42,[]) a w [(0,g),(1,vI b),(2,vI c),(8,vI u),(7,vI t)] (L) λ_ _=>AA t∧H1 N u (DE N l b c (Dm N) U) t=some r) ?_ ?_
   ·refine AU ?_;have X:=i.mono' s;refine AO E O O X sl_68.1 O λY E aq ar=>AU ?_;obtain⟨Z,d,E⟩:=bd E;refine A0 8 31 (.bool Z) ?_ ?_
    ·cases D:(decide (Y.K=b))
     ·have d:=HX D d;cases d;exact BM O O
     have d:=HU D d;refine AU ?_;have ab:=i.mono' s;refine AO d O O ab sl_68.1 O λau d av aw=>AU ?_;cases d;exact AZ O
    refine AU ?_;refine AE O E (λac E=>?_) (λac E=>?_)
    ·refine AU ?_;refine WF.rc (.inl O) m (AU ?_);have ad:=i.mono' s;refine AO E O O ad sl_68.1 O λax E ay ae=>?_;have af:=ae.fl PE;obtain⟨az,_,ag⟩:=af.ll;refine AU ?_;refine A5 E O O O YT O (λah F h' o=>Jt (St.all h') (ag.mono' (o.all m.1)) F) λah E ai=>?_;have aj:=ai;refine AU ?_;refine BB (kp [9,0,1,2,7,8] O) λa0 G a1=>WF.rc (.inl O) G (AU ?_);refine A5 E O O O PM O (λH I h' o=>DU (St.all h') V aj I) λH E ak=>?_;have al:=ak;refine AU ?_;refine BB (kp [7,0,1,2,8] O) λa2 J a3=>WF.nil (λp q j k=>?_);exact⟨H,_,_,j.sub (kp [0,1,2,8,7] O),k,J,EX,al,E⟩
    refine AU ?_;refine WF.nil (λp q j k=>?_);exact⟨x,_,_,j.sub (kp [0,1,2,8,7] O),k,m,(CX.refl A C),V,E⟩
   rintro p q ⟨t,a4,a5,j,k,M,a6,am,E⟩;refine AI ?_ j k;clear j k q p;rw[H1] at E;refine AU ?_;refine WF.nil (λp q j k=>?_);exact⟨t,(BV (u+1)),_,_,j.sub (kp [0,1,2,7,8] O),k,M,EX,am,(BY _),E⟩
  refine WF.exit O (λp q j k=>?_);exact⟨x,_,_,j.sub (kp [7] O),k,m,s,V,E⟩
 rintro p q ⟨Q,a7,a8,j,k,an,a9,r2,E⟩;refine AI ?_ j k;clear j k q p;rw[Dm] at E;exact RT
def Pd (I:St S L h) {g:Value}{j:(List AY)}(i:Sl S h BU g j) {b:Int}(p:AA b) {d:Int}(q:AA d) {r:Bool}(E:IE N j b d=some r):
 CA prog 77 #[g,vI b,vI d] S h (λv J h'=>v= .bool r∧St J (L) h'):=by
 refine A8 30 func77 O ntmps77 O λB=>?_;rw[IE] at E;refine AU ?_;refine AN (λa w=>IV B S h (30,[]) a w [] (L) λ_ _=>H2 N=some r) ?_ ?_
 ·refine BA (λG=>λa w=>∃(s:Int),IV B S h (30,[]) a w [(0,g),(1,vI b),(2,vI d),(7,vI s)] (L) λ_ _=>AA s∧FD N j b d (H2 N) G s=some r) N ?_ ?_ ?_
  ·intro m o k l;exact⟨0,_,_,k.sub (kp [0,1,2,7] O),l,I,(CX.refl S h),(iq (n:=0) O),E⟩
  ·rintro m o ⟨_,_,_,_,_,_,_,_,E⟩;rw[FD] at E;cases E
  rintro G m o ⟨s,S5,h6,k,l,t,u,r4,E⟩;refine AI ?_ k l;clear k l o m;rw[FD] at E;have k9:=i.mono' u;refine AU ?_;refine AE O E (λy E=>?_) (λy E=>?_)
  ·refine AU ?_;refine BG (AU ?_);have z:=i.mono' u;refine AO E O O z sl_33.1 O λA E M Q=>AU ?_;obtain⟨C,c,E⟩:=bd E;refine A0 8 29 (.bool C) ?_ ?_
   ·cases x:(decide (A.K=b))
    ·have c:=HX x c;cases c;exact BM O O
    have c:=HU x c;refine AU ?_;have D:=i.mono' u;refine AO c O O D sl_33.1 O λU c V W=>AU ?_;cases c;exact AZ O
   refine AU ?_;refine AE O E (λF E=>?_) (λF E=>?_)
   ·exact RT
   refine AU ?_;refine BP (AU ?_);refine WF.nil (λm o k l=>?_);exact⟨(BV (s+1)),_,_,k.sub (kp [0,1,2,7] O),l,t,u,(BY _),E⟩
  refine WF.exit O (λm o k l=>?_);exact⟨_,_,k.sub PJ,l,t,u,E⟩
 rintro m o ⟨X,Y,k,l,H,Z,E⟩;refine AI ?_ k l;clear k l o m;rw[H2] at E;exact RT
def Qy (hs:St S L h) {y:Value}{ab:AH}(V:Rd S h B5 y ab) {z:Value}{g:AX}(W:Rd S h DD z g) {A:Value}{j:BQ}(X:Rd S h DX A j) {r:Bool}(E:KA N ab g j=some r):
 CA prog 27 #[y,z,A] S h (λv S' h'=>v= .bool r∧St S' (L) h'):=by
 refine A8 143 func27 O ntmps27 O λB=>?_;rw[KA] at E;refine AU ?_;refine A6 O V CE O hs λq1 S2 h3 c2 e5 k6=>?_;have k7:=W.mono e5;refine A6 O k7 CE O c2 λq8 S9 fb a3 fc c3=>?_;have c4:=X.nw;refine A6 O c4 CE O a3 λt ai aj a4 c5 Y=>?_;have Z:=c3.mono c5;have fd:=k6.nw;have fe:=k6.nw;refine AU ?_;refine AE O E (λc6 E=>?_) (λc6 E=>?_)
 ·exact RT
 refine AU ?_;refine AN (λa w=>IV B ai aj (143,[]) a w [(5,t),(4,q8)] (L) λ_ _=>GW N g j=some r) ?_ ?_
 ·refine BA (λn1=>λa w=>∃(C:Int),IV B ai aj (143,[]) a w [(5,t),(4,q8),(7,vI C)] (L) λ_ _=>AA C∧Ey N g j (GW N g j) n1 C=some r) N ?_ ?_ ?_
  ·intro k l c d;exact⟨0,_,_,c.sub (kp [5,4,7] O),d,a4,(CX.refl ai aj),(iq (n:=0) O),E⟩
  ·rintro k l ⟨_,_,_,_,_,_,_,_,E⟩;rw[Ey] at E;cases E
  rintro n1 k l ⟨C,ff,fg,c,d,D,ak,fh,E⟩;refine AI ?_ c d;clear c d l k;rw[Ey] at E;have c7:=Z.mono ak;refine AU ?_;refine AE O E (λc8 E=>?_) (λc8 E=>?_)
  ·refine AU ?_;refine BG (AU ?_);refine WF.rc (.inl O) D ?_;have c9:=Y.mono ak;have da:=c9.fl LV;obtain⟨fi,_,db⟩:=da.ll;refine AU ?_;refine AO E O O db sl_67.1 O λfj E fk dc=>?_;obtain⟨fm,_,dd⟩:=dc.ll;refine AU ?_;refine A5 E O O O YT O (λde a5 h' o=>Jt (St.all h') (dd.mono' (o.all D.1)) a5) λde E df=>?_;have dg:=df;refine AU ?_;refine BB (kp [8,5,4,7] O) λfn ac dh=>AU ?_;refine WF.rc (.inl O) ac ?_;have di:=c7.mono dh;have dj:=di.fl AX.f_Vol;obtain⟨fo,_,dk⟩:=dj.ll;refine AU ?_;refine AO E O O dk sl_32.1 O λfp E fq dl=>?_;obtain⟨fr,_,dm⟩:=dl.lv;refine AU ?_;refine BE E O O O YS O (λdn a6 h' o=>KR (St.all h') (dm.mono (o.all ac.1)) dg a6) λdn E=>AU ?_;refine BB (kp [57,5,4,7] O) λfs a7 ft=>AE O E (λa8 E=>?_) (λa8 E=>?_)
   ·exact RT
   refine AU ?_;refine BP (AU ?_);refine WF.nil (λk l c d=>?_);exact⟨(BV (C+1)),_,_,c.sub (kp [5,4,7] O),d,a7,EX,(BY _),E⟩
  refine WF.exit O (λk l c d=>?_);exact⟨_,_,c.sub (kp [5,4] O),d,D,ak,E⟩
 rintro k l ⟨F,H,c,d,am,dq,E⟩;refine AI ?_ c d;clear c d l k;rw[GW] at E;refine AU ?_;refine AN (λa w=>IV B F H (143,[]) a w [(5,t),(4,q8)] (L) λ_ _=>GV N g j=some r) ?_ ?_
 ·refine BA (λn3=>λa w=>∃(p:Int),IV B F H (143,[]) a w [(5,t),(4,q8),(9,vI p)] (L) λ_ _=>AA p∧Ex N g j (GV N g j) n3 p=some r) N ?_ ?_ ?_
  ·intro k l c d;exact⟨0,_,_,c.sub (kp [5,4,9] O),d,am,(CX.refl F H),(iq (n:=0) O),E⟩
  ·rintro k l ⟨_,_,_,_,_,_,_,_,E⟩;rw[Ex] at E;cases E
  rintro n3 k l ⟨p,dr,ds,c,d,I,a9,dt,E⟩;refine AI ?_ c d;clear c d l k;rw[Ex] at E;have ba:=Z.nw;refine AU ?_;refine AE O E (λbb E=>?_) (λbb E=>?_)
  ·refine AU ?_;refine BG ?_;have bc:=ba.fl AX.f_Queue;obtain⟨du,_,be⟩:=bc.ll;refine AU ?_;refine AO E O O be sl_33.1 O λbf E dv bg=>?_;obtain⟨dw,_,bh⟩:=bg.lv;refine AU ?_;refine BZ Sq O I λdx dy an bi=>?_;have bj:=bh.mono bi;obtain⟨rfl,⟨bk,bl,bm,bn⟩⟩:=BU.ex bj;refine BI O O O O ty_93.1 O an .head O λdz J d0=>AU ?_;refine WF.rc (.inl O) J ?_;have bo:=Y.nw;have bp:=bo.fl BQ.f_Queue;obtain⟨d1,_,bq⟩:=bp.ll;refine AU ?_;refine A5 E O O O sE O (λbr ao h' o=>Pc (St.all h') (bq.mono' (o.all J.1)) bk bl ao) λbr E bs=>?_;have bt:=bs;refine AU ?_;refine BB (kp [11,10,5,4,9] O) λd2 ap d3=>AU ?_;refine WF.rc (.inl O) ap (AU ?_);obtain⟨d4,aq,E⟩:=bd E;refine KN O O O YS O (λh' o=>KR (St.all h') (AC.mk (x:=bf.G) ⟨bm,bn⟩) bt aq) (AU ?_);refine BB (kp [81,5,4,9] O) λd5 ar d6=>AE O E (λbu E=>?_) (λbu E=>?_)
   ·exact RT
   refine AU ?_;refine BP (AU ?_);refine WF.nil (λk l c d=>?_);have au:=ar.drop .head;exact⟨(BV (p+1)),_,_,c.sub (kp [5,4,9] O),d,au,EX,(BY _),E⟩
  refine WF.exit O (λk l c d=>?_);exact⟨_,_,c.sub (kp [5,4] O),d,I,a9,E⟩
 rintro k l ⟨K,M,c,d,av,d7,E⟩;refine AI ?_ c d;clear c d l k;rw[GV] at E;refine AU ?_;refine AN (λa w=>IV B K M (143,[]) a w [(5,t),(4,q8)] (L) λ_ _=>GU N g j=some r) ?_ ?_
 ·refine BA (λn5=>λa w=>∃(q:Int),IV B K M (143,[]) a w [(5,t),(4,q8),(12,vI q)] (L) λ_ _=>AA q∧Ew N g j (GU N g j) n5 q=some r) N ?_ ?_ ?_
  ·intro k l c d;exact⟨0,_,_,c.sub (kp [5,4,12] O),d,av,(CX.refl K M),(iq (n:=0) O),E⟩
  ·rintro k l ⟨_,_,_,_,_,_,_,_,E⟩;rw[Ew] at E;cases E
  rintro n5 k l ⟨q,d8,d9,c,d,u,bv,ea,E⟩;refine AI ?_ c d;clear c d l k;rw[Ew] at E;have ad:=Y.nw;refine AU ?_;refine AE O E (λbw E=>?_) (λbw E=>?_)
  ·refine AU ?_;refine BG (AU ?_);refine WF.rc (.inr ⟨mo,by kernel_rfl⟩) u ?_;have bx:=Z.nw;have bz:=bx.fl AX.f_Queue;obtain⟨eb,_,b0⟩:=bz.ll;have b1:=ad.fl BQ.f_Queue;obtain⟨ec,_,b2⟩:=b1.ll;refine AU ?_;refine AO E O O b2 sl_68.1 O λed E ee b3=>?_;have b4:=b3.fl Hp.f_At;have b5:=b4.i;have b6:=ad.fl BQ.f_Queue;obtain⟨ef,_,b7⟩:=b6.ll;refine AU ?_;refine AO E O O b7 sl_68.1 O λeg E eh b8=>?_;have b9:=b8.fl Hp.f_To;have ca:=b9.i;refine AU ?_;refine BE E O O O sD O (λcb aw h' o=>Pd (St.all h') (b0.mono' (o.all u.1)) b5 ca aw) λcb E=>AU ?_;refine BB (kp [104,5,4,12] O) λei ax ej=>AE O E (λcc E=>?_) (λcc E=>?_)
   ·exact RT
   refine AU ?_;refine BP (AU ?_);refine WF.nil (λk l c d=>?_);exact⟨(BV (q+1)),_,_,c.sub (kp [5,4,12] O),d,ax,EX,(BY _),E⟩
  refine WF.exit O (λk l c d=>?_);exact⟨_,_,c.sub (kp [5,4] O),d,u,bv,E⟩
 rintro k l ⟨Q,U,c,d,ay,ek,E⟩;refine AI ?_ c d;clear c d l k;rw[GU] at E;refine AU ?_;refine AN (λa w=>IV B Q U (143,[]) a w [] (L) λ_ _=>Hk N=some r) ?_ ?_
 ·refine BA (λn7=>λa w=>∃(s:Int),IV B Q U (143,[]) a w [(5,t),(4,q8),(13,vI s)] (L) λ_ _=>AA s∧Ev N g j (Hk N) n7 s=some r) N ?_ ?_ ?_
  ·intro k l c d;exact⟨0,_,_,c.sub (kp [5,4,13] O),d,ay,(CX.refl Q U),(iq (n:=0) O),E⟩
  ·rintro k l ⟨_,_,_,_,_,_,_,_,E⟩;rw[Ev] at E;cases E
  rintro n7 k l ⟨s,el,em,c,d,m,cd,en,E⟩;refine AI ?_ c d;clear c d l k;rw[Ev] at E;have ae:=Z.nw;refine AU ?_;refine AE O E (λce E=>?_) (λce E=>?_)
  ·refine AU ?_;refine BG (AU ?_);refine WF.rc (.inr ⟨mo,by kernel_rfl⟩) m ?_;have cf:=ae.fl AX.f_Links;obtain⟨eo,_,cg⟩:=cf.ll;refine AU ?_;refine AO E O O cg sl_34.1 O λep E eq ch=>?_;have ci:=ch.fl AF.f_Pos;obtain⟨er,_,cj⟩:=ci.lv;have af:=Y.nw;have ck:=af.fl Jq;obtain⟨es,_,cl⟩:=ck.ll;refine AU ?_;refine AO E O O cl sl_69.1 O λeu E ev cm=>?_;have cn:=cm.fl Cs.f_Pos;have co:=cn.i;refine AU ?_;refine BE E O O O YS O (λag az h' o=>KR (St.all h') (cj.mono (o.all m.1)) co az) λag E=>AU ?_;obtain⟨cp,b,E⟩:=bd E;refine A0 16 142 (.bool cp) ?_ ?_
   ·cases ah:(!ag)
    ·have b:=HX ah b;have cq:=ae.fl AX.f_Links;obtain⟨ew,_,cr⟩:=cq.ll;refine AU ?_;refine AO b O O cr sl_34.1 O λey b ez cs=>?_;have ct:=cs.fl AF.f_Open;obtain⟨e0,_,cu⟩:=ct.lv;have cv:=af.fl Jq;obtain⟨e1,_,cw⟩:=cv.ll;refine AU ?_;refine AO b O O cw sl_69.1 O λe2 b e3 e4=>AU ?_;refine A5 b O O O iO O (λcx a0 h' o=>NI (St.all h') a0) λcx b cy=>?_;have cz:=cy;refine AU ?_;refine BE b O O O YS O (λc0 a1 h' o=>KR (St.all h') (cu.mono (o.all m.1)) cz a1) λc0 b=>AU ?_;cases b;exact AZ O
    have b:=HU ah b;cases b;exact BM O O
   refine BB (kp [142,5,4,13] O) λe6 a2 e7=>AE O E (λc1 E=>?_) (λc1 E=>?_)
   ·exact RT
   refine AU ?_;refine BP (AU ?_);refine WF.nil (λk l c d=>?_);exact⟨(BV (s+1)),_,_,c.sub (kp [5,4,13] O),d,a2,EX,(BY _),E⟩
  refine WF.exit O (λk l c d=>?_);exact⟨_,_,c.sub PJ,d,m,cd,E⟩
 rintro k l ⟨e8,e9,c,d,dp,fa,E⟩;refine AI ?_ c d;clear c d l k;rw[Hk] at E;exact RT
def Jv (m:St S L h) {c:Int}(i:AA c) {b:Int}(g:AA b) {a:Int}(d:AA a) {r:Int}(E:Gx N c b a=some r):
 CA prog 157 #[vI c,vI b,vI a] S h (λv j h'=>v=vI r∧AA r∧St j (L) h'):=by
 refine A8 16 func157 O ntmps157 O λB=>?_;rw[Gx] at E;refine AU ?_;refine AE O E (λk E=>?_) (λk E=>?_)
 ·exact RT
 refine AU ?_;refine AE O E (λl E=>?_) (λl E=>?_)
 ·exact RT
 exact RT
def Qz (hs:St S L h) {g:Value}{s:AS}(k:Rd S h BL g s) {j:Value}{b:Cs}(l:Rd S h FU j b) {c:Int}(d:AA c) {r:Cs}(E:K6 N s b c=some r):
 CA prog 128 #[g,j,vI c] S h (λv S' h'=>v= .agg #[vI r.P,vI r.S,.bool r.Bd,.bool r.N]∧Cs.ok r∧St S' (L) h'):=by
 refine A8 16 func128 O ntmps128 O λB=>?_;rw[K6] at E;refine AU ?_;refine A6 O k CE O hs λq1 S2 h3 Q e5 k6=>?_;have k7:=l.mono e5;obtain⟨rfl,⟨r9,U⟩⟩:=FU.ex k7;refine OI O O O Q λy ad z ae=>BZ Rl O z λA C t af=>?_;have V:=k6.nw;refine AU ?_;refine F2 (λa w=>∃(m:Int),IV B S2 C (16,[]) a w [(6,vP A 0),(4,vP y 0)] (Bx A 81 [vI 0,vI 0,.bool false,.bool false]::Bx y 81 [vI b.P,vI m,.bool b.Bd,.bool b.N]::L) λ_ _=>AA m∧KC N b m=some r) ?_ ?_
 ·refine AE O E (λW E=>?_) (λW E=>?_)
  ·refine Es ?_;have X:=V.fl Co;have Y:=X.i;refine AU ?_;refine Ia E O O O Vb O t (λx D=>Jv (St.all _) d (iq (n:=0) O) Y D) λx E ag ah ai F aj ak p=>?_;obtain⟨rfl,Z,ac⟩:=p;refine AU ?_;refine HH (cs':=[vI b.P,vI x,.bool b.Bd,.bool b.N]) O O O O ty_3.1 O F (.tail .head) O O λam G an=>AU ?_;refine WF.nil (λK M o q=>?_);exact⟨x,_,_,o.sub (kp [6,4] O),q,G,EX,Z,E⟩
  refine AU ?_;refine WF.nil (λK M o q=>?_);exact⟨b.S,_,_,o.sub (kp [6,4] O),q,t,(CX.refl S2 C),U,E⟩
 rintro K M ⟨m,ao,ap,o,q,H,aq,ab,E⟩;refine AI ?_ o q;clear o q M K;rw[KC] at E;refine AU ?_;refine BI O O O O ty_81.1 O H .head O λar I au=>AU ?_;refine WF.ret (λK M o q=>?_);have u:=I.drop (.tail .head);have J:=u.drop .head;cases E;exact Jw o O q (Hr (NS o q u O mh ty_81.1 O) Jr) O EX ⟨O,⟨r9,ab⟩,J⟩
def MH (u:St S L h) {g:Int}(d:AA g) {a:Int}(i:AA a) {b:Int}(c:AA b) {r:Int}(E:Hl N g a b=some r):
 CA prog 158 #[vI g,vI a,vI b] S h (λv w h'=>v=vI r∧AA r∧St w (L) h'):=by
 refine A8 18 func158 O ntmps158 O λB=>?_;rw[Hl] at E;refine AU ?_;refine WF.rc (.inl O) u (AU ?_);refine A5 E O O O Ni O (λx l h' o=>Di (St.all h') i d l) λx E y=>?_;have z:=y;refine AU ?_;refine A5 E O O O Ni O (λA m h' o=>Di (St.all h') (iq (n:=0) O) c m) λA E C=>?_;have D:=C;refine AU ?_;refine A5 E O O O Vb O (λF p h' o=>Jv (St.all h') z D c p) λF E G=>?_;have H:=G;refine AU ?_;refine BB (kp [7,0] O) λI j J=>AU ?_;refine WF.rc (.inl O) j (AU ?_);refine A5 E O O O PM O (λq k h' o=>DU (St.all h') d H k) λq E s=>?_;have K:=s;refine AU ?_;exact BB (kp [6] O) λM t Q=>RT
def Pg (hs:St S L h) {c:Value}{l:AS}(g:Rd S h BL c l) {d:Value}{a:AF}(j:Rd S h AJ d a) {b:Bool}{r:AF}(E:JG N l a b=some r):
 CA prog 129 #[c,d,.bool b] S h (λv S' h'=>v= .agg #[vI r.P.B,vI r.P.A,vI r.S,vI r.N.B,vI r.N.A]∧AF.ok r∧St S' (L) h'):=by
 refine A8 52 func129 O ntmps129 O λB=>?_;rw[JG] at E;refine AU ?_;refine A6 O g CE O hs λq1 S2 h3 ag e5 k6=>?_;have k7:=j.mono e5;obtain⟨rfl,⟨r9,y,k,z,C⟩⟩:=AJ.ex k7;refine OI O O O ag λbc be D bf=>BZ So O D λbg bh m bi=>AU ?_;refine AE O E (λah E=>?_) (λah E=>?_)
 ·refine AU ?_;refine GZ 18 mo (by kernel_rfl) O m ?_;have F:=k6.nw;have ai:=F.fl HI;have aj:=ai.i;refine AU ?_;refine A5 E O O O cK O (λs G h' o=>MH (St.all h') r9 k aj G) λs E ak=>?_;have am:=ak;have an:=F.fl HI;have ao:=an.i;refine AU ?_;refine A5 E O O O cK O (λt H h' o=>MH (St.all h') y k ao H) λt E ap=>?_;have aq:=ap;refine CT (cs:=[vI s,vI t]) HY O O O (AU ?_);refine ET λbj I bk=>?_;refine HH (cs':=[vI s,vI t,vI a.S,vI a.N.B,vI a.N.A]) O O O O ty_51.1 O I (.tail .head) O O λbl J bm=>AU ?_;refine BI O O O O ty_97.1 O J .head O λbn K bo=>AU ?_;refine WF.ret (λaa ww M Q=>?_);have p:=K.drop (.tail .head);have U:=p.drop .head;cases E;exact Jw M O Q (Hr (NS M Q p O mh ty_97.1 O) Jr) O EX ⟨O,⟨am,aq,k,z,C⟩,U⟩
 refine AU ?_;refine WF.rc (.inr ⟨mo,by kernel_rfl⟩) m ?_;have u:=k6.nw;have ar:=u.fl HI;have au:=ar.i;refine AU ?_;refine A5 E O O O Ni O (λav V h' o=>Di (St.all h') r9 au V) λav E aw=>?_;have ax:=aw;have ay:=u.fl Co;have az:=ay.i;refine AU ?_;refine A5 E O O O Vb O (λw W h' o=>Jv (St.all h') ax (iq (n:=0) O) az W) λw E a0=>?_;have a1:=a0;refine AU ?_;refine BB (kp [7,6,4,3] O) λbp X a2=>AU ?_;refine WF.rc (.inr ⟨mo,by kernel_rfl⟩) X ?_;have Y:=u.mono a2;have a3:=Y.fl HI;have a4:=a3.i;refine AU ?_;refine A5 E O O O PM O (λa5 Z h' o=>DU (St.all h') y a4 Z) λa5 E a6=>?_;have a7:=a6;have a8:=Y.fl Co;have a9:=a8.i;refine AU ?_;refine A5 E O O O Vb O (λx ab h' o=>Jv (St.all h') a7 (iq (n:=0) O) a9 ab) λx E ba=>?_;have bb:=ba;refine AU ?_;refine BB (kp [8,7,6,4] O) λbq ac br=>AU ?_;refine CT (cs:=[vI w,vI x]) HY O O O (AU ?_);refine HH (cs':=[vI w,vI x,vI a.S,vI a.N.B,vI a.N.A]) O O O O ty_51.1 O ac (.tail .head) O O λbs ad bt=>AU ?_;refine BI O O O O ty_97.1 O ad .head O λbu ae bv=>AU ?_;refine WF.ret (λaa ww M Q=>?_);have q:=ae.drop (.tail .head);have af:=q.drop .head;cases E;exact Jw M O Q (Hr (NS M Q q O mh ty_97.1 O) Jr) O EX ⟨O,⟨a1,bb,k,z,C⟩,af⟩
def Nk {j:Nat}{p0_w:AK}{s:Value}{t:Value}{u:Value}{y:Value}{z:Value}{A:Value}{C:Value}{K:Value}{d:Value}{k:Value}{c:Value}{g:Value}(hs:St S (Bx j 141 [.string p0_w.J.O,s,vI p0_w.J.T,t,u,y,z,A,C,K,vI p0_w.J.U,vI p0_w.L.H,d,k,c,g]::OS AC 51 d p0_w.L.G::OS AJ 97 c p0_w.L.D::OS AC 51 g p0_w.Ai::L) h) (c3:p0_w.J.O.size≤maxLen) (c4:Sl S h BX.str s p0_w.J.Z) (c5:AA p0_w.J.T) (c6:Sl S h B3 t p0_w.J.F) (Y:Sl S h BL u p0_w.J.D) (c7:Sl S h Gn y p0_w.J.Ak) (c8:Sl S h ED z p0_w.J.Ap) (c9:Sl S h Gp A p0_w.J.Aq) (da:Sl S h DC C p0_w.J.As) (db:Sl S h AW K p0_w.J.Ar) (bv:AA p0_w.J.U) (bw:AA p0_w.L.H) (bx:Sl S h BU k p0_w.L.E) {ar:Value}{Q:Cn}(a4:Rd S h Gr ar Q) {q:Value}{M:(List Bool)}(al:Sl S h BX.bool q M) {r:(List AF)}(E:HD N p0_w Q M=some r):
 CA prog 78 #[vP j 0,ar,q] S h (λv S' h'=>∃ax:Value,v= .tuple #[]∧St S' (Bx j 141 [.string p0_w.J.O,s,vI p0_w.J.T,t,u,y,z,A,C,K,vI p0_w.J.U,vI p0_w.L.H,d,k,ax,g]::OS AC 51 d p0_w.L.G::OS AJ 97 ax r::OS AC 51 g p0_w.Ai::L) h'):=by
 refine A8 182 func78 O ntmps78 O λB=>?_;rw[HD] at E;refine AU ?_;refine A6 O a4 CE O hs λq1 S2 h3 ft e5 k6=>?_;have k7:=Y.mono' e5;have b8:=k7.le;refine AU ?_;refine AN (λa w=>∃(l9:List AF),IV B S2 h3 (182,[]) a w [(6,vI (↑p0_w.J.D.length:Int)),(4,q1),(0,vP j 0),(2,q)] (Bx j 141 [.string p0_w.J.O,s,vI p0_w.J.T,t,u,y,z,A,C,K,vI p0_w.J.U,vI p0_w.L.H,d,k,c,g]::OS AC 51 d p0_w.L.G::OS AJ 97 c l9::OS AC 51 g p0_w.Ai::L) λ_ _=>Do N p0_w Q M l9=some r) ?_ ?_
 ·refine BA (λn1=>λa w=>∃(ao:Int) (au:List AF),IV B S2 h3 (182,[]) a w [(6,vI (↑p0_w.J.D.length:Int)),(4,q1),(0,vP j 0),(2,q),(7,vI ao)] (Bx j 141 [.string p0_w.J.O,s,vI p0_w.J.T,t,u,y,z,A,C,K,vI p0_w.J.U,vI p0_w.L.H,d,k,c,g]::OS AC 51 d p0_w.L.G::OS AJ 97 c au::OS AC 51 g p0_w.Ai::L) λ_ _=>AA ao∧CO N p0_w Q (Do N p0_w Q M) n1 ao au=some r) N ?_ ?_ ?_
  ·intro aa ww W X;exact⟨0,p0_w.L.D,_,_,W.sub (kp [6,4,0,2,7] O),X,ft,(CX.refl S2 h3),(iq (n:=0) O),E⟩
  ·rintro aa ww ⟨_,_,_,_,_,_,_,_,_,E⟩;rw[CO] at E;cases E
  rintro n1 aa ww ⟨ao,au,bz,fu,W,X,bn,dc,i6,E⟩;refine AI ?_ W X;clear W X ww aa;rw[CO] at E;have b0:=k6.mono dc;refine AU ?_;refine AE O E (λfv E=>?_) (λfv E=>?_)
  ·refine AU ?_;refine AN (λa w=>∃(bm:List AF),IV B bz fu (182,[]) a w [(6,vI (↑p0_w.J.D.length:Int)),(4,q1),(0,vP j 0),(2,q),(7,vI ao)] (Bx j 141 [.string p0_w.J.O,s,vI p0_w.J.T,t,u,y,z,A,C,K,vI p0_w.J.U,vI p0_w.L.H,d,k,c,g]::OS AC 51 d p0_w.L.G::OS AJ 97 c bm::OS AC 51 g p0_w.Ai::L) λ_ _=>Dn N ao (CO N p0_w Q (Do N p0_w Q M) n1) bm=some r) ?_ ?_
   ·have fw:=b0.fl Ky;obtain⟨i7,_,fx⟩:=fw.ll;refine AU ?_;refine AO E O O fx sl_37.1 O λa2 E i8 fy=>?_;have fz:=fy.fl Le.f_Link;have f0:=fz.i;refine AU ?_;refine WF.rc (.inl O) bn (AU ?_);refine BE E O O O YU O (λf1 dd h' o=>Kq (St.all h') f0 (MB b8) dd) λf1 E=>AU ?_;refine BB (kp [36,8,6,4,0,2,7] O) λde ay df=>AE O E (λf2 E=>?_) (λf2 E=>?_)
    ·refine WF.exit O (λaa ww W X=>?_);exact⟨au,_,_,W.sub (kp [6,4,0,2,7] O),X,ay,df,E⟩
    refine AU ?_;have f3:=Y.nw;refine AO E O O f3 sl_24.1 O λf4 E i9 ja=>AU ?_;obtain⟨f5,ah,E⟩:=bd E;refine A0 8 55 (.bool f5) ?_ ?_
    ·cases dg:(decide (f4.I=5))
     ·have ah:=HX dg ah;cases ah;exact BM O O
     have ah:=HU dg ah;have f6:=b0.mono df;have f7:=f6.fl Ky;obtain⟨jb,_,f8⟩:=f7.ll;refine AU ?_;refine AO ah O O f8 sl_37.1 O λjc ah jd je=>AU ?_;cases ah;exact AZ O
    refine AU ?_;refine F2 (λa w=>∃(a3:List AF),IV B bz de (182,[]) a w [(8,vI a2.Aa),(6,vI (↑p0_w.J.D.length:Int)),(4,q1),(0,vP j 0),(2,q),(7,vI ao)] (Bx j 141 [.string p0_w.J.O,s,vI p0_w.J.T,t,u,y,z,A,C,K,vI p0_w.J.U,vI p0_w.L.H,d,k,c,g]::OS AC 51 d p0_w.L.G::OS AJ 97 c a3::OS AC 51 g p0_w.Ai::L) λ_ _=>GB N p0_w Q ao a2 (Dn N ao (CO N p0_w Q (Do N p0_w Q M) n1)) a3=some r) ?_ ?_
    ·refine AE O E (λf9 E=>?_) (λf9 E=>?_)
     ·refine GZ 9 mo (by kernel_rfl) O ay (AU ?_);refine A5 E O O O RH O (λb1 dh h' o=>EJ (St.all h') (iq (n:=1) O) dh) λb1 E ga=>?_;obtain⟨gb,gc⟩:=ga;obtain⟨jf,di,E⟩:=bd E;refine CR ay (mt (mt mh)) O O sl_34.1 di O λjg dj=>ML O dj fa_97_2.1 O λjh dk=>ET λji dl jj=>?_;obtain⟨dm,dn,E⟩:=bd E;refine JS (r:=AJ) (l:=au) (i:=a2.Aa) (x:=dm) O O (AC.mk (x:=b1) ⟨gb,gc⟩) dk dn AF.u_Open ty_51.1 CE dl (.tail (.tail .head)) λjk dp jl=>AU ?_;refine WF.nil (λaa ww W X=>?_);exact⟨(upd au a2.Aa ({ dm with N:=b1})),_,_,W.sub (kp [8,6,4,0,2,7] O),X,dp,EX,E⟩
     refine AU ?_;refine WF.nil (λaa ww W X=>?_);exact⟨au,_,_,W.sub (kp [8,6,4,0,2,7] O),X,ay,(CX.refl bz de),E⟩
    rintro aa ww ⟨a3,jm,jn,W,X,a5,jo,E⟩;refine AI ?_ W X;clear W X ww aa;rw[GB] at E;refine AU ?_;have ge:=Y.nw;refine AO E O O ge sl_24.1 O λgf E jp jq=>AU ?_;obtain⟨gg,ai,E⟩:=bd E;refine A0 8 83 (.bool gg) ?_ ?_
    ·cases dq:(decide (gf.I=5))
     ·have ai:=HX dq ai;cases ai;exact BM O O
     have ai:=HU dq ai;have gh:=b0.nw;have gi:=gh.fl Ky;obtain⟨gl,_,dr⟩:=gi.ll;refine AU ?_;refine AO ai O O dr sl_37.1 O λgm ai gn gp=>AU ?_;cases ai;exact AZ O
    refine AU ?_;refine AE O E (λds E=>?_) (λds E=>?_)
    ·refine GZ 9 mo (by kernel_rfl) O a5 (AU ?_);refine A5 E O O O RH O (λa6 b2 h' o=>EJ (St.all h') (iq (n:=0) O) b2) λa6 E dt=>?_;obtain⟨du,dv⟩:=dt;obtain⟨gq,b3,E⟩:=bd E;refine CR a5 (mt (mt mh)) O O sl_34.1 b3 O λgr b4=>ML O b4 fa_97_2.1 O λgs b5=>ET λgu b6 gv=>?_;obtain⟨bo,b7,E⟩:=bd E;refine JS (r:=AJ) (l:=a3) (i:=a2.Aa) (x:=bo) O O (AC.mk (x:=a6) ⟨du,dv⟩) b5 b7 AF.u_Open ty_51.1 CE b6 (.tail (.tail .head)) λgw b9 gx=>AU ?_;refine WF.nil (λaa ww W X=>?_);exact⟨(upd a3 a2.Aa ({ bo with N:=a6})),_,_,W.sub (kp [6,4,0,2,7] O),X,b9,EX,E⟩
    refine AU ?_;refine WF.nil (λaa ww W X=>?_);exact⟨a3,_,_,W.sub (kp [6,4,0,2,7] O),X,a5,EX,E⟩
   rintro aa ww ⟨bm,gy,gz,W,X,ca,g0,E⟩;refine AI ?_ W X;clear W X ww aa;rw[Dn] at E;refine AU ?_;refine WF.nil (λaa ww W X=>?_);exact⟨(BV (ao+1)),bm,_,_,W.sub (kp [6,4,0,2,7] O),X,ca,EX,(BY _),E⟩
  refine WF.exit O (λaa ww W X=>?_);exact⟨au,_,_,W.sub (kp [6,4,0,2] O),X,bn,dc,E⟩
 rintro aa ww ⟨l9,a7,a8,W,X,cb,g1,E⟩;refine AI ?_ W X;clear W X ww aa;rw[Do] at E;refine AU ?_;refine AN (λa w=>∃(az:List AF),IV B a7 a8 (182,[]) a w [(6,vI (↑p0_w.J.D.length:Int)),(0,vP j 0),(2,q)] (Bx j 141 [.string p0_w.J.O,s,vI p0_w.J.T,t,u,y,z,A,C,K,vI p0_w.J.U,vI p0_w.L.H,d,k,c,g]::OS AC 51 d p0_w.L.G::OS AJ 97 c az::OS AC 51 g p0_w.Ai::L) λ_ _=>EY N p0_w M az=some r) ?_ ?_
 ·refine BA (λn5=>λa w=>∃(ac:Int) (am:List AF),IV B a7 a8 (182,[]) a w [(6,vI (↑p0_w.J.D.length:Int)),(4,q1),(0,vP j 0),(2,q),(9,vI ac)] (Bx j 141 [.string p0_w.J.O,s,vI p0_w.J.T,t,u,y,z,A,C,K,vI p0_w.J.U,vI p0_w.L.H,d,k,c,g]::OS AC 51 d p0_w.L.G::OS AJ 97 c am::OS AC 51 g p0_w.Ai::L) λ_ _=>AA ac∧C6 N p0_w Q (EY N p0_w M) n5 ac am=some r) N ?_ ?_ ?_
  ·intro aa ww W X;exact⟨0,l9,_,_,W.sub (kp [6,4,0,2,9] O),X,cb,(CX.refl a7 a8),(iq (n:=0) O),E⟩
  ·rintro aa ww ⟨_,_,_,_,_,_,_,_,_,E⟩;rw[C6] at E;cases E
  rintro n5 aa ww ⟨ac,am,aj,dw,W,X,a9,dx,g2,E⟩;refine AI ?_ W X;clear W X ww aa;rw[C6] at E;have bp:=k6.nw;refine AU ?_;refine AE O E (λdy E=>?_) (λdy E=>?_)
  ·refine AU ?_;refine AN (λa w=>∃(a0:List AF),IV B aj dw (182,[]) a w [(6,vI (↑p0_w.J.D.length:Int)),(4,q1),(0,vP j 0),(2,q),(9,vI ac)] (Bx j 141 [.string p0_w.J.O,s,vI p0_w.J.T,t,u,y,z,A,C,K,vI p0_w.J.U,vI p0_w.L.H,d,k,c,g]::OS AC 51 d p0_w.L.G::OS AJ 97 c a0::OS AC 51 g p0_w.Ai::L) λ_ _=>GA N ac (C6 N p0_w Q (EY N p0_w M) n5) a0=some r) ?_ ?_
   ·have dz:=bp.fl Mp;obtain⟨g3,_,d0⟩:=dz.ll;refine AU ?_;refine AO E O O d0 sl_38.1 O λad E g4 d1=>?_;have d2:=d1.fl QZ.f_Link;have d3:=d2.i;refine AU ?_;refine WF.rc (.inl O) a9 (AU ?_);refine BE E O O O YU O (λd4 cc h' o=>Kq (St.all h') d3 (MB b8) cc) λd4 E=>BB (kp [108,10,6,4,0,2,9] O) λbq V d5=>AE O E (λd6 E=>?_) (λd6 E=>?_)
    ·refine AU ?_;obtain⟨a1,cd,E⟩:=bd E;obtain⟨g5,ce,E⟩:=bd E;obtain⟨ap,cf,E⟩:=bd E;obtain⟨aq,cg,E⟩:=bd E;obtain⟨ak,ch,E⟩:=bd E;refine MJ (m:=[(10,vI ad.Aa),(6,vI (↑p0_w.J.D.length:Int)),(4,q1),(0,vP j 0),(2,q),(9,vI ac)]) 26 (λi v hh=>match i with|0=>v=vP j 0|1=>v=vP j 0|2=>v=vP j 0|3=>v=vP j 4|4=>Sl aj hh BL v p0_w.J.D|5=>v=vI ad.Aa∧AA ad.Aa|6=>Pt aj hh BL v a1|7=>Rd aj hh BL v a1|8=>v=vP j 0|9=>v=vP j 0|10=>v=vP j 11|11=>v=vP j 14|12=>v=c|13=>v=vI ad.Aa∧AA ad.Aa|14=>EP c (ad.Aa.toNat*(AJ).sz+0) v|15=>EP c (ad.Aa.toNat*(AJ).sz+2) v|16=>v=vI ap.S∧AA ap.S|17=>v= .agg #[vI 0,vI ap.S,.bool false,.bool false]∧AA 0∧AA ap.S|18=>Pt aj hh (BX.sl K8) v Q.Az|19=>Sl aj hh K8 v Q.Az|20=>v=vI ac∧AA ac|21=>Pt aj hh K8 v aq|22=>Pt aj hh AW v aq.S|23=>v=vI aq.S∧AA aq.S|24=>v= .agg #[vI ak.P,vI ak.S,.bool ak.Bd,.bool ak.N]∧AA ak.P∧AA ak.S|25=>TS bq 81 [vI 0,vI 0,.bool false,.bool false] v hh|_=>False) [[],[(0,109)],[(1,110)],[(2,111)],[(3,112)],[],[(4,113),(5,114)],[(6,115)],[],[(8,117)],[(9,118)],[(10,119)],[(11,120)],[],[(12,121),(13,122)],[(14,123)],[(15,124)],[(16,125)],[],[(18,127)],[],[(19,128),(20,129)],[(21,130)],[(22,131)],[(7,116),(17,126),(23,132)],[]] [(24,133),(25,11)] mo (by kernel_rfl) [10,6,4,0,2,9] O (by kernel_rfl) (by kernel_rfl) (by kernel_rfl) (kp [10,6,4,0,2,9] O) MO ?_ ?_
     ·refine AT.cons O DM (AT.cons O DM (AT.cons O DM (AT.cons O DM (AT.cons O ?_ ?_))))
      ·intro mq hh o;intro g6 d7;have ab:=o.st V;cases d7;refine AU ?_;have d8:=Y.nw;exact BR d8
      refine AT.cons O DM (AT.cons O ?_ ?_)
      ·intro mq hh o;intro d9 ba g7 eb;have ab:=o.st V;have ba:Sl _ _ BL d9 p0_w.J.D:=ba;obtain⟨rfl,g8⟩:=eb;refine AU ?_;refine MK O O ba sl_24.1 cd O λg9 ec=>AU ?_;exact BR ec
      refine AT.cons O ?_ ?_
      ·intro mq hh o;intro ed bb;have ab:=o.st V;have bb:Pt _ _ BL ed a1:=bb;obtain⟨ha,_,ee⟩:=bb.lv;refine AU ?_;exact BR ee
      refine AT.cons O DM (AT.cons O DM (AT.cons O DM (AT.cons O DM (AT.cons O DM (AT.cons O DM (AT.cons O ?_ ?_))))))
      ·intro mq hh o;intro hc ef hd eg;have ab:=o.st V;cases ef;obtain⟨rfl,he⟩:=eg;refine AU ?_;refine CR ab (mt (mt mh)) O O sl_34.1 ce O λhg ci=>AU ?_;exact BR ci
      refine AT.cons O ?_ ?_
      ·intro mq hh o;intro hi eh;have ab:=o.st V;refine AU ?_;refine ML O eh fa_97_1.1 O λhj cj=>AU ?_;exact BR cj
      refine AT.cons O ?_ ?_
      ·intro mq hh o;intro hk ei;have ab:=o.st V;refine AU ?_;have ej:=ab.epAt (mt (mt mh)) cf AF.f_Target ei;refine G0 K1 (λ_ x=>x) O ej ty_3.1 O λek=>AU ?_;exact BR ⟨O,ek⟩
      refine AT.cons O ?_ ?_
      ·intro mq hh o;intro hl el;have ab:=o.st V;obtain⟨rfl,em⟩:=el;refine AU ?_;refine CT (cs:=[vI 0,vI ap.S,.bool false,.bool false]) Xm O O O (AU ?_);exact BR ⟨O,(iq (n:=0) O),em⟩
      refine AT.cons O ?_ ?_
      ·intro mq hh o;have ab:=o.st V;have en:=bp.nw;have eo:=en.fl Mp;refine AU ?_;exact BR eo
      refine AT.cons O ?_ ?_
      ·intro mq hh o;intro ep bc;have ab:=o.st V;have bc:Pt _ _ (BX.sl K8) ep Q.Az:=bc;obtain⟨hm,_,eq⟩:=bc.ll;refine AU ?_;exact BR eq
      refine AT.cons O DM (AT.cons O ?_ ?_)
      ·intro mq hh o;intro er be hn es;have ab:=o.st V;have be:Sl _ _ K8 er Q.Az:=be;obtain⟨rfl,ho⟩:=es;refine AU ?_;refine MK O O be sl_38.1 cg O λhp eu=>AU ?_;exact BR eu
      refine AT.cons O ?_ ?_
      ·intro mq hh o;intro ev bf;have ab:=o.st V;have bf:Pt _ _ K8 ev aq:=bf;have ew:=bf.fl QZ.f_Target;refine AU ?_;exact BR ew
      refine AT.cons O ?_ ?_
      ·intro mq hh o;intro ex bg;have ab:=o.st V;have bg:Pt _ _ AW ex aq.S:=bg;have ey:=bg.i;refine AU ?_;exact BR ⟨O,ey⟩
      refine AT.cons O ?_ ?_
      ·intro mq hh o;intro ez av hq e0 hr e1;have ab:=SN.st V o;have av:=Rd.sn bq av;have av:Rd _ _ BL ez a1:=av;obtain⟨rfl,e2,e3⟩:=e0;obtain⟨rfl,e4⟩:=e1;refine Cj O O O mP O ab (Qz (St.all _) (av.mono ab.ea) (FU.mk (x:=(⟨0,ap.S,false,false⟩:Cs)) ⟨e2,e3⟩) e4 ch) λht hu hv gj hx br p=>?_;obtain⟨rfl,⟨e6,e7⟩,gk⟩:=p;exact B7 ⟨br.siz,λb hb=>br.same b hb⟩ ⟨O,e6,e7⟩
      exact AT.cons O (λ_ _ o=>PC o Rl O λ_ h' o' r'=>B7 o' r') trivial
     intro hy e8 hz e9 h0 fa;obtain⟨h1,rfl,ck⟩:=fa.st V e8;obtain⟨rfl,h2,fb⟩:=e9;refine BI O O O O ty_81.1 O ck .head O λh4 bh h5=>AU ?_;refine QU 10 mo (by kernel_rfl) O (AU ?_);obtain⟨h6,cl,E⟩:=bd E;refine CR bh (mt (mt (mt mh))) O O sl_34.1 cl O λh7 cm=>ML O cm fa_97_1.1 O λh8 cn=>AU ?_;obtain⟨bs,co,E⟩:=bd E;refine JS (r:=AJ) (l:=am) (i:=ad.Aa) (x:=bs) O O (⟨_,O,O,fb⟩:Rd _ _ AW _ ak.S) cn co AF.u_Target ty_3.1 (λ_=>rfl) bh (.tail (.tail (.tail .head))) λh9 cp ia=>AU ?_;refine WF.nil (λaa ww W X=>?_);have cq:=cp.sel [1,1,1,1] 1 O;exact⟨(upd am ad.Aa ({ bs with S:=ak.S})),_,_,W.sub (kp [6,4,0,2,9] O),X,cq,EX,E⟩
    refine AU ?_;refine WF.nil (λaa ww W X=>?_);exact⟨am,_,_,W.sub (kp [6,4,0,2,9] O),X,V,d5,E⟩
   rintro aa ww ⟨a0,ib,ic,W,X,cr,ie,E⟩;refine AI ?_ W X;clear W X ww aa;rw[GA] at E;refine AU ?_;refine WF.nil (λaa ww W X=>?_);exact⟨(BV (ac+1)),a0,_,_,W.sub (kp [6,4,0,2,9] O),X,cr,EX,(BY _),E⟩
  refine WF.exit O (λaa ww W X=>?_);exact⟨am,_,_,W.sub (kp [6,0,2] O),X,a9,dx,E⟩
 rintro aa ww ⟨az,bt,bu,W,X,ct,ig,E⟩;refine AI ?_ W X;clear W X ww aa;rw[EY] at E;refine AU ?_;refine BG (BA (λn7=>λa w=>∃(af:Int) (an:List AF),IV B bt bu (182,[]) a w [(6,vI (↑p0_w.J.D.length:Int)),(0,vP j 0),(2,q),(12,vI af)] (Bx j 141 [.string p0_w.J.O,s,vI p0_w.J.T,t,u,y,z,A,C,K,vI p0_w.J.U,vI p0_w.L.H,d,k,c,g]::OS AC 51 d p0_w.L.G::OS AJ 97 c an::OS AC 51 g p0_w.Ai::L) λ_ _=>AA af∧C5 N p0_w M n7 af an=some r) N ?_ ?_ ?_)
 ·intro aa ww W X;exact⟨0,az,_,_,W.sub (kp [6,0,2,12] O),X,ct,(CX.refl bt bu),(iq (n:=0) O),E⟩
 ·rintro aa ww ⟨_,_,_,_,_,_,_,_,_,E⟩;rw[C5] at E;cases E
 rintro n7 aa ww ⟨af,an,bi,bj,W,X,aw,ih,ii,E⟩;refine AI ?_ W X;clear W X ww aa;rw[C5] at E;refine AU ?_;refine AE O E (λfc E=>?_) (λfc E=>?_)
 ·refine AU ?_;refine BG ?_;have ij:=al.nw;refine AU ?_;refine F2 (λa w=>∃(bk:Bool),IV B bi bj (182,[]) a w [(6,vI (↑p0_w.J.D.length:Int)),(0,vP j 0),(2,q),(12,vI af),(13,.bool bk)] (Bx j 141 [.string p0_w.J.O,s,vI p0_w.J.T,t,u,y,z,A,C,K,vI p0_w.J.U,vI p0_w.L.H,d,k,c,g]::OS AC 51 d p0_w.L.G::OS AJ 97 c an::OS AC 51 g p0_w.Ai::L) λ_ _=>F9 N p0_w af an (C5 N p0_w M n7) bk=some r) ?_ ?_
  ·refine AE O E (λfd E=>?_) (λfd E=>?_)
   ·refine AU ?_;have fe:=al.nw;refine AO E O O fe sl_43.1 O λff E ik il=>AU ?_;refine WF.nil (λaa ww W X=>?_);exact⟨ff,_,_,W.sub (kp [6,0,2,12,13] O),X,aw,(CX.refl bi bj),E⟩
   refine AU ?_;refine WF.nil (λaa ww W X=>?_);exact⟨false,_,_,W.sub (kp [6,0,2,12,13] O),X,aw,(CX.refl bi bj),E⟩
  rintro aa ww ⟨bk,im,io,W,X,ag,ip,E⟩;refine AI ?_ W X;clear W X ww aa;rw[F9] at E;refine GZ 25 mo (by kernel_rfl) O ag (AU ?_);have fg:=Y.nw;refine AO E O O fg sl_24.1 O λir E it fh=>?_;obtain⟨iu,_,fi⟩:=fh.lv;refine AU ?_;obtain⟨iv,cu,E⟩:=bd E;refine CR ag (mt (mt mh)) O O sl_34.1 cu O λiw cv=>?_;obtain⟨iy,cw,E⟩:=bd E;have fj:=ag.epAt (mt (mt mh)) cw Gs.id cv;refine Iz RG (λ_ x=>x) O fj ty_97.1 CE O λiz fk=>AU ?_;refine A5 E O O O mO O (λbl cx h' o=>Pg (St.all h') (fi.mono (o.all ag.1)) (fk.mono (o.all ag.1)) cx) λbl E fm=>?_;obtain⟨fn,fo,fp,fq,fr⟩:=fm;obtain⟨i0,cy,E⟩:=bd E;refine CR ag (mt (mt mh)) O O sl_34.1 cy O λi1 cz=>ET λi2 c0 i3=>?_;obtain⟨fs,c1,E⟩:=bd E;refine JS (r:=AJ) (l:=an) (i:=af) (x:=fs) O O (AJ.mk (x:=bl) ⟨fn,fo,fp,fq,fr⟩) cz c1 RI.id ty_97.1 CE c0 (.tail (.tail .head)) λi4 c2 i5=>AU ?_;refine BP (AU ?_);refine WF.nil (λaa ww W X=>?_);exact⟨(BV (af+1)),(upd an af bl),_,_,W.sub (kp [6,0,2,12] O),X,c2,EX,(BY _),E⟩
 refine M1 O (WF.nil (λaa ww W X=>?_));cases E;exact Jw W O X Jr O EX ⟨_,O,aw⟩
end Go.Proofs.YtibidnaedddfdaaGreat
