import Derived.Test.YtedgiljmffngoaaGreatPInst
import Derived.Test.YtedgiljmffngoaaGreatPForms
import Derived.Test.YtedgiljmffngoaaGreatPSort5
import Derived.Test.YtedgiljmffngoaaGreatPWalk2
import Derived.Test.YtedgiljmffngoaaGreatPWalk9
import Derived.Test.YtedgiljmffngoaaGreatPWalk18
import Derived.Test.YtedgiljmffngoaaGreatPWalk10
import Derived.Test.YtedgiljmffngoaaGreatPWalk16
import Derived.Test.YtedgiljmffngoaaGreatPWalk1
import Derived.Test.YtedgiljmffngoaaGreatPWalk11
import Derived.Lib.Mul64
namespace Go.Proofs.YtedgiljmffngoaaGreat
set_option linter.all false
open Go.RowKit
set_option maxRecDepth 10000
set_option maxHeartbeats 20000000
variable {N:Nat}{S:Nat→Prop}{L:List HP}{h:AS}
open Go.Proofs.Tryz
def OV (hs:St S L h) {i:Value}{j:AE}(u:Rd S h By i j) {k:Value}{l:AF}(x:Rd S h BA k l) {c:Value}{g:(List Cs)}(d:Sl S h G0 c g) {r:Bool}(E:FO N j l g=some r):
 B6 prog 25 #[i,k,c] S h (λv S' h'=>v= .bool r∧St S' (L) h'):=by
 refine A7 80 func25 O ntmps25 O λB=>?_;rw[FO] at E;refine AU ?_;refine Bz O u CE O hs λq1 S2 h3 ac e5 k6=>?_;have k7:=x.mono e5;refine Bz O k7 CE O ac λq8 S9 F K ad ae=>?_;have af:=k6.mono ad;have a3:=d.nw;refine AU ?_;refine AG O E (λag E=>?_) (λag E=>?_)
 ·exact RT
 refine AU ?_;refine AN (λa w=>IV B S9 F (80,[]) a w [(4,q8),(3,q1)] (L) λ_ _=>CT N j l=some r) ?_ ?_
 ·refine AY (λn1=>λa w=>∃(p:Int),IV B S9 F (80,[]) a w [(4,q8),(3,q1),(2,c),(7,vI p)] (L) λ_ _=>AA p∧Ch N g (CT N j l) n1 p=some r) N ?_ ?_ ?_
  ·intro G H q s;exact⟨0,_,_,q.sub (kp [4,3,2,7] O),s,K,(CG.refl S9 F),(iq (n:=0) O),E⟩
  ·rintro G H ⟨_,_,_,_,_,_,_,_,E⟩;rw[Ch] at E;cases E
  rintro n1 G H ⟨p,a4,a5,q,s,y,ah,a6,E⟩;refine AK ?_ q s;clear q s H G;rw[Ch] at E;have a7:=d.nw;refine AU ?_;refine AG O E (λai E=>?_) (λai E=>?_)
  ·refine AU ?_;refine A3 (AU ?_);have aj:=d.nw;refine A4 E O O aj bH.1 O λa8 E a9 ak=>?_;obtain⟨ba,_,am⟩:=ak.lv;refine AU ?_;refine CP Zu O y λbb bc M an=>?_;have ao:=am.mono an;obtain⟨be,bf,bg,bh,bi,rfl,ap,aq,ar,au,av⟩:=G0.ex ao;refine DU O O O ON aL.1 O M .head O λbj Q t=>?_;have bk:=ap.mono' t;have bl:=aq.mono' t;have bm:=ar.mono' t;have bn:=au.mono' t;have bo:=av.mono' t;refine AU ?_;refine AG O E (λaw E=>?_) (λaw E=>?_)
   ·exact RT
   refine AU ?_;refine BE (AU ?_);refine WF.nil (λG H q s=>?_);have U:=Q.drop .head;exact⟨(A9 (p+1)),_,_,q.sub (kp [4,3,2,7] O),s,U,EX,(BF _),E⟩
  refine A8 O (λG H q s=>?_);exact⟨_,_,q.sub (kp [4,3] O),s,y,ah,E⟩
 rintro G H ⟨bp,bq,q,s,m,z,E⟩;refine AK ?_ q s;clear q s H G;rw[CT] at E;refine AU ?_;refine BY (.inl O) m ?_;have A:=af.mono z;obtain⟨ay,_,V⟩:=A.lv;refine AU ?_;refine A5 E O O O mE O (λC I h' o=>OI (St.all h') (V.mono (o.all m.1)) I) λC E=>AU ?_;obtain⟨W,b,E⟩:=bd E;refine AW 4 79 (.bool W) ?_ ?_
 ·cases D:C
  ·have b:=Gw D b;cases b;exact BD O O
  have b:=Gv D b;obtain⟨az,_,X⟩:=A.lv;have Y:=ae.mono z;obtain⟨a0,_,Z⟩:=Y.lv;refine AU ?_;refine A5 b O O O mJ O (λab J h' o=>Ok (St.all h') (X.mono (o.all m.1)) (Z.mono (o.all m.1)) J) λab b=>AU ?_;cases b;exact AX O
 refine AU ?_;exact BG (kp [6] O) λa1 ax a2=>RT
def SK (hs:St S L h) {d:Value}{g:(List AO)}(x:Sl S h AZ d g) {m:Value}{k:AE}(y:Rd S h By m k) {b:Int}(z:AA b) {r:Int}(E:KD N g k b=some r):
 B6 prog 114 #[d,m,vI b] S h (λv S' h'=>v=vI r∧AA r∧St S' (L) h'):=by
 refine A7 45 func114 O ntmps114 O λB=>?_;rw[KD] at E;refine AU ?_;refine Bz O y CE O hs λq1 S2 Y Z e5 k6=>?_;have k7:=x.mono' e5;refine AU ?_;refine AN (λa w=>∃(X:Int),IV B S2 Y (45,[]) a w [(7,vI X)] (L) λ_ _=>AA X∧G5 N X=some r) ?_ ?_
 ·refine AY (λn1=>λa w=>∃(p:Int) (l:Int),IV B S2 Y (45,[]) a w [(11,vI (↑g.length:Int)),(10,d),(4,q1),(2,vI b),(7,vI p),(12,vI l)] (L) λ_ _=>AA p∧AA l∧EK N g k b (G5 N) n1 p l=some r) N ?_ ?_ ?_
  ·intro q s i j;exact⟨0,0,_,_,i.sub (kp [11,10,4,2,7,12] O),j,Z,(CG.refl S2 Y),(iq (n:=0) O),(iq (n:=0) O),E⟩
  ·rintro q s ⟨_,_,_,_,_,_,_,_,_,_,E⟩;rw[EK] at E;cases E
  rintro n1 q s ⟨p,l,ab,ac,i,j,C,F,D,a1,E⟩;refine AK ?_ i j;clear i j s q;rw[EK] at E;refine AU ?_;refine AG O E (λad E=>?_) (λad E=>?_)
  ·refine AU ?_;refine AN (λa w=>∃(t:Int),IV B ab ac (45,[]) a w [(11,vI (↑g.length:Int)),(10,d),(4,q1),(2,vI b),(12,vI l),(7,vI t)] (L) λ_ _=>AA t∧Io N l (EK N g k b (G5 N) n1) t=some r) ?_ ?_
   ·refine AU ?_;have ae:=k7.mono' F;refine A4 E O O ae LA.1 O λG E a2 af=>?_;obtain⟨a3,_,ag⟩:=af.lv;refine AU ?_;refine CP Nq O C λa4 a5 H ah=>?_;have ai:=ag.mono ah;obtain⟨a6,rfl,a7,a8,aj⟩:=AZ.ex ai;refine DU O O O ON Ns.1 O H .head O λa9 u ak=>?_;have ba:=k6.nw;refine AU ?_;obtain⟨am,c,E⟩:=bd E;refine AW 10 37 (.bool am) ?_ ?_
    ·cases I:((decide (0≤G.B))&&(decide (G.B<(↑k.A.length:Int))))
     ·have c:=Gw I c;cases c;exact BD O O
     have c:=Gv I c;have an:=k6.nw;have ao:=an.fl BZ;obtain⟨bb,_,ap⟩:=ao.ll;refine AU ?_;refine A4 c O O ap Kk.1 O λbc c be bf=>AU ?_;cases c;exact AX O
    refine AU ?_;refine AG O E (λaq E=>?_) (λaq E=>?_)
    ·refine BY (.inl O) u (AU ?_);have ar:=aj.mono' ak;refine B4 E O O O L9 O (λau J h' o=>C1 (St.all h') (ar.mono' (o.all u.1)) J) λau E av=>?_;have aw:=av;refine B4 E O O O Q0 O (λK M h' o=>HH (St.all h') D aw M) λK E ax=>?_;have ay:=ax;refine AU ?_;refine BG (kp [7,11,10,4,2,12] O) λbg Q bh=>WF.nil (λq s i j=>?_);have U:=Q.drop .head;exact⟨K,_,_,i.sub (kp [11,10,4,2,12,7] O),j,U,EX,ay,E⟩
    refine AU ?_;refine WF.nil (λq s i j=>?_);have V:=u.drop .head;exact⟨p,_,_,i.sub (kp [11,10,4,2,12,7] O),j,V,EX,D,E⟩
   rintro q s ⟨t,bi,bj,i,j,W,bk,az,E⟩;refine AK ?_ i j;clear i j s q;rw[Io] at E;refine AU ?_;refine WF.nil (λq s i j=>?_);exact⟨t,(A9 (l+1)),_,_,i.sub (kp [11,10,4,2,7,12] O),j,W,EX,az,(BF _),E⟩
  refine A8 O (λq s i j=>?_);exact⟨p,_,_,i.sub (kp [7] O),j,C,F,D,E⟩
 rintro q s ⟨X,bl,bm,i,j,a0,bn,bo,E⟩;refine AK ?_ i j;clear i j s q;rw[G5] at E;exact RT
def Ro (hs:St S L h) {k:Value}{d:AE}(q:Rd S h By k d) {b:Int}(V:AA b) {r:(List Int)}(E:Jf N d b=some r):
 B6 prog 115 #[k,vI b] S h (λv S' h'=>St S' (OS AB 3 v r::L) h'):=by
 refine A7 26 func115 O ntmps115 O λB=>?_;rw[Jf] at E;refine AU ?_;refine Bz O q CE O hs λq1 S2 W X e5 k6=>?_;have k8:=k6.fl BZ;obtain⟨v9,_,Y⟩:=k8.ll;refine AU ?_;refine AN (λa w=>∃(y:Value) (z:List Int),IV B S2 W (26,[]) a w [(5,y)] (OS AB 3 y z::L) λ_ _=>Gk N z=some r) ?_ ?_
 ·refine AY (λZ=>λa w=>∃(m:Value) (j:List Int) (c:Int),IV B S2 W (26,[]) a w [(10,vI (↑d.A.length:Int)),(9,v9),(1,vI b),(5,m),(11,vI c)] (OS AB 3 m j::L) λ_ _=>AA c∧D0 N d b (Gk N) Z j c=some r) N ?_ ?_ ?_
  ·intro o p g i;have C:=X.nil AB 3;exact⟨(vN),([]:List Int),0,_,_,g.sub (kp [10,9,1,5,11] O),i,C,(CG.refl S2 W),(iq (n:=0) O),E⟩
  ·rintro o p ⟨_,_,_,_,_,_,_,_,_,_,E⟩;rw[D0] at E;cases E
  rintro Z o p ⟨m,j,c,ab,ac,g,i,u,D,ad,E⟩;refine AK ?_ g i;clear g i p o;rw[D0] at E;refine AU ?_;refine AG O E (λae E=>?_) (λae E=>?_)
  ·refine AU ?_;refine AN (λa w=>∃(s:Value) (t:List Int),IV B ab ac (26,[]) a w [(10,vI (↑d.A.length:Int)),(9,v9),(1,vI b),(11,vI c),(5,s)] (OS AB 3 s t::L) λ_ _=>IX N c (D0 N d b (Gk N) Z) t=some r) ?_ ?_
   ·refine AU ?_;have af:=Y.mono' D;refine A4 E O O af Kk.1 O λan E ao ag=>?_;obtain⟨ap,_,ah⟩:=ag.lv;refine AU ?_;refine CP MS O u λaq ar F ai=>AU ?_;have aj:=ah.mono ai;obtain⟨au,av,aw,rfl,ax,ay,az,a0,a1,a2,a3,a4,a5,a6,a7,a8⟩:=CJ.ex aj;refine DU O O O ON MW.1 O F .head O λa9 x ba=>AU ?_;refine AG O E (λak E=>?_) (λak E=>?_)
    ·refine AU ?_;refine Ez (cs:=[vI c]) H5 O O O O O O O x λbb bc G be=>?_;obtain⟨H,E⟩:=KM E;refine Jw (r:=AB) (l:=j) (xs:=([c]:List Int)) O O H5 O mh ⟨_,_,O,⟨O,ad⟩,O⟩ O O H O G (λ_=>(.tail (.tail .head))) λam bf I bg=>?_;have J:=I.drop .head;refine AU ?_;refine WF.nil (λo p g i=>?_);have K:=J.sel [1] 1 O;exact⟨am,(j++([c]:List Int)),_,_,g.sub (kp [10,9,1,11,5] O),i,K,EX,E⟩
    refine AU ?_;refine WF.nil (λo p g i=>?_);have M:=x.sel [1] 1 O;exact⟨m,j,_,_,g.sub (kp [10,9,1,11,5] O),i,M,EX,E⟩
   rintro o p ⟨s,t,bh,bi,g,i,Q,bj,E⟩;refine AK ?_ g i;clear g i p o;rw[IX] at E;refine AU ?_;refine WF.nil (λo p g i=>?_);exact⟨s,t,(A9 (c+1)),_,_,g.sub (kp [10,9,1,5,11] O),i,Q,EX,(BF _),E⟩
  refine A8 O (λo p g i=>?_);exact⟨m,j,_,_,g.sub (kp [5] O),i,u,D,E⟩
 rintro o p ⟨y,z,bk,bl,g,i,U,bm,E⟩;refine AK ?_ g i;clear g i p o;rw[Gk] at E;refine AU ?_;cases E;exact KG U O O EX
def K0 (hs:St S L h) {q:Value}{J:AE}(F:Rd S h By q J) {s:Value}{t:AF}(G:Rd S h BA s t) {d:Int}(g:AA d) {r:Int}(E:GR N J t d=some r):
 B6 prog 39 #[q,s,vI d] S h (λv S' h'=>v=vI r∧AA r∧St S' (L) h'):=by
 refine A7 51 func39 O ntmps39 O λB=>?_;rw[GR] at E;refine AU ?_;refine Bz O F CE O hs λq1 S2 h3 av e5 k6=>?_;have k7:=G.mono e5;refine Bz O k7 CE O av λq8 S9 bu u aw M=>AU ?_;refine BY (.inl O) u ?_;have ax:=M.fl Fs;obtain⟨bv,_,ay⟩:=ax.ll;have X:=k6.mono aw;obtain⟨bw,_,az⟩:=X.lv;refine AU ?_;refine B4 E O O O rQ O (λY Z h' o=>SK (St.all h') (ay.mono' (o.all u.1)) (az.mono (o.all u.1)) g Z) λY E a0=>?_;have a1:=a0;refine AU ?_;refine BG (kp [7,4,3,2] O) λbx y a2=>AU ?_;refine B1 ?_;have a3:=X.mono a2;obtain⟨bz,_,a4⟩:=a3.lv;refine AU ?_;refine Cf E O O O rP O y (λz ab=>Ro (St.all _) (a4.mono y.ea) g ab) λz E H b0 Q bn b1 a5 p=>?_;have ac:=p;have K:=y.join a5 ac ⟨OS.flat (λ{_ _ _ _ _ _} k=>k),trivial⟩;simp only[Aa4,Aav] at K;refine AU ?_;refine AN (λa w=>∃(I:Int),IV B S9 Q (51,[]) a w [(7,vI I)] (L) λ_ _=>AA I∧Dr N I=some r) ?_ ?_
 ·refine AY (λn1=>λa w=>∃(l:Int) (m:Int),IV B S9 Q (51,[]) a w [(8,H),(4,q8),(7,vI l),(9,vI m)] (OS AB 3 H z::L) λ_ _=>AA l∧AA m∧Cn N t z (Dr N) n1 l m=some r) N ?_ ?_ ?_
  ·intro A C i j;exact⟨Y,0,_,_,i.sub (kp [8,4,7,9] O),j,K,(CG.refl S9 Q),a1,(iq (n:=0) O),E⟩
  ·rintro A C ⟨_,_,_,_,_,_,_,_,_,_,E⟩;rw[Cn] at E;cases E
  rintro n1 A C ⟨l,m,ad,ae,i,j,b,a6,af,b2,E⟩;refine AK ?_ i j;clear i j C A;rw[Cn] at E;refine AU ?_;refine AG O E (λa7 E=>?_) (λa7 E=>?_)
  ·refine AU ?_;refine AN (λa w=>∃(D:Int),IV B ad ae (51,[]) a w [(8,H),(4,q8),(9,vI m),(7,vI D)] (OS AB 3 H z::L) λ_ _=>AA D∧GQ N m (Cn N t z (Dr N) n1) D=some r) ?_ ?_
   ·refine AU ?_;refine I0 (.inr ⟨mo,by kernel_rfl⟩) (AU ?_);obtain⟨b3,ag,E⟩:=bd E;refine BT b mh O O Ce.1 ag O λb4 ah=>?_;obtain⟨a8,ai,E⟩:=bd E;have a9:=b.epAt mh ai Ff.id ah;refine FU K9 (λ_ x=>x) O a9 Gq.1 O λb5=>AU ?_;obtain⟨ba,c,E⟩:=bd E;refine AW 9 38 (.bool ba) ?_ ?_
    ·cases aj:(decide (0≤a8))
     ·have c:=Gw aj c;cases c;exact BD O O
     have c:=Gv aj c;refine AU ?_;obtain⟨b6,ak,c⟩:=bd c;refine BT b mh O O Ce.1 ak O λb7 al=>AU ?_;obtain⟨b8,am,c⟩:=bd c;have bb:=b.epAt mh am Ff.id al;refine FU K9 (λ_ x=>x) O bb Gq.1 O λb9=>?_;have ca:=M.nw;refine AU ?_;cases c;exact AX O
    refine AU ?_;refine AG O E (λbc E=>?_) (λbc E=>?_)
    ·refine BY (.inr ⟨mo,by kernel_rfl⟩) b ?_;have be:=M.nw;have bf:=be.fl FL;obtain⟨cb,_,bg⟩:=bf.ll;refine AU ?_;obtain⟨cc,an,E⟩:=bd E;refine BT b mh O O Ce.1 an O λcd ao=>?_;obtain⟨ce,ap,E⟩:=bd E;have bh:=b.epAt mh ap Ff.id ao;refine FU Od (λ_ x=>x) O bh Gq.1 O λcf=>?_;refine A4 E O O bg IP.1 O λcg E ch bi=>?_;obtain⟨ci,_,bj⟩:=bi.ll;refine AU ?_;refine B4 E O O O L9 O (λaq ar h' o=>C1 (St.all h') (bj.mono' (o.all b.1)) ar) λaq E bk=>?_;have cj:=bk;refine AU ?_;refine BG (kp [7,8,4,9] O) λck U au=>WF.nil (λA C i j=>?_);exact⟨(A9 (l+aq)),_,_,i.sub (kp [8,4,9,7] O),j,U,au,(BF _),E⟩
    refine AU ?_;refine WF.nil (λA C i j=>?_);exact⟨l,_,_,i.sub (kp [8,4,9,7] O),j,b,(CG.refl ad ae),af,E⟩
   rintro A C ⟨D,bo,bp,i,j,V,bq,bl,E⟩;refine AK ?_ i j;clear i j C A;rw[GQ] at E;refine AU ?_;refine WF.nil (λA C i j=>?_);exact⟨D,(A9 (m+1)),_,_,i.sub (kp [8,4,7,9] O),j,V,EX,bl,(BF _),E⟩
  refine A8 O (λA C i j=>?_);have W:=b.drop .head;exact⟨l,_,_,i.sub (kp [7] O),j,W,a6,af,E⟩
 rintro A C ⟨I,br,bs,i,j,bm,bt,cl,E⟩;refine AK ?_ i j;clear i j C A;rw[Dr] at E;exact RT
def M1 (hs:St S L h) {ag:Value}{d:AE}(a7:Rd S h By ag d) {ah:Value}{k:AF}(a8:Rd S h BA ah k) {W:Value}{ai:(List Cs)}(A:Sl S h G0 W ai) (dn:ER N=some true) (E:GS N d k ai=some true):
 B6 prog 8 #[ag,ah,W] S h (λv S' h'=>v= .bool true∧St S' (L) h'):=by
 refine A7 185 func8 O ntmps8 O λB=>?_;rw[GS] at E;refine AU ?_;refine Bz O a7 CE O hs λq1 S2 h3 dp e5 k6=>?_;have k7:=a8.mono e5;refine Bz O k7 CE O dp λq8 S9 fm b1 fn dq=>AU ?_;refine BY (.inl O) b1 ?_;refine A5 E O O O wI O (λF b2 h' o=>PC (St.all h') dn b2) λF E=>AU ?_;refine BG (kp [7,4,3,2] O) λfo aj dr=>AU ?_;refine BY (.inl O) aj ?_;have b3:=k6.nw;obtain⟨fp,_,ds⟩:=b3.lv;have b4:=dq.mono dr;obtain⟨fq,_,dt⟩:=b4.lv;refine AU ?_;have du:=A.nw;refine A5 E O O O wH O (λdv b5 h' o=>OV (St.all h') (ds.mono (o.all aj.1)) (dt.mono (o.all aj.1)) (du.mono' (o.all aj.1)) b5) λdv E=>AU ?_;refine BG (kp [27,7,4,3,2] O) λfr b6 b7=>AG O E (λdw E=>?_) (λdw E=>?_)
 ·exact RT
 refine AU ?_;refine B1 ?_;have b8:=b3.mono b7;obtain⟨fs,_,dx⟩:=b8.lv;have b9:=b4.mono b7;obtain⟨ft,_,dy⟩:=b9.lv;refine AU ?_;have dz:=A.nw;refine BQ E O O O mN O (λy ca=>Ou b6 dx dy dz ca) λy E fu fv fw bg p=>?_;obtain⟨fx,U,fy,rfl,cb⟩:=p;refine AU ?_;refine B1 ?_;have cc:=b8.mono bg;obtain⟨fz,_,d0⟩:=cc.lv;have cd:=b9.mono bg;obtain⟨f0,_,d1⟩:=cd.lv;refine AU ?_;have d2:=A.mono' ((e5.trans EX).trans bg);refine BQ E O O O mM O (λu ce=>Qk cb d0 d1 d2 ce) λu E f1 bh f2 f3 p=>?_;obtain⟨d3,cf⟩:=p;refine CP M2 O cf λV f4 cg d4=>?_;have ch:=d3.mono d4;obtain⟨aq,ar,au,av,aw,ax,rfl,f5,f6,f7,f8,f9,ga,gb⟩:=BA.ex ch;refine DU O O O ON ID.1 O cg .head O λbi ci gc=>AU ?_;refine AN (λa w=>IV B bh bi (185,[]) a w [(7,.bool F)] (L) λ_ _=>CF N F=some true) ?_ ?_
 ·refine AY (λn1=>λa w=>∃(G:Int) (l:Int),IV B bh bi (185,[]) a w [(11,vP V 0),(9,U),(7,.bool F),(4,q8),(3,q1),(12,vI G),(13,vI l)] (Bx V 36 [vI u.C,aq,ar,au,av,aw,ax]::OS BO 74 U y.2.1::L) λ_ _=>AA G∧AA l∧B3 N d k y u (CF N F) n1 G l=some true) N ?_ ?_ ?_
  ·intro I J i j;have cj:=ci.sel [0,1] 2 O;exact⟨0,0,_,_,i.sub (kp [11,9,7,4,3,12,13] O),j,cj,(CG.refl bh bi),(iq (n:=0) O),(iq (n:=0) O),E⟩
  ·rintro I J ⟨_,_,_,_,_,_,_,_,_,_,E⟩;rw[B3] at E;cases E
  rintro n1 I J ⟨G,l,bj,gd,i,j,Z,ck,ge,bk,E⟩;refine AK ?_ i j;clear i j J I;rw[B3] at E;refine AU ?_;refine AG O E (λcl E=>?_) (λcl E=>?_)
  ·refine AU ?_;refine A3 (AU ?_);refine BY (.inl O) Z ?_;have X:=cc.nw;obtain⟨d6,_,cm⟩:=X.lv;refine AU ?_;obtain⟨c,bl,E⟩:=bd E;refine H6 (v:= .tuple #[vI c.1,vI c.2]) (Ψ:=AA c.1∧AA c.2) O O O mI O (λh' o=>(Ot (St.all h') (cm.mono (o.all Z.1)) ((Z.oslAll (mt mh)).mono (λb hb=>Aak hb o.siz) (λb hb=>o.same b hb)) bk bl).mono λ_ _ _ _ p=>⟨p.1,⟨p.2.1,p.2.2.1⟩⟩) λcn=>?_;obtain⟨d7,co⟩:=cn;refine AU ?_;refine BG (kp [15,14,11,9,7,4,3,12,13] O) λay bm d8=>AU ?_;refine AN (λa w=>∃(ak:Int) (am:Int) (an:Int),IV B bj ay (185,[]) a w [(15,vI c.2),(14,vI c.1),(11,vP V 0),(9,U),(7,.bool F),(4,q8),(3,q1),(12,vI G),(13,vI l),(16,vI ak),(17,vI am),(18,vI an)] (Bx V 36 [vI u.C,aq,ar,au,av,aw,ax]::OS BO 74 U y.2.1::L) λ_ _=>AA ak∧AA am∧AA an∧DG N d k u G l c (B3 N d k y u (CF N F) n1) ak am an=some true) ?_ ?_
   ·refine AY (λn3=>λa w=>∃(K:Int) (s:Int) (t:Int) (z:Int),IV B bj ay (185,[]) a w [(15,vI c.2),(14,vI c.1),(11,vP V 0),(9,U),(7,.bool F),(4,q8),(3,q1),(12,vI G),(13,vI l),(16,vI K),(17,vI s),(18,vI t),(19,vI z)] (Bx V 36 [vI u.C,aq,ar,au,av,aw,ax]::OS BO 74 U y.2.1::L) λ_ _=>AA K∧AA s∧AA t∧AA z∧BW N d y l (DG N d k u G l c (B3 N d k y u (CF N F) n1)) n3 K s t z=some true) N ?_ ?_ ?_
    ·intro I J i j;exact⟨0,0,0,0,_,_,i.sub (kp [15,14,11,9,7,4,3,12,13,16,17,18,19] O),j,bm,(CG.refl bj ay),(iq (n:=0) O),(iq (n:=0) O),(iq (n:=0) O),(iq (n:=0) O),E⟩
    ·rintro I J ⟨_,_,_,_,_,_,_,_,_,_,_,_,_,_,E⟩;rw[BW] at E;cases E
    rintro n3 I J ⟨K,s,t,z,ao,cp,i,j,ab,cq,a9,az,a0,d9,E⟩;refine AK ?_ i j;clear i j J I;rw[BW] at E;refine AU ?_;refine AG O E (λcr E=>?_) (λcr E=>?_)
    ·refine AU ?_;refine AN (λa w=>∃(ac:Int) (ad:Int) (ae:Int),IV B ao cp (185,[]) a w [(15,vI c.2),(14,vI c.1),(11,vP V 0),(9,U),(7,.bool F),(4,q8),(3,q1),(12,vI G),(13,vI l),(19,vI z),(16,vI ac),(17,vI ad),(18,vI ae)] (Bx V 36 [vI u.C,aq,ar,au,av,aw,ax]::OS BO 74 U y.2.1::L) λ_ _=>AA ac∧AA ad∧AA ae∧DF N z (BW N d y l (DG N d k u G l c (B3 N d k y u (CF N F) n1)) n3) ac ad ae=some true) ?_ ?_
     ·refine AU ?_;obtain⟨ea,bn,E⟩:=bd E;refine BT ab (mt mh) O O UA.1 bn O λeb bo=>?_;obtain⟨H,bp,E⟩:=bd E;have cs:=ab.epAt (mt mh) bp Ff.id bo;refine Q7 K9 (λ_ x=>x) O cs T6.1 CE O λec ct=>AU ?_;refine CP Ve O ab λba ed bq cu=>?_;have cv:=ct.mono cu;obtain⟨cw,rfl,ee,ef,eg,eh,cx⟩:=BO.ex cv;refine DU O O O ON T6.1 O bq .head O λei a1 cy=>AU ?_;refine BY (.inl O) a1 (AU ?_);have cz:=cx.mono' cy;refine B4 E O O O L9 O (λY br h' o=>C1 (St.all h') (cz.mono' (o.all a1.1)) br) λY E c0=>?_;have ej:=c0;refine AU ?_;refine BG (kp [21,20,15,14,11,9,7,4,3,12,13,16,17,18,19] O) λa2 a3 ek=>?_;have el:=X.nw;have em:=X.nw;refine AU ?_;refine Tb O (λa4=>?_) (λa4=>?_)
      ·cases Gv a4 E
      have E:=Gw a4 E;refine AU ?_;obtain⟨c1,m,E⟩:=bd E;refine AW 10 112 (.bool c1) ?_ ?_
      ·cases bb:(decide (H.D=(-1)))
       ·have m:=Gw bb m;cases m;exact BD O O
       have m:=Gv bb m;have c2:=X.nw;have c3:=c2.fl BZ;obtain⟨en,_,c4⟩:=c3.ll;refine AU ?_;refine A4 m O O c4 Kk.1 O λeo m ep eq=>AU ?_;cases m;exact AX O
      refine AU ?_;refine Gx (λa w=>∃(M:Int),IV B ao a2 (185,[]) a w [(21,vI Y),(20,vP ba 0),(15,vI c.2),(14,vI c.1),(11,vP V 0),(9,U),(7,.bool F),(4,q8),(3,q1),(12,vI G),(13,vI l),(17,vI s),(18,vI t),(19,vI z),(16,vI M)] (Bx ba 74 [vI H.C,vI H.D,vI H.B,vI H.Ap,cw]::Bx V 36 [vI u.C,aq,ar,au,av,aw,ax]::OS BO 74 U y.2.1::L) λ_ _=>AA M∧Dt N d l s t H Y (DF N z (BW N d y l (DG N d k u G l c (B3 N d k y u (CF N F) n1)) n3)) M=some true) ?_ ?_
      ·refine AG O E (λc5 E=>?_) (λc5 E=>?_)
       ·refine AU ?_;refine WF.nil (λI J i j=>?_);exact⟨(A9 (K+Y)),_,_,i.sub (kp [21,20,15,14,11,9,7,4,3,12,13,17,18,19,16] O),j,a3,(CG.refl ao a2),(BF _),E⟩
       refine AU ?_;refine WF.nil (λI J i j=>?_);exact⟨K,_,_,i.sub (kp [21,20,15,14,11,9,7,4,3,12,13,17,18,19,16] O),j,a3,(CG.refl ao a2),a9,E⟩
      rintro I J ⟨M,er,es,i,j,af,eu,a5,E⟩;refine AK ?_ i j;clear i j J I;rw[Dt] at E;refine AU ?_;obtain⟨c6,q,E⟩:=bd E;refine AW 10 134 (.bool c6) ?_ ?_
      ·cases bc:((decide (0≤H.D))&&(decide (H.B=(-1))))
       ·have q:=Gw bc q;cases q;exact BD O O
       have q:=Gv bc q;have c7:=X.nw;have c8:=c7.fl BZ;obtain⟨ev,_,c9⟩:=c8.ll;refine AU ?_;refine A4 q O O c9 Kk.1 O λew q ey ez=>AU ?_;cases q;exact AX O
      refine AU ?_;refine AG O E (λda E=>?_) (λda E=>?_)
      ·refine AU ?_;refine AG O E (λdb E=>?_) (λdb E=>?_)
       ·refine AU ?_;refine WF.nil (λI J i j=>?_);have bs:=af.sel [1,1] 1 O;exact⟨M,(A9 (s+Y)),t,_,_,i.sub (kp [15,14,11,9,7,4,3,12,13,19,16,17,18] O),j,bs,EX,a5,(BF _),a0,E⟩
       refine AU ?_;refine WF.nil (λI J i j=>?_);have bt:=af.sel [1,1] 1 O;exact⟨M,s,(A9 (t+Y)),_,_,i.sub (kp [15,14,11,9,7,4,3,12,13,19,16,17,18] O),j,bt,EX,a5,az,(BF _),E⟩
      refine AU ?_;refine WF.nil (λI J i j=>?_);have bu:=af.sel [1,1] 1 O;exact⟨M,s,t,_,_,i.sub (kp [15,14,11,9,7,4,3,12,13,19,16,17,18] O),j,bu,EX,a5,az,a0,E⟩
     rintro I J ⟨ac,ad,ae,e0,e1,i,j,bv,e2,dc,dd,de,E⟩;refine AK ?_ i j;clear i j J I;rw[DF] at E;refine AU ?_;refine WF.nil (λI J i j=>?_);exact⟨ac,ad,ae,(A9 (z+1)),_,_,i.sub (kp [15,14,11,9,7,4,3,12,13,16,17,18,19] O),j,bv,EX,dc,dd,de,(BF _),E⟩
    refine A8 O (λI J i j=>?_);exact⟨K,s,t,_,_,i.sub (kp [15,14,11,9,7,4,3,12,13,16,17,18] O),j,ab,cq,a9,az,a0,E⟩
   rintro I J ⟨ak,am,an,e3,e4,i,j,Q,e6,e7,e8,e9,E⟩;refine AK ?_ i j;clear i j J I;rw[DG] at E;refine AU ?_;refine BY (.inr ⟨mo,by kernel_rfl⟩) Q (AU ?_);obtain⟨df,g,E⟩:=bd E;refine AW 18 165 (.bool df) ?_ ?_
   ·cases be:(decide (c.1≠G))
    ·have g:=Gw be g;have bf:=X.nw;obtain⟨fa,_,dg⟩:=bf.lv;refine AU ?_;have ap:=ch.nw;obtain⟨fb,bw,g⟩:=bd g;refine PN O O O mH O (λh' o=>K0 (St.all h') (dg.mono (o.all Q.1)) (ap.mono (o.all Q.1)) bk bw) λdh=>?_;have fc:=dh;obtain⟨fd,_,di⟩:=bf.lv;have dj:=cd.nw;obtain⟨fe,_,dk⟩:=dj.lv;refine AU ?_;refine B4 g O O O mH O (λdl bx h' o=>K0 (St.all h') (di.mono (o.all Q.1)) (dk.mono (o.all Q.1)) bk bx) λdl g dm=>?_;have ff:=dm;refine AU ?_;cases g;exact AX O
    have g:=Gv be g;cases g;exact BD O O
   refine AU ?_;refine BG (kp [182,15,11,9,7,4,3,13] O) λfg bz fh=>Tb O (λa6=>?_) (λa6=>?_)
   ·cases Gv a6 E
   have E:=Gw a6 E;refine AU ?_;refine BE (AU ?_);refine WF.nil (λI J i j=>?_);exact⟨c.2,(A9 (l+1)),_,_,i.sub (kp [11,9,7,4,3,12,13] O),j,bz,EX,co,(BF _),E⟩
  refine A8 O (λI J i j=>?_);have b0:=Z.sel [] 2 O;exact⟨_,_,i.sub (kp [7] O),j,b0,ck,E⟩
 rintro I J ⟨fi,fj,i,j,d5,fk,E⟩;refine AK ?_ i j;clear i j J I;rw[CF] at E;exact RT
abbrev Df {α}(x:Option α):Prop:=∃v,x=some v
def NP (n:Int):IntKind.u64.wrap n=n%18446744073709551616:=by simp [IntKind.wrap,IntKind.bits,IntKind.signed]
def Ee (a:Nat) (b:a<18446744073709551616):IntKind.u64.wrap (a:Int)=a:=by rw[NP];omega
def RE {n:Int}(a:IntKind.u64.has n):IntKind.u64.wrap n=n:=by
 simp [IntKind.has,IntKind.min,IntKind.max,IntKind.bits,IntKind.signed] at a;rw[NP];omega
def OQ {n:Int}:IntKind.u64.has n↔0≤n∧n≤18446744073709551615:=by simp [IntKind.has,IntKind.min,IntKind.max,IntKind.bits,IntKind.signed]
def dD {n:Int}(b:IntKind.u64.has n):∃a:Nat,n=a∧a<18446744073709551616:=by
 rw[OQ] at b;exact⟨n.toNat,by omega,by omega⟩
def Wy (a j:Nat) (b:j≤64):EJ .u64 (a:Int) j=((a/2^j:Nat):Int):=by
 unfold EJ;have e:min j IntKind.u64.bits=j:=by simp [IntKind.bits];omega
 rw[e,Int.fdiv_eq_ediv_of_nonneg _ (Int.le_of_lt (Int.pow_pos (by decide)))];simp
def yL (a b:Nat) (g:a<18446744073709551616) (i:b<18446744073709551616):FJ .and .u64 (a:Int) (b:Int)=((a&&&b:Nat):Int):=by
 have c:(BitVec.ofInt 64 (a:Int)).toNat=a:=by rw[BitVec.ofInt_natCast,BitVec.toNat_ofNat];exact Ac5 (by omega)
 have d:(BitVec.ofInt 64 (b:Int)).toNat=b:=by rw[BitVec.ofInt_natCast,BitVec.toNat_ofNat];exact Ac5 (by omega)
 have j:a&&&b<2^64:=Nat.and_lt_two_pow _ (by omega);show IntKind.u64.wrap (((BitVec.ofInt 64 (a:Int))&&&(BitVec.ofInt 64 (b:Int))).toNat:Int)=_
 rw[BitVec.toNat_and,c,d,Ee _ (by omega)]
def TH (a:Nat) (b:a<18446744073709551616):FJ .and .u64 (a:Int) 4294967295=((a%4294967296:Nat):Int):=by
 have c:=yL a 4294967295 b (by omega);have e:a&&&4294967295=a%4294967296:=Nat.and_two_pow_sub_one_eq_mod a 32;rw[e] at c;exact c
def On (a:Nat):EJ .u64 (a:Int) 32=((a/4294967296:Nat):Int):=Wy a 32 (by omega)
def Qq (a b:Nat):(a:Int)*(b:Int)=((a*b:Nat):Int):=(Int.natCast_mul a b).symm
def Ua (a b:Nat):(a:Int)+(b:Int)=((a+b:Nat):Int):=(Int.natCast_add a b).symm
def lI (a:Nat):IntKind.u64.wrap (a:Int)=((a%18446744073709551616:Nat):Int):=by rw[NP];omega
def TG (N x y:Nat) (k:x<18446744073709551616) (l:y<18446744073709551616):HT N (x:Int) (y:Int)=some (((x*y/18446744073709551616:Nat):Int),((x*y%18446744073709551616:Nat):Int)):=by
 obtain⟨bd,m,n,c⟩:=Lib.mul64_hi x y k l;have p:=Lib.half_mul_le (a:=x/4294967296) (b:=y/4294967296) (by omega) (by omega);have q:=Lib.half_mul_le (a:=x/4294967296) (b:=y%4294967296) (by omega) (by omega);have s:=Lib.half_mul_le (a:=x%4294967296) (b:=y/4294967296) (by omega) (by omega);have d:x/4294967296*(y/4294967296)<18446744073709551616:=by omega
 have g:x/4294967296*(y%4294967296)<18446744073709551616:=by omega
 have i:x%4294967296*(y/4294967296)<18446744073709551616:=by omega
 have j:x/4294967296*(y/4294967296)+(x/4294967296*(y%4294967296)+x%4294967296*(y%4294967296)/4294967296)/4294967296<18446744073709551616:=by omega
 have o:x/4294967296*(y/4294967296)+(x/4294967296*(y%4294967296)+x%4294967296*(y%4294967296)/4294967296)/4294967296+((x/4294967296*(y%4294967296)+x%4294967296*(y%4294967296)/4294967296)%4294967296+x%4294967296*(y/4294967296))/4294967296<18446744073709551616:=by omega
 simp only[HT,On,TH x k,TH y l,Qq,Ua,Ee _ bd,Ee _ g,Ee _ m,TH _ m,Ee _ i,Ee _ n,Ee _ d,Ee _ j,Ee _ o,lI (x*y)];rw[c]
def Ln (x n:Nat):Prop:=1≤n∧2^(n-1)≤x∧x<2^n
def Ln.shift {x m s:Nat}(g:Ln (x/2^s) m):Ln x (m+s):=by
 obtain⟨d,b,c⟩:=g;have a:0<2^s:=Adf s;refine⟨by omega,?_,?_⟩
 ·have:2^(m-1)*2^s≤x:=(Nat.le_div_iff_mul_le a).1 b;rw[show m+s-1=(m-1)+s by omega,Nat.pow_add];exact this
 ·have:=(Adv a).1 c;rw[Nat.pow_add];exact this
set_option maxRecDepth 20000 in
def xR:∀k:Nat,k<256→VD NG (k:Int)=some (((if k=0 then 0 else k.log2+1:Nat)):Int):=by decide +kernel
def gW {k:Nat}(h0:0<k) (a:k<256):∃n:Nat,VD NG (k:Int)=some (n:Int)∧Ln k n∧n≤8:=by
 have e:=xR k a;rw[zY (by omega)] at e;refine⟨_,e,⟨by omega,?_,Nat.lt_log2_self⟩,?_⟩
 ·rw[Nat.add_sub_cancel];exact Nat.log2_self_le (by omega)
 ·have:k.log2<8:=(Nat.log2_lt (by omega)).2 a;omega
def cT (N:Nat) {x:Nat}(h0:0<x) (u:x<18446744073709551616):∃n:Nat,IT N (x:Int)=some (n:Int)∧Ln x n∧n≤64:=by
 have c:∀a:Nat,a<9223372036854775808→A9 (a:Int)=a:=λa v=>RH (by unfold AA;omega);have l:∀a:Nat,a<256→IntKind.u8.wrap (a:Int)=a:=λa v=>by simp [IntKind.wrap,IntKind.bits,IntKind.signed];omega
 have o:∀a b:Nat,0<a→a<256→b≤56→∃n:Nat,GJ N (a:Int) (b:Int)=some ((n+b:Nat):Int)∧Ln a n∧n≤8:=λa b j k p=>by
  obtain⟨n,d,g,i⟩:=gW j k;refine⟨n,?_,g,i⟩;simp only[GJ,l a k,d,zU,c n (by omega),Ua,Nat.add_comm b n,c (n+b) (by omega)]
 have q:∀a b:Nat,0<a→a<65536→b≤48→∃n:Nat,GK N (a:Int) (b:Int)=some ((n+b:Nat):Int)∧Ln a n∧n≤16:=λa b j k p=>by
  unfold GK;by_cases s:256≤a
  ·rw[show decide ((256:Int)≤(a:Int))=true by simp;omega,zV,Wy a 8 (by omega)];have m:A9 ((b:Int)+8)=((b+8:Nat):Int):=by rw[show ((b:Int)+8)=((b+8:Nat):Int) by omega];exact c _ (by omega)
   rw[m];obtain⟨n,d,g,i⟩:=o (a/2^8) (b+8) (by omega) (by omega) (by omega);exact⟨n+8,by rw[d,show n+(b+8)=n+8+b by omega],g.shift,by omega⟩
  ·rw[show decide ((256:Int)≤(a:Int))=false by simp;omega,zX];obtain⟨n,d,g,i⟩:=o a b j (by omega) (by omega);exact⟨n,d,g,by omega⟩
 have t:∀a b:Nat,0<a→a<4294967296→b≤32→∃n:Nat,GL N (a:Int) (b:Int)=some ((n+b:Nat):Int)∧Ln a n∧n≤32:=λa b j k p=>by
  unfold GL;by_cases s:65536≤a
  ·rw[show decide ((65536:Int)≤(a:Int))=true by simp;omega,zV,Wy a 16 (by omega)];have m:A9 ((b:Int)+16)=((b+16:Nat):Int):=by rw[show ((b:Int)+16)=((b+16:Nat):Int) by omega];exact c _ (by omega)
   rw[m];obtain⟨n,d,g,i⟩:=q (a/2^16) (b+16) (by omega) (by omega) (by omega);exact⟨n+16,by rw[d,show n+(b+16)=n+16+b by omega],g.shift,by omega⟩
  ·rw[show decide ((65536:Int)≤(a:Int))=false by simp;omega,zX];obtain⟨n,d,g,i⟩:=q a b j (by omega) (by omega);exact⟨n,d,g,by omega⟩
 unfold IT;by_cases s:4294967296≤x
 ·rw[show decide ((4294967296:Int)≤(x:Int))=true by simp;omega,zV,Wy x 32 (by omega)];obtain⟨n,d,g,i⟩:=t (x/2^32) 32 (by omega) (by omega) (by omega);exact⟨n+32,by rw[show ((32:Int))=((32:Nat):Int) from rfl,d],g.shift,by omega⟩
 ·rw[show decide ((4294967296:Int)≤(x:Int))=false by simp;omega,zX];obtain⟨n,d,g,i⟩:=t x 0 h0 (by omega) (by omega);exact⟨n,d,g,by omega⟩
def lU (N:Nat) {y:Nat}(h0:0<y) (a:y<18446744073709551616):∃s:Nat,Eo N (y:Int)=some (s:Int)∧s≤63∧9223372036854775808≤y*2^s∧y*2^s<18446744073709551616:=by
 obtain⟨n,b,⟨g,c,d⟩,i⟩:=cT N h0 a;refine⟨64-n,?_,by omega,?_,?_⟩
 ·simp only[Eo,b,zU];rw[RH (by unfold AA;omega)];congr 1;omega
 ·have:=Aby (2^(64-n)) c;rw[←Nat.pow_add,show n-1+(64-n)=63 by omega] at this;exact this
 ·have:=Nat.mul_lt_mul_of_pos_right d (Adf (64-n));rw[←Nat.pow_add,show n+(64-n)=64 by omega] at this;exact this
def Df.mk {α}(v:α):Df (some v):=⟨v,rfl⟩
def Df.bind {α β}{a:Option α}{f:α→Option β}(d:Df a) (k:∀v,a=some v→Df (f v)):Df (a.bind f):=by
 obtain⟨v,b⟩:=d;obtain⟨u,c⟩:=k v b;exact⟨u,by rw[b];exact c⟩
def Df.cond {α}{b:Bool}{x y:Option α}(a:b=true→Df x) (c:b=false→Df y):Df (cond b x y):=by
 cases b
 ·exact c rfl
 ·exact a rfl
def Fo {α}(b:Bool) (x y:α):cond b (some x) (some y)=some (cond b x y):=by cases b<;>rfl
def BM {α}{l:List α}{i:Nat}(a:i<l.length):ix l (i:Int)=some l[i]:=by simp [ix,a]
def Df.ix {α}{l:List α}{i:Int}(h0:0≤i) (a:i<l.length):Df (ix l i):=by
 obtain⟨j,rfl⟩:∃j:Nat,i=j:=⟨i.toNat,by omega⟩
 exact⟨_,BM (by omega)⟩
def C7 {n:Int}(h0: -9223372036854775808≤n) (a:n≤9223372036854775807):A9 n=n:=RH ⟨h0,a⟩
def pL {n:Int}:∃j,QK (IntKind.u64.wrap n)=some j∧(j:Int)=IntKind.u64.wrap n:=by
 have:=(OQ.1 (Ct .u64 n)).1;exact⟨(IntKind.u64.wrap n).toNat,by unfold QK;rw[zY (by omega)],by omega⟩
def W6 {k:IntKind}{x y:Int}(a:y≠0):Df (SO k x y):=⟨_,by unfold SO;rw[zY a]⟩
def oF {x y:Int}(a:y≠0):Df (Uq x y):=⟨_,by unfold Uq;rw[zY a]⟩
def dR (N:Nat) (c y:Int) (b a:Nat) (kj:Int→Option (Int×Int)) (d:∀v,Df (kj v)):∀(n:Nat) (q r:Int),IntKind.u64.has q→q.toNat<n→Df (DC N c y b a kj n q r)
 |0,q,r,k,g=>by omega
 |n+1,q,r,k,g=>by
  have j:=OQ.1 k;unfold DC;refine Df.cond (λi=>?_) λ_=>d _;have h0:q≠0:=by
   rintro rfl;have:=(OQ.1 (Ct .u64 (IntKind.u64.wrap (4294967296*r)+EJ .u64 (Dh .u64 c a) 32))).1;simp [NP] at i this;omega
  have e:IntKind.u64.wrap (q-1)=q-1:=RE (OQ.2 (by omega));refine Df.cond (λ_=>d _) λ_=>?_;exact dR N c y b a kj d n _ _ (Ct _ _) (by rw[e];omega)
def dQ (N:Nat) (c y:Int) (b a:Nat) (kj:Int→Option (Int×Int)) (d:∀v,Df (kj v)):∀(n:Nat) (r q:Int),IntKind.u64.has q→q.toNat<n→Df (DX N c y b a kj n r q)
 |0,r,q,k,g=>by omega
 |n+1,r,q,k,g=>by
  have j:=OQ.1 k;unfold DX;refine Df.cond (λi=>?_) λ_=>d _;have h0:q≠0:=by
   rintro rfl;have:=(OQ.1 (Ct .u64 (IntKind.u64.wrap (4294967296*r)+FJ .and .u64 (Dh .u64 c a) 4294967295))).1;simp [NP] at i this;omega
  have e:IntKind.u64.wrap (q-1)=q-1:=RE (OQ.2 (by omega));refine Df.cond (λ_=>d _) λ_=>?_;exact dQ N c y b a kj d n _ _ (Ct _ _) (by rw[e];omega)
def BN:Nat:=36893488147419103232
def wW:18446744073709551616<BN:=by decide
def iL {a s:Nat}(j:s≤63) (c:9223372036854775808≤a*2^s) (b:a*2^s<18446744073709551616):EJ .u64 (Dh .u64 (a:Int) s) 32≠0:=by
 have d:Dh .u64 (a:Int) s=((a*2^s:Nat):Int):=by
  unfold Dh;have g:min s IntKind.u64.bits=s:=by simp [IntKind.bits];omega
  have i:((a:Int)*2^s)=((a*2^s:Nat):Int):=by simp
  rw[g,i];exact Ee _ b
 rw[d,On];generalize a*2^s=t at c b
 omega
def pI (N:Nat) (i k y g:Int) (a b c d:Nat) (q v:Int):Df (Ep N i k y g a b c d q v):=by
 unfold Ep;obtain⟨j,l,_⟩:=pL (n:=g);rw[l];exact Df.mk _
def pJ {N:Nat}(o:18446744073709551616<N) (l k y m:Int) (b g i c:Nat) (q:Int) (hd:EJ .u64 (Dh .u64 y b) 32≠0):Df (DY N l k y m b g i c q):=by
 unfold DY;refine Df.bind (W6 hd) λj d=>?_;have a:=Ox d;have n:=(OQ.1 a)
 exact dQ N k y b c _ (λv=>pI _ _ _ _ _ _ _ _ _ _ _) N _ j a (by omega)
def WW {N:Nat}(A:18446744073709551616<N) {o q y:Int}(B:IntKind.u64.has o) (h2:IntKind.u64.has q) (C:IntKind.u64.has y) (h:o<y):Df (FZ N o q y):=by
 have g1:=OQ.1 B;have g:y≠0:=by omega
 have t:¬y≤o:=by omega
 unfold FZ;refine Df.cond (λp=>absurd (Ab8 p) g) λ_=>Df.cond (λp=>absurd (Ab8 p) t) λ_=>Df.cond (λ_=>?_) λ_=>?_
 ·exact Df.bind (W6 g) λ_ _=>Df.bind (oF g) λ_ _=>Df.mk _
 ·obtain⟨D,u,F⟩:=dD C;obtain⟨s,G,H,I,J⟩:=lU N (show 0<D by omega) F;have hd:∀j:Nat,(j:Int)=IntKind.u64.wrap (s:Int)→EJ .u64 (Dh .u64 y j) 32≠0:=λj K=>by
   rw[Ee s (by omega)] at K;have:j=s:=by omega
   rw[this,u];exact iL H I J
  rw[u,G];rw[←u];refine Df.bind (Df.mk _) λw x=>?_;have i:w=(s:Int):=(zZ x).symm;obtain⟨k,M,Q⟩:=pL (n:=w);obtain⟨U,V,_⟩:=pL (n:=(64-IntKind.u64.wrap w));have l:=hd k (by rw[Q,i]);rw[M,V];refine Df.bind (Df.mk _) λa W=>Df.bind (Df.mk _) λb hb=>Df.bind (Df.mk _) λc p=>Df.bind (Df.mk _) λd X=>?_;have Y:=zZ W;rw[←Y];refine Df.bind (W6 l) λz Z=>?_;have m:=Ox Z;have aa:=OQ.1 m;exact dR N q y k d _ (λv=>pJ A _ _ _ _ _ _ _ _ _ l) N z _ m (by omega)
def bS {N:Nat}(g:18446744073709551616<N) (a num den:Int):Df (Fk N a num den):=by
 unfold Fk;refine Df.cond (λ_=>Df.mk _) λb=>?_;simp only[Aa2,Aat] at b;obtain⟨⟨⟨⟨⟨l,m⟩,o⟩,p⟩,q⟩,s⟩:=b;obtain⟨c,i⟩:∃n:Nat,a=n:=⟨a.toNat,by omega⟩
 obtain⟨d,j⟩:∃n:Nat,num=n:=⟨num.toNat,by omega⟩
 subst i;subst j;rw[Ee c (by omega),Ee d (by omega),TG N c d (by omega) (by omega)];simp only[zU];have hd:IntKind.u64.wrap den=den:=RE (OQ.2 (by omega));rw[hd];refine Df.cond (λ_=>Df.mk _) λb=>?_;simp only[Aat] at b;have k:c*d<18446744073709551616*18446744073709551616:=Nat.mul_lt_mul'' (by omega) (by omega);refine Df.bind (WW g (OQ.2 ⟨by omega,by omega⟩) (OQ.2 ⟨by omega,by omega⟩) (OQ.2 (by omega)) (by omega)) λv _=>?_;exact Df.cond (λ_=>Df.mk _) λ_=>Df.mk _
def NT {N:Nat}(c:18446744073709551616<N) {num den:Int}(h0:0≤num) (k:0≤den) (l:den≤9223372036854775807):Df (Fl N num den):=by
 unfold Fl;refine Df.cond (λ_=>Df.mk _) λd=>?_;simp only[Aat] at d;refine Df.cond (λ_=>Df.mk _) λa=>?_;simp only[Aat] at a;obtain⟨b,g⟩:∃n:Nat,num=n:=⟨num.toNat,by omega⟩
 obtain⟨i,j⟩:∃n:Nat,den=n:=⟨den.toNat,by omega⟩
 subst g;subst j;rw[Ee b (by omega),Ee i (by omega),show(1099511627776:Int)=((1099511627776:Nat):Int) from rfl,TG N b 1099511627776 (by omega) (by omega)];simp only[zU];refine Df.bind (WW c (OQ.2 ⟨by omega,by omega⟩) (OQ.2 ⟨by omega,by omega⟩) (OQ.2 (by omega)) (by omega)) λv _=>?_;exact Df.cond (λ_=>Df.mk _) λ_=>Df.mk _
def oR {i j:Nat}(b:i+j<9223372036854775808):A9 (EJ .u64 (IntKind.u64.wrap (A9 ((i:Int)+(j:Int)))) 1)=(((i+j)/2:Nat):Int):=by
 have a:A9 ((i:Int)+(j:Int))=((i+j:Nat):Int):=by rw[C7 (by omega) (by omega)];rfl
 rw[a,Ee _ (by omega),Wy _ 1 (by omega),C7 (by omega) (by omega)]
def RP {N:Nat}(f:Int→Option Bool) (L:Nat) (c:L<4611686018427387904) (a:∀i:Nat,i<L→Df (f i)) (kj:Int→Option Int):∀(n i j:Nat),i≤j→j≤L→j-i<n→(0<i→f ((i-1:Nat):Int)=some false)→(j<L→f (j:Int)=some true)→
  ∃r:Nat,GI N f kj n (i:Int) (j:Int)=kj (r:Int)∧r≤L∧(0<r→f ((r-1:Nat):Int)=some false)∧(r<L→f (r:Int)=some true)
 |0,i,j,_,_,p,_,_=>by omega
 |n+1,i,j,m,d,o,g,k=>by
  unfold GI;by_cases l:i<j
  ·rw[show decide ((i:Int)<(j:Int))=true by simp;omega,zV,oR (by omega)];obtain⟨v,b⟩:=a ((i+j)/2) (by omega);rw[b];simp only[zU];cases v
   ·simp only[Bool.not_false,zV];have e:A9 ((((i+j)/2:Nat):Int)+1)=(((i+j)/2+1:Nat):Int):=by rw[C7 (by omega) (by omega)];rfl
    rw[e];exact RP f L c a kj n _ j (by omega) d (by omega) (λ_=>by rw[Nat.add_sub_cancel];exact b) k
   ·simp only[Abo,zX];exact RP f L c a kj n i _ (by omega) (by omega) (by omega) g (λ_=>b)
  ·have e:i=j:=by omega
   subst e;rw[show decide ((i:Int)<(i:Int))=false by simp,zX];exact⟨i,rfl,d,g,k⟩
def ZI {N:Nat}(f:Int→Option Bool) (L:Nat) (a:L<4611686018427387904) (g:L<N) (b:∀i:Nat,i<L→Df (f i)):∃r:Nat,LY N (L:Int) f=some (r:Int)∧r≤L∧(0<r→f ((r-1:Nat):Int)=some false)∧(r<L→f (r:Int)=some true):=by
 obtain⟨r,c,d⟩:=RP (N:=N) f L a b (Ij N) N 0 L (Aad _) (Aal _) (by omega) (λj=>absurd j (by omega)) (λj=>absurd j (by omega));exact⟨r,c,d⟩
def JD (n:Int):Prop:=0≤n∧n≤1125899906842624
def IA (c:List BU):Prop:=1≤c.length∧c.length≤32∧∀(k:Nat) p,c[k]? =some p→JD p.R∧JD p.W∧∀q,0<k→c[k-1]? =some q→q.R<p.R∧q.W≤p.W
def WY {N:Nat}(c:List BU) (o:c.length≤32):∀(n k:Nat),c.length<n+k→k≤c.length→∃v,EL N c (G8 N) n (k:Int)=some v∧(v=true→∀(i:Nat) p,k≤i→c[i]? =some p→JD p.R∧JD p.W∧∀q,0<i→c[i-1]? =some q→q.R<p.R∧q.W≤p.W)
 |0,k,A,s=>by omega
 |n+1,k,A,s=>by
  unfold EL;by_cases g:k<c.length
  ·rw[show decide ((k:Int)<(c.length:Int))=true by simp;omega,zV,BM g];simp only[zU];cases t:(decide ((c[k]).R<0)||decide (1125899906842624<(c[k]).R)||decide ((c[k]).W<0)||decide (1125899906842624<(c[k]).W))
   ·simp only[zX];simp only[Aa2,Aat] at t;obtain⟨v,u,l⟩:=WY (N:=N) c o n (k+1) (by omega) (by omega);have w:A9 ((k:Int)+1)=((k+1:Nat):Int):=by rw[C7 (by omega) (by omega)];rfl
    rw[w,u];by_cases h0:0<k
    ·have x:A9 ((k:Int)-1)=((k-1:Nat):Int):=by rw[C7 (by omega) (by omega)];omega
     rw[show decide ((0:Int)<(k:Int))=true by simp;omega,x,BM (show k-1<c.length by omega)];simp only[zV,zU,Fo];cases b:cond (decide ((c[k]).R≤(c[k-1]).R)) true (decide ((c[k]).W<(c[k-1]).W))
     ·simp only[zX];refine⟨v,rfl,λd i p m a=>?_⟩;by_cases e:i=k
      ·subst e;have:p=c[i]:=by simpa [g] using a.symm
       subst this;refine⟨⟨by omega,by omega⟩,⟨by omega,by omega⟩,λq _ y=>?_⟩;have:q=c[i-1]:=by simpa [show i-1<c.length by omega] using y.symm
       subst this;cases j:decide ((c[i]).R≤(c[i-1]).R) with
       |true=>rw[j] at b;simp at b
       |false=>
        rw[j] at b;simp only[zX,Aat] at b j;omega
      ·exact l d i p (by omega) a
     ·exact⟨false,rfl,λA=>by cases A⟩
    ·have z:k=0:=by omega
     subst z;rw[show decide ((0:Int)<((0:Nat):Int))=false by simp];simp only[zX,zU];refine⟨v,rfl,λd i p m a=>?_⟩;by_cases e:i=0
     ·subst e;have:p=c[0]:=by simpa [g] using a.symm
      subst this;exact⟨⟨by omega,by omega⟩,⟨by omega,by omega⟩,λq A _=>absurd A (by omega)⟩
     ·exact l d i p (by omega) a
   ·exact⟨false,rfl,λA=>by cases A⟩
  ·rw[show decide ((k:Int)<(c.length:Int))=false by simp;omega,zX];refine⟨true,rfl,λ_ i p m a=>?_⟩;have:=(Aai.1 a).1;omega
def Jg {N:Nat}(j:33<N) (c:List BU):∃v,EM N c=some v∧(v=true→IA c):=by
 unfold EM;cases a:(decide ((c.length:Int)<1)||decide (32<(c.length:Int)))
 ·simp only[Aa2,Aat] at a;obtain⟨v,b,d⟩:=WY (N:=N) c (by omega) N 0 (by omega) (by omega);exact⟨v,b,λg=>⟨by omega,by omega,λk p i=>d g k p (by omega) i⟩⟩
 ·exact⟨false,rfl,λl=>by cases l⟩
def Sh {N:Nat}(b:18446744073709551616<N) {c:List BU}(l:1≤c.length) (m:c.length≤32) (x:Int):Df (Ic N c x):=by
 unfold Ic;obtain⟨r,d,n,_⟩:=ZI (N:=N) (λy=>IL N c x y) c.length (by omega) (by omega) λi g=>by
  unfold IL;rw[BM g];exact Df.mk _
 rw[d];simp only[zU];refine Df.cond (λ_=>Df.bind (Df.ix (by omega) (by omega)) λ_ _=>Df.mk _) λj=>?_;simp only[Aat] at j;have k:A9 ((r:Int)-1)=((r-1:Nat):Int):=by rw[C7 (by omega) (by omega)];omega
 rw[k];refine Df.bind (Df.ix (by omega) (by omega)) λ_ _=>Df.cond (λ_=>Df.mk _) λa=>?_;simp only[Aat] at a;exact Df.bind (Df.ix (by omega) (by omega)) λ_ _=>Df.bind (Df.ix (by omega) (by omega)) λ_ _=>Df.bind (bS b _ _ _) λ_ _=>Df.mk _
end Go.Proofs.YtedgiljmffngoaaGreat
