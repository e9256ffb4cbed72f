import Derived.Test.YtedgiljmffngoaaGreatPInst
import Derived.Test.YtedgiljmffngoaaGreatPForms
import Derived.Test.YtedgiljmffngoaaGreatPSort5
import Derived.Test.YtedgiljmffngoaaGreatPWalk0
import Derived.Test.YtedgiljmffngoaaGreatPWalk9
import Derived.Test.YtedgiljmffngoaaGreatPWalk11
import Derived.Test.YtedgiljmffngoaaGreatPWalk16
import Derived.Test.YtedgiljmffngoaaGreatPWalk17
namespace Go.Proofs.YtedgiljmffngoaaGreat
set_option linter.all false
open Go.RowKit
open Go.Proofs.Tryz
set_option maxRecDepth 10000
set_option maxHeartbeats 20000000
variable {N:Nat}{S:Nat→Prop}{L:List HP}{h:AS}
def Oq {b:Nat}{m:(List (AC×AJ))}(hs:St S (MP (λk:AC=>Value.agg (AC.v k).toArray) (λk:AJ=>Value.agg #[vI (A9 k.hi),.int .u64 (IntKind.wrap .u64 k.lo)]) b m::L) h) {c:Value}{d:AI}(l:Rd S h BO c d) {r:(List (AC×AJ))}(E:KY N m d=some r):
 B6 prog 104 #[.map (some b),c] S h (λv S' h'=>v= .tuple #[]∧St S' (MP (λk:AC=>Value.agg (AC.v k).toArray) (λk:AJ=>Value.agg #[vI (A9 k.hi),.int .u64 (IntKind.wrap .u64 k.lo)]) b r::L) h'):=by
 refine A7 30 func104 O ntmps104 O λB=>?_;rw[KY] at E;refine AU ?_;refine Bz O l CE O hs λq1 S2 h3 t e5 K=>AU ?_;refine Gx (λa w=>∃(q:(List (AC×AJ))),IV B S2 h3 (30,[]) a w [(3,q1),(0,.map (some b))] (MP (λk:AC=>Value.agg (AC.v k).toArray) (λk:AJ=>Value.agg #[vI (A9 k.hi),.int .u64 (IntKind.wrap .u64 k.lo)]) b q::L) λ_ _=>H7 N d q=some r) ?_ ?_
 ·refine AG O E (λM E=>?_) (λM E=>?_)
  ·refine B1 ?_;have Q:=K.fl AI.f_Part;obtain⟨am,_,U⟩:=Q.ll;refine AU ?_;refine BQ E O O O QP O (λu x=>Ei t (iq (n:=2) O) (iq (n:=(-1)) O) U x) λu E an ao ap V p=>?_;obtain⟨rfl,y⟩:=p;refine AU ?_;refine WF.nil (λz A g j=>?_);exact⟨u,_,_,g.sub (kp [3,0] O),j,y,V,E⟩
  refine B1 ?_;have W:=K.fl AI.f_To;have X:=W.i;have Y:=K.fl AI.f_Part;obtain⟨aq,_,Z⟩:=Y.ll;refine AU ?_;refine BQ E O O O QP O (λC D=>Ei t (iq (n:=0) O) X Z D) λC E ar au av ab p=>?_;obtain⟨rfl,F⟩:=p;refine AU ?_;refine WF.nil (λz A g j=>?_);exact⟨C,_,_,g.sub (kp [3,0] O),j,F,ab,E⟩
 rintro z A ⟨q,aw,ax,g,j,o,ac,E⟩;refine AK ?_ g j;clear g j A z;rw[H7] at E;have s:=K.mono ac;refine AU ?_;refine AG O E (λad E=>?_) (λad E=>?_)
 ·refine B1 ?_;have ae:=s.fl AI.f_Part;obtain⟨ay,_,af⟩:=ae.ll;refine AU ?_;refine BQ E O O O QP O (λag G=>Ei o (iq (n:=1) O) (iq (n:=(-1)) O) af G) λag E az a0 a1 a2 p=>?_;obtain⟨rfl,H⟩:=p;refine AU ?_;refine WF.nil (λz A g j=>?_);cases E;exact JC g O j JB O EX ⟨O,H⟩
 refine B1 ?_;have ah:=s.fl AI.f_From;have ai:=ah.i;have aj:=s.fl AI.f_Part;obtain⟨a3,_,ak⟩:=aj.ll;refine AU ?_;refine BQ E O O O TW O (λal I=>HL o (iq (n:=0) O) ai ak I) λal E a4 a5 a6 a7 p=>?_;obtain⟨rfl,J⟩:=p;refine AU ?_;refine WF.nil (λz A g j=>?_);cases E;exact JC g O j JB O EX ⟨O,J⟩
def OG (hs:St S L h) {F:Value}{I:AE}(ad:Rd S h By F I) {y:Value}{u:AF}(J:Rd S h BA y u) {z:Value}{x:AF}(M:Rd S h BA z x) {b:Value}{c:(List AI)}(i:Sl S h BO b c) {r:Bool}(E:Le N I u x c=some r):
 B6 prog 28 #[F,y,z,b] S h (λv S' h'=>v= .bool r∧St S' (L) h'):=by
 refine A7 67 func28 O ntmps28 O λB=>?_;rw[Le] at E;refine AU ?_;refine Bz O ad CE O hs λq1 S2 h3 b4 e5 k6=>?_;have k7:=J.mono e5;refine Bz O k7 CE O b4 λq8 S9 d1 a7 d2 b5=>?_;have b6:=M.nw;refine Bz O b6 CE O a7 λa8 ak d3 A b7 a9=>AU ?_;refine BY (.inl O) A ?_;have am:=k6.nw;obtain⟨d4,_,b8⟩:=am.lv;have ba:=b5.mono b7;obtain⟨d5,_,b9⟩:=ba.lv;refine AU ?_;refine A5 E O O O mD O (λbb bc h' o=>M5 (St.all h') (b8.mono (o.all A.1)) (b9.mono (o.all A.1)) bc) λbb E=>AU ?_;obtain⟨ca,j,E⟩:=bd E;refine AW 5 25 (.bool ca) ?_ ?_
 ·cases be:(!bb)
  ·have j:=Gw be j;obtain⟨d6,_,cb⟩:=am.lv;obtain⟨d7,_,cc⟩:=a9.lv;refine AU ?_;refine A5 j O O O mD O (λcd bf h' o=>M5 (St.all h') (cb.mono (o.all A.1)) (cc.mono (o.all A.1)) bf) λcd j=>AU ?_;cases j;exact AX O
  have j:=Gv be j;cases j;exact BD O O
 refine BG (kp [25,6,5,4,3] O) λan bg ce=>AG O E (λcf E=>?_) (λcf E=>?_)
 ·exact RT
 have cg:=i.nw;refine AU ?_;refine AN (λa w=>IV B ak an (67,[]) a w [(6,a8),(5,q8),(3,b)] (L) λ_ _=>Js N u x c=some r) ?_ ?_
 ·refine AY (λn1=>λa w=>∃(Q:Int),IV B ak an (67,[]) a w [(27,vI (↑c.length:Int)),(26,b),(6,a8),(5,q8),(4,q1),(3,b),(28,vI Q)] (L) λ_ _=>AA Q∧In N I c (Js N u x c) n1 Q=some r) N ?_ ?_ ?_
  ·intro m s d g;exact⟨0,_,_,d.sub (kp [27,26,6,5,4,3,28] O),g,bg,(CG.refl ak an),(iq (n:=0) O),E⟩
  ·rintro m s ⟨_,_,_,_,_,_,_,_,E⟩;rw[In] at E;cases E
  rintro n1 m s ⟨Q,d8,d9,d,g,ae,bh,ea,E⟩;refine AK ?_ d g;clear d g s m;rw[In] at E;refine AU ?_;refine AG O E (λch E=>?_) (λch E=>?_)
  ·refine AU ?_;refine A3 (AU ?_);have ci:=cg.mono' bh;refine A4 E O O ci UA.1 O λeb E ec cj=>?_;obtain⟨ed,_,ck⟩:=cj.lv;refine AU ?_;refine CP Ve O ae λee ef bi cl=>?_;have bj:=ck.mono cl;obtain⟨eg,rfl,eh,ei,ej,ek,el⟩:=BO.ex bj;refine DU O O O ON T6.1 O bi .head O λem U cm=>AU ?_;refine BY (.inl O) U ?_;have cn:=am.nw;obtain⟨en,_,co⟩:=cn.lv;refine AU ?_;have V:=bj.mono cm;obtain⟨eo,bk,E⟩:=bd E;refine K3 O O O rX O (λh' o=>RW (St.all h') (co.mono (o.all U.1)) (V.mono (o.all U.1)) bk) (AU ?_);refine BG (kp [35,27,26,6,5,4,3,28] O) λep bl eq=>AG O E (λcp E=>?_) (λcp E=>?_)
   ·exact RT
   refine AU ?_;refine BE (AU ?_);refine WF.nil (λm s d g=>?_);have bm:=bl.drop .head;exact⟨(A9 (Q+1)),_,_,d.sub (kp [27,26,6,5,4,3,28] O),g,bm,EX,(BF _),E⟩
  refine A8 O (λm s d g=>?_);exact⟨_,_,d.sub (kp [6,5,3] O),g,ae,bh,E⟩
 rintro m s ⟨er,es,d,g,bn,eu,E⟩;refine AK ?_ d g;clear d g s m;rw[Js] at E;refine AU ?_;refine fX (K:=0) (E:=0) O bn (λk:AC=>Value.agg (AC.v k).toArray) (λk:AJ=>Value.agg #[vI (A9 k.hi),.int .u64 (IntKind.wrap .u64 k.lo)]) λW ev bo ew=>AU ?_;refine B1 ?_;have cq:=a9.nw;obtain⟨cu,_,bp⟩:=cq.lv;refine AU ?_;refine PM O O O (AU ?_);refine BQ E O O O eQ O (λbq ao=>ME bo bp ao) λbq E cv cw cx br p=>?_;obtain⟨rfl,ap⟩:=p;refine AU ?_;refine B1 ?_;have bs:=ba.mono ((ce.trans EX).trans br);obtain⟨cy,_,bt⟩:=bs.lv;refine AU ?_;refine PM O O O (AU ?_);refine BQ E O O O eQ O (λaf aq=>MD ap bt aq) λaf E cz X Y c0 p=>?_;obtain⟨rfl,ar⟩:=p;have bu:=i.nw;refine AU ?_;refine AN (λa w=>∃(t:(List (AC×AJ))),IV B X Y (67,[]) a w [(11,.map (some W))] (MP (λk:AC=>Value.agg (AC.v k).toArray) (λk:AJ=>Value.agg #[vI (A9 k.hi),.int .u64 (IntKind.wrap .u64 k.lo)]) W t::L) λ_ _=>Jr N t=some r) ?_ ?_
 ·refine AY (λn3=>λa w=>∃(C:Int) (G:(List (AC×AJ))),IV B X Y (67,[]) a w [(49,vI (↑c.length:Int)),(48,b),(11,.map (some W)),(50,vI C)] (MP (λk:AC=>Value.agg (AC.v k).toArray) (λk:AJ=>Value.agg #[vI (A9 k.hi),.int .u64 (IntKind.wrap .u64 k.lo)]) W G::L) λ_ _=>AA C∧Im N c (Jr N) n3 C G=some r) N ?_ ?_ ?_
  ·intro m s d g;exact⟨0,af,_,_,d.sub (kp [49,48,11,50] O),g,ar,(CG.refl X Y),(iq (n:=0) O),E⟩
  ·rintro m s ⟨_,_,_,_,_,_,_,_,_,E⟩;rw[Im] at E;cases E
  rintro n3 m s ⟨C,G,c1,c2,d,g,Z,ag,c3,E⟩;refine AK ?_ d g;clear d g s m;rw[Im] at E;refine AU ?_;refine AG O E (λbv E=>?_) (λbv E=>?_)
  ·refine AU ?_;refine A3 (AU ?_);have bw:=bu.mono' ag;refine A4 E O O bw UA.1 O λc4 E c5 bx=>?_;obtain⟨c6,_,bz⟩:=bx.lv;refine AU ?_;refine CP Ve O Z λc7 c8 au b0=>?_;have ah:=bz.mono b0;obtain⟨c9,rfl,da,db,dc,dd,de⟩:=BO.ex ah;refine DU O O O ON T6.1 O au .head O λdf av b1=>AU ?_;refine B1 (AU ?_);have aw:=av.pick (.tail .head);have H:=ah.mono b1;obtain⟨b2,ax,E⟩:=bd E;refine Ed O O O rW O (Oq aw H ax) λdg dh di dj p=>?_;obtain⟨rfl,ay⟩:=p;refine AU ?_;refine BE (AU ?_);refine WF.nil (λm s d g=>?_);have az:=ay.drop (.tail .head);exact⟨(A9 (C+1)),b2,_,_,d.sub (kp [49,48,11,50] O),g,az,EX,(BF _),E⟩
  refine A8 O (λm s d g=>?_);exact⟨G,_,_,d.sub (kp [11] O),g,Z,ag,E⟩
 rintro m s ⟨t,ai,dk,d,g,a0,dl,E⟩;refine AK ?_ d g;clear d g s m;rw[Jr] at E;refine AU ?_;refine Zl a0 O Sk O λab aj a1 dm=>AU ?_;refine A3 (AY (λn1=>λa w=>∃(l:List (AC×AJ)) (S':Nat→Prop) (h':AS),Fr (67,[]) a [(59,(vP ab 0))]∧Wd B h' w∧St S' (MI (λk:AC=>Value.agg (AC.v k).toArray) (λk:AJ=>Value.agg #[vI (A9 k.hi),.int .u64 (IntKind.wrap .u64 k.lo)]) W ab t l::L) h'∧CG ai aj S' h'∧l.length<n1∧cond (List.all l (λe=>(Jp N e).isNone)) (Jq N) (some false)=some r) (t.length+1) ?_ ?_ ?_)
 ·intro m s d g;exact⟨t,_,_,d.sub (kp [59] O),g,a1,(CG.refl ai aj),Nat.lt_succ_self _,E⟩
 ·rintro m s ⟨_,_,_,_,_,_,_,a2,_⟩;exact absurd a2 (Nat.not_lt_zero _)
 rintro n1 m s ⟨l,dn,dp,d,g,ac,dq,a2,E⟩;refine AK ?_ d g;clear d g s m;refine AU ?_;refine fW ac O O (λD=>?_) (λdr ds dt du D a3 dv cr=>?_)
 ·subst D;have E:Jq N=some r:=E;rw[Jq] at E;have ct:=ac.miMP;refine AU ?_;exact Tc O (KH O (RT))
 subst D;have E:=ZU (f:=Jp N) (λ_ _ hy=>dY hy) E;rw[Jp] at E;simp only[iK,Option.some_or,Option.none_or] at E;refine AU ?_;refine VH O (AU ?_);refine A3 (AU ?_);refine L6 2 (Zh O cr O (AU ?_));refine CP Wm O a3 λdw dx a4 dy=>?_;refine C0 O O O O Sn.1 O a4 .head O λdz a5 d0=>AU ?_;refine FV (cs:=[vI 0,.int .u64 0]) Wv O O O (fJ O O pB O O O O (AU ?_));refine AG O E (λb3 E=>?_) (λb3 E=>?_)
 ·exact RT
 refine AU ?_;refine BE (WF.nil (λm s d g=>?_));have a6:=a5.sel [1] 1 O;exact⟨_,_,_,d.sub (kp [59] O),g,a6,EX,(by simp only[Aas,Abm] at a2 ⊢;omega),E⟩
def OT (hs:St S L h) (E:ER N=some true):
 B6 prog 24 #[] S h (λv S' h'=>v= .bool true∧St S' (L) h'):=by
 refine A7 180 func24 O ntmps24 O λB=>?_;rw[ER] at E;refine AU ?_;refine B1 ?_;refine BQ E O O O vY O (λy1 qa=>OU hs qa) λy1 E v2 S3 h4 e5 p=>?_;obtain⟨k7,qb⟩:=p;refine CP lF O qb λb9 wn nd qc=>?_;have a0:=k7.mono qc;obtain⟨ck,cl,cm,cn,co,cp,cq,cr,rfl,db,wo,dc,wp,wr,wt,wu,wv,wx,wy,dd⟩:=By.ex a0;refine DU O O O ON aM.1 O nd .head O λwz ne nf=>AU ?_;refine B1 (AU ?_);have ct:=a0.mono nf;obtain⟨ak,ng,E⟩:=bd E;refine Ed O O O wF O (Sq ne ct (iq (n:=5) O) ng) λw2 w3 w4 w5 p=>?_;obtain⟨qd,nh⟩:=p;refine CP M2 O nh λen w6 ni qe=>?_;have a7:=qd.mono qe;obtain⟨bh,bi,bj,bk,bl,bm,rfl,cu,w7,w8,w9,xa,xb,xc⟩:=BA.ex a7;refine DU O O O ON ID.1 O ni .head O λxd nj xe=>AU ?_;refine B1 (AU ?_);refine Ez (cs:=[vI 10]) H5 O O O O O O O nj λnk xf nl xg=>AU ?_;have nm:=nl.bxos (r:=AB) (l:=([10]:List Int)) .head ⟨_,_,O,⟨O,(iq (n:=10) O)⟩,O⟩ (by simp [maxLen]);obtain⟨xh,nn,xi,qf⟩:=nm.pubs .head;refine FV (cs:=[(.slice (some ⟨nk,0,none⟩) 1 1),vN,vN,vN,vN]) tX O O O (AU ?_);refine Ez (cs:=[(.slice (some ⟨nk,0,none⟩) 1 1),vN,vN,vN,vN]) vT O O O O O O O nn λxj xk no qg=>?_;have qh:=qf.mono' qg;have np:=no.bxos (r:=G0) (l:=Rc) .head ⟨_,_,O,⟨_,_,_,_,_,O,qh,(.inl ⟨O,O⟩),(.inl ⟨O,O⟩),(.inl ⟨O,O⟩),(.inl ⟨O,O⟩)⟩,O⟩ (by simp [maxLen,Rc]);obtain⟨xl,nq,xm,qi⟩:=np.pubs .head;have cv:=a0.nw;have ce:=a7.nw;obtain⟨ab,eo,E⟩:=bd E;refine Ed O O O mN O (Ou nq cv ce qi eo) λth ti tj tk p=>?_;obtain⟨dx,dy,dz,rfl,ep⟩:=p;refine AU ?_;refine Ez (cs:=[vI 10]) H5 O O O O O O O ep λd0 tl eq tm=>AU ?_;have er:=eq.bxos (r:=AB) (l:=([10]:List Int)) .head ⟨_,_,O,⟨O,(iq (n:=10) O)⟩,O⟩ (by simp [maxLen]);obtain⟨tn,es,tp,nr⟩:=er.pubs .head;refine FV (cs:=[vI 3,vI 0,vI 0,vI 0,(.slice (some ⟨d0,0,none⟩) 1 1)]) T9 O O O (AU ?_);refine Ez (cs:=[vI 2,vI 3]) H5 O O O O O O O es λd1 tq eu tr=>AU ?_;have ev:=eu.bxos (r:=AB) (l:=([2,3]:List Int)) .head ⟨_,_,O,⟨O,(iq (n:=2) O)⟩,⟨_,_,O,⟨O,(iq (n:=3) O)⟩,O⟩⟩ (by simp [maxLen]);obtain⟨ts,ew,tt,ns⟩:=ev.pubs .head;refine FV (cs:=[vI 3,vI 0,vI 0,vI 0,(.slice (some ⟨d1,0,none⟩) 2 2)]) T9 O O O (AU ?_);refine Ez (cs:=[vI 7]) H5 O O O O O O O ew λd2 tu ey tv=>AU ?_;have ez:=ey.bxos (r:=AB) (l:=([7]:List Int)) .head ⟨_,_,O,⟨O,(iq (n:=7) O)⟩,O⟩ (by simp [maxLen]);obtain⟨tw,e0,tx,nt⟩:=ez.pubs .head;refine FV (cs:=[vI 5,vI 0,vI 0,vI 0,(.slice (some ⟨d2,0,none⟩) 1 1)]) T9 O O O (AU ?_);refine Ez (cs:=[vI 9]) H5 O O O O O O O e0 λd3 ty e1 tz=>AU ?_;have e2:=e1.bxos (r:=AB) (l:=([9]:List Int)) .head ⟨_,_,O,⟨O,(iq (n:=9) O)⟩,O⟩ (by simp [maxLen]);obtain⟨t0,e3,t1,nu⟩:=e2.pubs .head;refine FV (cs:=[vI 4,vI 1,vI 0,vI 0,(.slice (some ⟨d3,0,none⟩) 1 1)]) T9 O O O (AU ?_)
 refine Ez (cs:=[vI 3,vI 0,vI 0,vI 0,(.slice (some ⟨d0,0,none⟩) 1 1),vI 3,vI 0,vI 0,vI 0,(.slice (some ⟨d1,0,none⟩) 2 2),vI 5,vI 0,vI 0,vI 0,(.slice (some ⟨d2,0,none⟩) 1 1),vI 4,vI 1,vI 0,vI 0,(.slice (some ⟨d3,0,none⟩) 1 1)]) UT O O O O O O O e3 λt2 t3 e4 nv=>AU ?_;refine B1 (AU ?_);have nx:=nu.mono' nv;have ny:=nt.nw;have nz:=ns.nw;have n0:=nr.nw;have e6:=e4.bxos (r:=BO) (l:=Rb) .head ⟨_,_,O,⟨_,O,(iq (n:=3) O),(iq (n:=0) O),(iq (n:=0) O),(iq (n:=0) O),n0⟩,⟨_,_,O,⟨_,O,(iq (n:=3) O),(iq (n:=0) O),(iq (n:=0) O),(iq (n:=0) O),nz⟩,⟨_,_,O,⟨_,O,(iq (n:=5) O),(iq (n:=0) O),(iq (n:=0) O),(iq (n:=0) O),ny⟩,⟨_,_,O,⟨_,O,(iq (n:=4) O),(iq (n:=1) O),(iq (n:=0) O),(iq (n:=0) O),nx⟩,O⟩⟩⟩⟩ (by simp [maxLen,Rb]);obtain⟨t4,a2,t5,n1⟩:=e6.pubs .head;refine Cf E O O O wG O a2 (λd4 e7=>Uo (St.all _) (n1.mono a2.ea.1 a2.ea.2) (iq (n:=0) O) (iq (n:=2) O) (iq (n:=6) O) e7) λd4 E au t6 t7 qj t8 n2 p=>?_;have e8:=p;have cw:=a2.join n2 e8 ⟨OS.flat (λ{_ _ _ _ _ _} k=>k),trivial⟩;simp only[Aa4,Aav] at cw;refine AU ?_;refine B1 (AU ?_);have cf:=a0.nw;obtain⟨d5,e9,E⟩:=bd E;refine Ed O O O mG O (Qj cw cf (by first|assumption|decide) e9) λt9 cx ua ub p=>?_;obtain⟨uc,rfl,n3,fa⟩:=p;refine AU ?_;refine CP M2 O fa λn4 ud fb n5=>?_;have n6:=n3.mono n5;obtain⟨n7,n8,n9,oa,ob,oc,rfl,ue,uf,ug,uh,ui,uj,uk⟩:=BA.ex n6;refine DU O O O ON ID.1 O fb .head O λb8 W ul=>AU ?_;refine TZ (kp [9,7,5,4,3,2,1] O) ?_;obtain⟨d6,fc,E⟩:=bd E;obtain⟨Q,fd,E⟩:=bd E;refine YZ (m:=[(9,.bool d5.2),(7,au),(5,dz),(4,dy),(3,dx),(2,vP en 0),(1,vP b9 0)]) [8,9] [6] [7] (λX i v g=>match i with|0=>v= .agg #[.string y1.J,ck,vI y1.P,cl,cm,cn,co,cp,cq,cr,vI y1.S]∧y1.J.size≤maxLen∧AA y1.P∧AA y1.S|1=>v= .agg #[vI ak.C,bh,bi,bj,bk,bl,bm]∧AA ak.C|2=>v= .string d6∧d6.size≤maxLen|3=>∃w0 w1:Value,v= .tuple #[w0,w1]∧(Rd (SX cx b8 g X) g BA w0 Q.1)∧(w1= .bool Q.2)|4=>∃w0 w1:Value,v= .tuple #[w0,w1]∧(Rd (SX cx b8 g X) g BA w0 Q.1)∧(w1= .bool Q.2)|5=>Rd (SX cx b8 g X) g BA v Q.1|6=>v= .bool Q.2|7=>Zs b8 36 [vI 0,vN,vN,vN,vN,vN,vN] v g|_=>False) [[],[],[(1,45)],[(0,44),(2,46)],[(3,47)],[(4,43)],[(4,43)],[],[],[]] [(5,48),(6,49),(7,10)] mo (by kernel_rfl) [9,7,5,4,3,2,1] O (by kernel_rfl) (by kernel_rfl) (by kernel_rfl) O (kp [9,7,5,4,3,2,1] O) (λi v h1 h2 X X' o1 o2 u1 u2 hr=>?_) (by kernel_rfl) (eX (T:=36) (λ_=>rfl) YV) ?_ ?_ ?_
 ·match i,hr with
   |0,hr|1,hr|2,hr|6,hr=>exact hr
   |3,hr|4,hr=>obtain⟨w0,w1,e,k0,k1⟩:=hr;exact⟨w0,w1,e,(Rd.mono k0 (SX.mono W.1 o1 o2 u1 u2)),k1⟩
   |5,hr=>exact(Rd.mono hr (SX.mono W.1 o1 o2 u1 u2))
   |7,hr=>exact hr.mono o2
   |_+8,hr=>exact hr.elim
 ·refine RC.cons [(4,43)] (by kernel_rfl) O O (by kernel_rfl) ?_ ?_
  ·intro X u g o;intro um od;obtain⟨oe,un,rfl,d7,og⟩:=od;have d7:Rd _ _ BA oe Q.1:=d7;cases og;intro a hf;exact⟨.bool Q.2,Wn hf O O,O⟩
  exact trivial
 ·refine Fq.cons O O O ?_ ?_
  ·intro X u g o hX;have d:=o.st W;refine AU ?_;exact BC ⟨O,db,dc,dd⟩
  refine Fq.cons O O O ?_ ?_
  ·intro X u g o hX;have d:=o.st W;refine AU ?_;exact BC ⟨O,cu⟩
  refine Fq.cons O O O ?_ ?_
  ·intro X u g o hX;intro uo oh;have d:=Mn (X:=X) W o;obtain⟨rfl,up⟩:=oh;have cg:=a7.nw;refine GV O O O mF O d (P0 (St.all _) (cg.mono d.ea) fc) λuq ur us qk ut d8 p=>?_;obtain⟨rfl,oi,ql⟩:=p;exact BB ⟨d8.siz,λb hb=>d8.same b hb⟩ ⟨O,oi⟩
  refine Fq.cons O O O ?_ ?_
  ·intro X u g o hX;intro uu oj uv ok;have d:=Mn (X:=X) W o;obtain⟨rfl,uw,ux,uy⟩:=oj;obtain⟨rfl,ol⟩:=ok;have fe:=d.fz;have ch:=a0.nw;refine Ed O O O mG O (Qj fe ch ol fd) λuz u0 u3 om p=>?_;obtain⟨u4,rfl,oo,ff⟩:=p;have cy:=SX.done o hX om ff;exact BB cy.1 ⟨_,_,O,(Rd.mono oo cy.2),O⟩
  refine Fq.cons O O O ?_ ?_
  ·intro X u g o hX;intro u5 op;have d:=Mn (X:=X) W o;obtain⟨oq,u6,rfl,cz,os⟩:=op;have cz:Rd _ _ BA oq Q.1:=cz;cases os;refine AU ?_;exact BC ⟨_,_,O,cz,O⟩
  refine Fq.cons O O O ?_ ?_
  ·intro X u g o hX;intro u7 ot;have d:=Mn (X:=X) W o;obtain⟨ou,u8,rfl,c0,ov⟩:=ot;have c0:Rd _ _ BA ou Q.1:=c0;cases ov;refine AU ?_;exact BC c0
  refine Fq.cons O O O ?_ ?_
  ·intro X u g o hX;intro u9 ow;have d:=o.st W;obtain⟨ox,va,rfl,d9,oy⟩:=ow;have d9:Rd _ _ BA ox Q.1:=d9;cases oy;refine AU ?_;exact BC O
  exact Fq.al (λ_=>rfl) M2 O (Fq.skip (by kernel_rfl) (Fq.skip (by kernel_rfl) (trivial)))
 intro vb vc oz fg o0 ca vd o3 ve o4 qm fh;obtain⟨eb,rfl,o5,o6,o7⟩:=o4;have fi:=(gL.cons (gL.nil W oz fg) o5 o6 o7 Aaw (fh.at_ (s:=10) (by kernel_rfl) O O)).st;have ca:Rd _ _ BA o0 Q.1:=ca;cases o3;obtain⟨ec,ed,ee,ef,eg,eh,rfl,vf,vg,vh,vi,vj,vk,vl⟩:=BA.ex ca;refine DU O O O ON ID.1 O fi .head O λvm bn vn=>AU ?_;refine BY (.inl O) bn (AU ?_);have ci:=a0.nw;obtain⟨K,fj,E⟩:=bd E;refine H6 (v:= .tuple #[vI K.1,vI K.2]) (Ψ:=AA K.1∧AA K.2) O O O mI O (λh' o=>(Ot (St.all h') (ci.mono (o.all bn.1)) ((bn.oslAll (mt (mt (mt (mt mh))))).mono (λb hb=>Aak hb o.siz) (λb hb=>o.same b hb)) (iq (n:=1) O) fj).mono λ_ _ _ _ p=>⟨p.1,⟨p.2.1,p.2.2.1⟩⟩) λo8=>?_;obtain⟨o9,pa⟩:=o8;refine AU ?_;refine BG (kp [13,12,11,10,9,7,5,4,3,2,1] O) λvo c1 pb=>AU ?_;refine BY (.inl O) c1 (AU ?_);have cj:=a0.mono ((((nf.trans EX).trans EX).trans EX).trans pb);obtain⟨vp,fk,E⟩:=bd E;refine K3 O O O mE O (λh' o=>OI (St.all h') (cj.mono (o.all c1.1)) fk) (AU ?_);refine BG (kp [85,13,12,10,7,4,3,2,1] O) λa1 ai vq=>Tb O (λc2=>?_) (λc2=>?_)
 ·cases Gv c2 E
 have E:=Gw c2 E;refine AU ?_;obtain⟨vr,fm,E⟩:=bd E;refine BT ai (mt (mt (mt mh))) O O Sv.1 fm O λvs fn=>XW O fn U7.1 O λvt fo=>?_;obtain⟨pc,fp,E⟩:=bd E;have pd:=ai.epAt (mt (mt (mt mh))) fp FL fo;refine I9 K9 (λ_ x=>x) O pd T7.1 O λvu vv=>AU ?_;obtain⟨ei,M,E⟩:=bd E;refine AW 9 101 (.bool ei) ?_ ?_
 ·cases ej:(decide ((↑pc.E.length:Int)≠3))
  ·have M:=Gw ej M;refine AU ?_;obtain⟨vw,fq,M⟩:=bd M;refine BT ai (mt (mt (mt mh))) O O Sv.1 fq O λvx fr=>AU ?_;refine XW O fr U7.1 O λvy fs=>AU ?_;obtain⟨vz,ft,M⟩:=bd M;have pe:=ai.epAt (mt (mt (mt mh))) ft FL fs;refine I9 K9 (λ_ x=>x) O pe T7.1 O λv0 pf=>AU ?_;refine A4 M O O pf IP.1 O λv3 M v4 v5=>AU ?_;cases M;exact AX O
  have M:=Gv ej M;cases M;exact BD O O
 refine AU ?_;obtain⟨pg,Y,E⟩:=bd E;refine AW 7 109 (.bool pg) ?_ ?_
 ·cases ek:ei
  ·have Y:=Gw ek Y;refine AU ?_;obtain⟨v6,fu,Y⟩:=bd Y;refine BT ai (mt (mt (mt mh))) O O Sv.1 fu O λv7 fv=>AU ?_;refine XW O fv jB.1 O λv8 fw=>AU ?_;obtain⟨v9,fx,Y⟩:=bd Y;have ph:=ai.epAt (mt (mt (mt mh))) fx HI fw;refine I9 K9 (λ_ x=>x) O ph Hc.1 O λwa wb=>AU ?_;cases Y;exact AX O
  have Y:=Gv ek Y;cases Y;exact BD O O
 refine AU ?_;refine Tb O (λc3=>?_) (λc3=>?_)
 ·cases Gv c3 E
 have E:=Gw c3 E;refine AU ?_;obtain⟨wc,fy,wd,cb⟩:=ai.pubs (.tail (.tail (.tail .head)));obtain⟨j,c,we,el⟩:=fy.pubs (.tail (.tail (.tail .head)));obtain⟨c4,f0,E⟩:=bd E;obtain⟨wf,Z,E⟩:=bd E;obtain⟨wg,U,E⟩:=bd E;obtain⟨wh,A,E⟩:=bd E;obtain⟨wi,y,E⟩:=bd E;obtain⟨wj,D,E⟩:=bd E;obtain⟨wk,z,E⟩:=bd E;obtain⟨wl,t,E⟩:=bd E;obtain⟨wm,G,E⟩:=bd E;obtain⟨pi,F,E⟩:=bd E;refine Gx (λa w=>IV B j a1 (180,[]) a w [(0,.bool pi)] (Bx eb 36 [vI Q.1.C,ec,ed,ee,ef,eg,eh]::Bx n4 36 [vI d5.1.C,n7,n8,n9,oa,ob,oc]::OS AB 3 au d4::OS (A6.sl AB) 29 dz ab.2.2::Bx en 36 [vI ak.C,bh,bi,bj,bk,bl,bm]::Bx b9 31 [.string y1.J,ck,vI y1.P,cl,cm,cn,co,cp,cq,cr,vI y1.S]::L) λ_ _=>True) ?_ ?_
 ·rcases jN c4 with aj|aj
  ·have Z:=Gw aj Z;have pj:=zZ Z;subst pj;have pk:=zZ U;subst pk;have pl:=zZ A;subst pl;have pm:=zZ y;subst pm;have pn:=zZ D;subst pn;have po:=zZ z;subst po;have pp:=zZ t;subst pp;have pq:=zZ G;subst pq;have pr:=zZ F;subst pr;cases E
  have Z:=Gv aj Z;obtain⟨em,f1,Z⟩:=bd Z;obtain⟨cc,f2,Z⟩:=bd Z;have ps:=zZ Z;subst ps;rcases jN cc with ac|ac
  ·have U:=Gw ac U;have pt:=zZ U;subst pt;have pu:=zZ A;subst pu;have pv:=zZ y;subst pv;have pw:=zZ D;subst pw;have px:=zZ z;subst px;have py:=zZ t;subst py;have pz:=zZ G;subst pz;have p0:=zZ F;subst p0;cases E
  have U:=Gv ac U;obtain⟨a3,de,U⟩:=bd U;obtain⟨a4,df,U⟩:=bd U;have f3:=zZ U;subst f3;rcases jN a4 with H|H
  ·have A:=Gw H A;have f4:=zZ A;subst f4;have f5:=zZ y;subst f5;have f6:=zZ D;subst f6;have f7:=zZ z;subst f7;have f8:=zZ t;subst f8;have f9:=zZ G;subst f9;have ga:=zZ F;subst ga;cases E
  have A:=Gv H A;obtain⟨a5,dg,A⟩:=bd A;obtain⟨c5,dh,A⟩:=bd A;obtain⟨av,di,A⟩:=bd A;have gb:=zZ A;subst gb;rcases jN (!av) with I|I
  ·have y:=Gw I y;have gc:=zZ y;subst gc;have gd:=zZ D;subst gd;have ge:=zZ z;subst ge;have gf:=zZ t;subst gf;have gg:=zZ G;subst gg;have gh:=zZ F;subst gh;cases E
  have y:=Gv I y;obtain⟨am,dj,y⟩:=bd y;obtain⟨a6,dk,y⟩:=bd y;obtain⟨ad,dl,y⟩:=bd y;have gi:=zZ y;subst gi;rcases jN (decide (ad=63)) with V|V
  ·have D:=Gw V D;have gj:=zZ D;subst gj;have gl:=zZ z;subst gl;have gm:=zZ t;subst gm;have gn:=zZ G;subst gn;have gp:=zZ F;subst gp;cases E
  have D:=Gv V D;obtain⟨an,dm,D⟩:=bd D;obtain⟨af,dn,D⟩:=bd D;have gq:=zZ D;subst gq;rcases jN (decide (af=15)) with ag|ag
  ·have z:=Gw ag z;have gr:=zZ z;subst gr;have gs:=zZ t;subst gs;have gt:=zZ G;subst gt;have gu:=zZ F;subst gu;cases E
  have z:=Gv ag z;obtain⟨qn,dp,z⟩:=bd z;obtain⟨ao,dq,z⟩:=bd z;have gv:=zZ z;subst gv;rcases jN (decide (ao=15)) with ah|ah
  ·have t:=Gw ah t;have gw:=zZ t;subst gw;have gx:=zZ G;subst gx;have gy:=zZ F;subst gy;cases E
  have t:=Gv ah t;obtain⟨qo,dr,t⟩:=bd t;obtain⟨ap,ds,t⟩:=bd t;have gz:=zZ t;subst gz;rcases jN (decide (ap=7)) with aq|aq
  ·have G:=Gw aq G;have g0:=zZ G;subst g0;have g1:=zZ F;subst g1;cases E
  have G:=Gv aq G;have g2:=zZ G;subst g2;rcases jN (decide (K.1=7)) with ar|ar
  ·have F:=Gw ar F;have g3:=zZ F;subst g3;cases E
  have F:=Gv ar F;have g4:=zZ F;subst g4;refine OJ (m:=[(13,vI K.2),(12,vI K.1),(10,vP eb 0),(7,au),(4,dy),(3,dx),(2,vP en 0),(1,vP b9 0)]) 71 (λi v g=>match i with|0=>v= .agg #[vI Q.1.C,ec,ed,ee,ef,eg,eh]∧AA Q.1.C|1=>v= .agg #[vI ak.C,bh,bi,bj,bk,bl,bm]∧AA ak.C|2=>v= .bool c4|3=>v= .bool c4|4=>v= .agg #[.string y1.J,ck,vI y1.P,cl,cm,cn,co,cp,cq,cr,vI y1.S]∧y1.J.size≤maxLen∧AA y1.P∧AA y1.S|5=>v= .agg #[vI ak.C,bh,bi,bj,bk,bl,bm]∧AA ak.C|6=>Rd (SN j a1 g) g BA v em|7=>v= .agg #[vI ak.C,bh,bi,bj,bk,bl,bm]∧AA ak.C|8=>v= .bool cc|9=>v= .bool cc|10=>v= .bool cc|11=>v= .agg #[.string y1.J,ck,vI y1.P,cl,cm,cn,co,cp,cq,cr,vI y1.S]∧y1.J.size≤maxLen∧AA y1.P∧AA y1.S|12=>v= .agg #[vI ak.C,bh,bi,bj,bk,bl,bm]∧AA ak.C|13=>Sl j g BA v ab.1|14=>Pt j g BA v a3|15=>Rd j g BA v a3|16=>Sl j g BO v ab.2.1|17=>v= .bool a4|18=>v= .bool a4|19=>v= .bool a4|20=>v= .agg #[.string y1.J,ck,vI y1.P,cl,cm,cn,co,cp,cq,cr,vI y1.S]∧y1.J.size≤maxLen∧AA y1.P∧AA y1.S|21=>v= .agg #[vI ak.C,bh,bi,bj,bk,bl,bm]∧AA ak.C|22=>Sl j g BA v ab.1|23=>Pt j g BA v a5|24=>Rd j g BA v a5|25=>Sl j g BO v ab.2.1|26=>Sl j g BO v c5|27=>v= .bool av|28=>v= .bool (!av)|29=>v= .bool (!av)|30=>v= .bool (!av)|31=>Sl j g BA v ab.1|32=>Pt j g BA v am|33=>Pt j g (A6.sl (A6.sl AB)) v am.E|34=>Sl j g (A6.sl AB) v am.E|35=>Pt j g (A6.sl AB) v a6|36=>Sl j g AB v a6|37=>Pt j g AB v ad|38=>v=vI ad∧AA ad|39=>v= .bool (decide (ad=63))|40=>v= .bool (decide (ad=63))|41=>v= .bool (decide (ad=63))|42=>Sl j g BA v ab.1|43=>Pt j g BA v an|44=>Pt j g (A6.sl AB) v an.L|45=>Sl j g AB v an.L|46=>Pt j g AB v af|47=>v=vI af∧AA af|48=>v= .bool (decide (af=15))|49=>v= .bool (decide (af=15))|50=>v= .bool (decide (af=15))|51=>v=au|52=>EP au ((1:Int).toNat*(AB).sz+0) v|53=>v=vI ao∧AA ao|54=>v= .bool (decide (ao=15))|55=>v= .bool (decide (ao=15))|56=>v= .bool (decide (ao=15))|57=>v=au|58=>EP au ((3:Int).toNat*(AB).sz+0) v|59=>v=vI ap∧AA ap|60=>v= .bool (decide (ap=7))|61=>v= .bool (decide (ap=7))|62=>v= .bool (decide (ap=7))|63=>v=vI K.1∧AA K.1|64=>v= .bool (decide (K.1=7))|65=>v= .bool (decide (K.1=7))|66=>v= .bool (decide (K.1=7))|67=>v=vI K.2∧AA K.2|68=>v= .bool (decide (K.2=0))|69=>v= .bool (decide (K.2=0))|70=>v= .bool (decide (K.2=0))|_=>False) [[],[],[(0,110),(1,111)],[(2,112)],[(3,113)],[(3,113)],[(4,114),(5,115),(3,113)],[(3,113)],[(6,116),(7,117),(3,113)],[(3,113),(8,118)],[(9,119)],[(10,120)],[(10,120)],[(10,120)],[(13,123),(10,120)],[(14,124),(10,120)],[(10,120)],[(11,121),(12,122),(15,125),(16,126),(10,120)],[(10,120),(17,127)],[(18,128)],[(19,129)],[(19,129)],[(19,129)],[(22,132),(19,129)],[(23,133),(19,129)],[(19,129)],[(25,135),(19,129)],[(20,130),(21,131),(24,134),(26,136),(19,129)],[(27,137),(19,129)],[(19,129),(28,138)],[(29,139)],[(30,140)],[(31,141),(30,140)],[(32,142),(30,140)],[(33,143),(30,140)],[(34,144),(30,140)],[(35,145),(30,140)],[(36,146),(30,140)],[(37,147),(30,140)],[(38,148),(30,140)],[(30,140),(39,149)],[(40,150)],[(41,151)],[(42,152),(41,151)],[(43,153),(41,151)],[(44,154),(41,151)],[(45,155),(41,151)],[(46,156),(41,151)],[(47,157),(41,151)],[(41,151),(48,158)],[(49,159)],[(50,160)],[(51,161),(50,160)],[(52,162),(50,160)],[(53,163),(50,160)],[(50,160),(54,164)],[(55,165)],[(56,166)],[(57,167),(56,166)],[(58,168),(56,166)],[(59,169),(56,166)],[(56,166),(60,170)],[(61,171)],[(62,172)],[(63,173),(62,172)],[(62,172),(64,174)],[(65,175)],[(66,176)],[(67,177),(66,176)],[(66,176),(68,178)],[(69,179)]] [(70,0)] mo (by kernel_rfl) [13,12,10,7,4,3,2,1] O (by kernel_rfl) (by kernel_rfl) (by kernel_rfl) (kp [13,12,10,7,4,3,2,1] O) MO ?_ ?_
  ·refine AV.cons O ET (AV.cons O ET (AV.cons O ?_ ?_))
   ·intro u g o;intro qp g5 qq g6;have d:=SN.st c o;obtain⟨rfl,qr⟩:=g5;obtain⟨rfl,qs⟩:=g6;have bo:=ca.nw;have a8:=a7.nw;refine GV O O O mK O d (Lu (St.all _) (bo.mono d.ea) (a8.mono d.ea) f0) λqt qu qv p1 qw c6 p=>?_;obtain⟨rfl,p2⟩:=p;exact BB ⟨c6.siz,λb hb=>c6.same b hb⟩ O
   refine AV.cons O ET (AV.cons O ?_ ?_)
   ·intro u g o;intro g7 g8;have d:=o.st c;obtain rfl:g7= .bool true:=Aaj g8 (zW Value.bool aj);refine⟨113,O,.inl ⟨O,?_⟩⟩;refine AU ?_;exact BC ⟨O,db,dc,dd⟩
   refine AV.cons O ?_ ?_
   ·intro u g o;intro g9 ha;have d:=o.st c;obtain rfl:g9= .bool true:=Aaj ha (zW Value.bool aj);refine⟨113,O,.inl ⟨O,?_⟩⟩;refine AU ?_;exact BC ⟨O,cu⟩
   refine AV.cons O ?_ ?_
   ·intro u g o;intro qx hc qy hd he hg;have d:=SN.st c o;obtain⟨rfl,q0,q1,q2⟩:=hc;obtain⟨rfl,q3⟩:=hd;obtain rfl:he= .bool true:=Aaj hg (zW Value.bool aj);refine⟨113,O,.inl ⟨O,?_⟩⟩;have fe:=d.fz;have a9:=a0.nw;have ba:=a7.nw;refine Ed O O O mM O (Qk fe a9 ba (.inl ⟨O,O⟩:Sl _ _ G0 _ []) f1) λq4 q5 q6 hi p=>?_;obtain⟨hj,dt⟩:=p;have cd:=Fz.done o hi dt;exact BB cd.1 (Rd.mono hj cd.2)
   refine AV.cons O ?_ ?_
   ·intro u g o;intro hk hl;have d:=o.st c;obtain rfl:hk= .bool true:=Aaj hl (zW Value.bool aj);refine⟨113,O,.inl ⟨O,?_⟩⟩;refine AU ?_;exact BC ⟨O,cu⟩
   refine AV.cons O ?_ ?_
   ·intro u g o;intro hm bp q7 hn ho hp;have d:=SN.st c o;have bp:Rd _ _ BA hm em:=bp;obtain⟨rfl,q8⟩:=hn;obtain rfl:ho= .bool true:=Aaj hp (zW Value.bool aj);refine⟨113,O,.inl ⟨O,?_⟩⟩;have bb:=a7.nw;refine GV O O O mK O d (Lu (St.all _) (bp.mono d.ea) (bb.mono d.ea) f2) λq9 rb rd p3 re c7 p=>?_;obtain⟨rfl,p4⟩:=p;exact BB ⟨c7.siz,λb hb=>c7.same b hb⟩ O
   refine AV.cons O ?_ ?_
   ·intro u g o;intro hq ht rf hu;have d:=o.st c;obtain rfl:hq= .bool true:=Aaj ht (zW Value.bool aj);cases hu;refine AU ?_;exact BC O
   refine AV.cons O ET (AV.cons O ?_ ?_)
   ·intro u g o;intro hv hx;have d:=o.st c;obtain rfl:hv= .bool true:=Aaj hx (zW Value.bool ac);refine⟨120,O,.inl ⟨O,?_⟩⟩;refine AU ?_;exact BC ⟨O,db,dc,dd⟩
   refine AV.cons O ?_ ?_
   ·intro u g o;intro hy hz;have d:=o.st c;obtain rfl:hy= .bool true:=Aaj hz (zW Value.bool ac);refine⟨120,O,.inl ⟨O,?_⟩⟩;refine AU ?_;exact BC ⟨O,cu⟩
   refine AV.cons O ?_ ?_
   ·intro u g o;intro h0 h3;have d:=o.st c;obtain rfl:h0= .bool true:=Aaj h3 (zW Value.bool ac);refine⟨120,O,.inl ⟨O,?_⟩⟩;refine AU ?_;have h5:=cb.nw;exact BC h5
   refine AV.cons O ?_ ?_
   ·intro u g o;intro h6 bq h7 h8;have d:=o.st c;have bq:Sl _ _ BA h6 ab.1:=bq;obtain rfl:h7= .bool true:=Aaj h8 (zW Value.bool ac);refine⟨120,O,.inl ⟨O,?_⟩⟩;refine AU ?_;refine NM O O bq Sv.1 de O λrg h9=>AU ?_;exact BC h9
   refine AV.cons O ?_ ?_
   ·intro u g o;intro ia br ib ic;have d:=o.st c;have br:Pt _ _ BA ia a3:=br;obtain rfl:ib= .bool true:=Aaj ic (zW Value.bool ac);refine⟨120,O,.inl ⟨O,?_⟩⟩;obtain⟨rh,_,ie⟩:=br.lv;refine AU ?_;exact BC ie
   refine AV.cons O ?_ ?_
   ·intro u g o;intro ig ih;have d:=o.st c;obtain rfl:ig= .bool true:=Aaj ih (zW Value.bool ac);refine⟨120,O,.inl ⟨O,?_⟩⟩;refine AU ?_;have ii:=el.mono' (o.ext c.1);exact BC ii
   refine AV.cons O ?_ ?_
   ·intro u g o;intro ri ij rj ik il aw im ax io ip;have d:=SN.st c o;obtain⟨rfl,rk,rm,rn⟩:=ij;obtain⟨rfl,ro⟩:=ik;have aw:=Rd.sn a1 aw;have aw:Rd _ _ BA il a3:=aw;have ax:=Sl.sn a1 ax;have ax:Sl _ _ BO im ab.2.1:=ax;obtain rfl:io= .bool true:=Aaj ip (zW Value.bool ac);refine⟨120,O,.inl ⟨O,?_⟩⟩;have bc:=a0.nw;have be:=a7.nw;refine GV O O O mL O d (OG (St.all _) (bc.mono d.ea) (be.mono d.ea) (aw.mono d.ea) (ax.mono d.ea.1 d.ea.2) df) λrp rq rr p5 rs c8 p=>?_;obtain⟨rfl,p6⟩:=p;exact BB ⟨c8.siz,λb hb=>c8.same b hb⟩ O
   refine AV.cons O ?_ ?_
   ·intro u g o;intro ir it rt iu;have d:=o.st c;obtain rfl:ir= .bool true:=Aaj it (zW Value.bool ac);cases iu;refine AU ?_;exact BC O
   refine AV.cons O ET (AV.cons O ?_ ?_)
   ·intro u g o;intro iv iw;have d:=o.st c;obtain rfl:iv= .bool true:=Aaj iw (zW Value.bool H);refine⟨129,O,.inl ⟨O,?_⟩⟩;refine AU ?_;exact BC ⟨O,db,dc,dd⟩
   refine AV.cons O ?_ ?_
   ·intro u g o;intro iy iz;have d:=o.st c;obtain rfl:iy= .bool true:=Aaj iz (zW Value.bool H);refine⟨129,O,.inl ⟨O,?_⟩⟩;refine AU ?_;exact BC ⟨O,cu⟩
   refine AV.cons O ?_ ?_
   ·intro u g o;intro i0 i1;have d:=o.st c;obtain rfl:i0= .bool true:=Aaj i1 (zW Value.bool H);refine⟨129,O,.inl ⟨O,?_⟩⟩;refine AU ?_;have i2:=cb.nw;exact BC i2
   refine AV.cons O ?_ ?_
   ·intro u g o;intro i3 bs i4 i5;have d:=o.st c;have bs:Sl _ _ BA i3 ab.1:=bs;obtain rfl:i4= .bool true:=Aaj i5 (zW Value.bool H);refine⟨129,O,.inl ⟨O,?_⟩⟩;refine AU ?_;refine NM O O bs Sv.1 dg O λru i6=>AU ?_;exact BC i6
   refine AV.cons O ?_ ?_
   ·intro u g o;intro i7 bt i8 i9;have d:=o.st c;have bt:Pt _ _ BA i7 a5:=bt;obtain rfl:i8= .bool true:=Aaj i9 (zW Value.bool H);refine⟨129,O,.inl ⟨O,?_⟩⟩;obtain⟨rv,_,ja⟩:=bt.lv;refine AU ?_;exact BC ja
   refine AV.cons O ?_ ?_
   ·intro u g o;intro jb jc;have d:=o.st c;obtain rfl:jb= .bool true:=Aaj jc (zW Value.bool H);refine⟨129,O,.inl ⟨O,?_⟩⟩;refine AU ?_;have jd:=el.mono' (o.ext c.1);exact BC jd
   refine AV.cons O ?_ ?_
   ·intro u g o;intro je bu jf jg;have d:=o.st c;have bu:Sl _ _ BO je ab.2.1:=bu;obtain rfl:jf= .bool true:=Aaj jg (zW Value.bool H);refine⟨129,O,.inl ⟨O,?_⟩⟩;refine L6 1 (kB O O bu UA.1 dh O λrx jh=>AU ?_);exact BC jh
   refine AV.cons O ?_ ?_
   ·intro u g o;intro ry ji rz jj jk ay jl az jm jn;have d:=SN.st c o;obtain⟨rfl,r0,r1,r2⟩:=ji;obtain⟨rfl,r3⟩:=jj;have ay:=Rd.sn a1 ay;have ay:Rd _ _ BA jk a5:=ay;have az:=Sl.sn a1 az;have az:Sl _ _ BO jl c5:=az;obtain rfl:jm= .bool true:=Aaj jn (zW Value.bool H);refine⟨129,O,.inl ⟨O,?_⟩⟩;have bf:=a0.nw;have bg:=a7.nw;refine GV O O O mL O d (OG (St.all _) (bf.mono d.ea) (bg.mono d.ea) (ay.mono d.ea) (az.mono d.ea.1 d.ea.2) di) λr4 r5 r6 p7 r7 c9 p=>?_;obtain⟨rfl,p8⟩:=p;exact BB ⟨c9.siz,λb hb=>c9.same b hb⟩ O
   refine AV.cons O ?_ ?_
   ·intro u g o;intro r8 jo jp jq;have d:=o.st c;cases jo;obtain rfl:jp= .bool true:=Aaj jq (zW Value.bool H);refine⟨129,O,.inl ⟨O,?_⟩⟩;refine AU ?_;exact BC O
   refine AV.cons O ?_ ?_
   ·intro u g o;intro jr js r9 jt;have d:=o.st c;obtain rfl:jr= .bool true:=Aaj js (zW Value.bool H);cases jt;refine AU ?_;exact BC O
   refine AV.cons O ET (AV.cons O ?_ ?_)
   ·intro u g o;intro ju jv;have d:=o.st c;obtain rfl:ju= .bool true:=Aaj jv (zW Value.bool I);refine⟨140,O,.inl ⟨O,?_⟩⟩;refine AU ?_;have jw:=cb.nw;exact BC jw
   refine AV.cons O ?_ ?_
   ·intro u g o;intro jx bv jy jz;have d:=o.st c;have bv:Sl _ _ BA jx ab.1:=bv;obtain rfl:jy= .bool true:=Aaj jz (zW Value.bool I);refine⟨140,O,.inl ⟨O,?_⟩⟩;refine AU ?_;refine NM O O bv Sv.1 dj O λsa j0=>AU ?_;exact BC j0
   refine AV.cons O ?_ ?_
   ·intro u g o;intro j1 bw j2 j3;have d:=o.st c;have bw:Pt _ _ BA j1 am:=bw;obtain rfl:j2= .bool true:=Aaj j3 (zW Value.bool I);refine⟨140,O,.inl ⟨O,?_⟩⟩;have j4:=bw.fl FL;refine AU ?_;exact BC j4
   refine AV.cons O ?_ ?_
   ·intro u g o;intro j5 bx j6 j7;have d:=o.st c;have bx:Pt _ _ (A6.sl (A6.sl AB)) j5 am.E:=bx;obtain rfl:j6= .bool true:=Aaj j7 (zW Value.bool I);refine⟨140,O,.inl ⟨O,?_⟩⟩;obtain⟨sc,_,j8⟩:=bx.ll;refine AU ?_;exact BC j8
   refine AV.cons O ?_ ?_
   ·intro u g o;intro j9 bz ka kb;have d:=o.st c;have bz:Sl _ _ (A6.sl AB) j9 am.E:=bz;obtain rfl:ka= .bool true:=Aaj kb (zW Value.bool I);refine⟨140,O,.inl ⟨O,?_⟩⟩;refine AU ?_;refine NM O O bz IP.1 dk O λsd kc=>AU ?_;exact BC kc
   refine AV.cons O ?_ ?_
   ·intro u g o;intro kd b0 ke kf;have d:=o.st c;have b0:Pt _ _ (A6.sl AB) kd a6:=b0;obtain rfl:ke= .bool true:=Aaj kf (zW Value.bool I);refine⟨140,O,.inl ⟨O,?_⟩⟩;obtain⟨se,_,kg⟩:=b0.ll;refine AU ?_;exact BC kg
   refine AV.cons O ?_ ?_
   ·intro u g o;intro kh b1 ki kj;have d:=o.st c;have b1:Sl _ _ AB kh a6:=b1;obtain rfl:ki= .bool true:=Aaj kj (zW Value.bool I);refine⟨140,O,.inl ⟨O,?_⟩⟩;refine AU ?_;refine NM O O b1 Ce.1 dl O λsf kk=>AU ?_;exact BC kk
   refine AV.cons O ?_ ?_
   ·intro u g o;intro kl b2 km kn;have d:=o.st c;have b2:Pt _ _ AB kl ad:=b2;obtain rfl:km= .bool true:=Aaj kn (zW Value.bool I);refine⟨140,O,.inl ⟨O,?_⟩⟩;have ko:=b2.i;refine AU ?_;exact BC ⟨O,ko⟩
   refine AV.cons O ?_ ?_
   ·intro u g o;intro sg kr ks kt;have d:=o.st c;obtain⟨rfl,sh⟩:=kr;obtain rfl:ks= .bool true:=Aaj kt (zW Value.bool I);refine⟨140,O,.inl ⟨O,?_⟩⟩;refine AU ?_;exact BC O
   refine AV.cons O ?_ ?_
   ·intro u g o;intro ku kv si kw;have d:=o.st c;obtain rfl:ku= .bool true:=Aaj kv (zW Value.bool I);cases kw;refine AU ?_;exact BC O
   refine AV.cons O ET (AV.cons O ?_ ?_)
   ·intro u g o;intro kx ky;have d:=o.st c;obtain rfl:kx= .bool true:=Aaj ky (zW Value.bool V);refine⟨151,O,.inl ⟨O,?_⟩⟩;refine AU ?_;have kz:=cb.nw;exact BC kz
   refine AV.cons O ?_ ?_
   ·intro u g o;intro k2 b3 k3 k4;have d:=o.st c;have b3:Sl _ _ BA k2 ab.1:=b3;obtain rfl:k3= .bool true:=Aaj k4 (zW Value.bool V);refine⟨151,O,.inl ⟨O,?_⟩⟩;refine AU ?_;refine NM O O b3 Sv.1 dm O λsj k5=>AU ?_;exact BC k5
   refine AV.cons O ?_ ?_
   ·intro u g o;intro k6 b4 k8 k9;have d:=o.st c;have b4:Pt _ _ BA k6 an:=b4;obtain rfl:k8= .bool true:=Aaj k9 (zW Value.bool V);refine⟨151,O,.inl ⟨O,?_⟩⟩;have la:=b4.fl HI;refine AU ?_;exact BC la
   refine AV.cons O ?_ ?_
   ·intro u g o;intro lb b5 lc ld;have d:=o.st c;have b5:Pt _ _ (A6.sl AB) lb an.L:=b5;obtain rfl:lc= .bool true:=Aaj ld (zW Value.bool V);refine⟨151,O,.inl ⟨O,?_⟩⟩;obtain⟨sk,_,le⟩:=b5.ll;refine AU ?_;exact BC le
   refine AV.cons O ?_ ?_
   ·intro u g o;intro lf b6 lg lh;have d:=o.st c;have b6:Sl _ _ AB lf an.L:=b6;obtain rfl:lg= .bool true:=Aaj lh (zW Value.bool V);refine⟨151,O,.inl ⟨O,?_⟩⟩;refine AU ?_;refine NM O O b6 Ce.1 dn O λso li=>AU ?_;exact BC li
   refine AV.cons O ?_ ?_
   ·intro u g o;intro lj b7 lm ln;have d:=o.st c;have b7:Pt _ _ AB lj af:=b7;obtain rfl:lm= .bool true:=Aaj ln (zW Value.bool V);refine⟨151,O,.inl ⟨O,?_⟩⟩;have lo:=b7.i;refine AU ?_;exact BC ⟨O,lo⟩
   refine AV.cons O ?_ ?_
   ·intro u g o;intro sp lp lq lr;have d:=o.st c;obtain⟨rfl,sq⟩:=lp;obtain rfl:lq= .bool true:=Aaj lr (zW Value.bool V);refine⟨151,O,.inl ⟨O,?_⟩⟩;refine AU ?_;exact BC O
   refine AV.cons O ?_ ?_
   ·intro u g o;intro ls lt sr lu;have d:=o.st c;obtain rfl:ls= .bool true:=Aaj lt (zW Value.bool V);cases lu;refine AU ?_;exact BC O
   refine AV.cons O ET (AV.cons O ?_ ?_)
   ·intro u g o;intro lw lx;have d:=o.st c;obtain rfl:lw= .bool true:=Aaj lx (zW Value.bool ag);refine⟨160,O,.inl ⟨O,?_⟩⟩;refine AU ?_;exact BC O
   refine AV.cons O ?_ ?_
   ·intro u g o;intro ss ly lz l0;have d:=o.st c;cases ly;obtain rfl:lz= .bool true:=Aaj l0 (zW Value.bool ag);refine⟨160,O,.inl ⟨O,?_⟩⟩;refine AU ?_;refine BT d (mt (mt mh)) O O Ce.1 dp O λsu du=>AU ?_;exact BC du
   refine AV.cons O ?_ ?_
   ·intro u g o;intro sv l1 l2 l3;have d:=o.st c;obtain rfl:l2= .bool true:=Aaj l3 (zW Value.bool ag);refine⟨160,O,.inl ⟨O,?_⟩⟩;refine AU ?_;have l4:=d.epAt (mt (mt mh)) dq Ff.id l1;refine FU K9 (λ_ x=>x) O l4 Gq.1 O λl5=>AU ?_;exact BC ⟨O,l5⟩
   refine AV.cons O ?_ ?_
   ·intro u g o;intro sw l6 l7 l8;have d:=o.st c;obtain⟨rfl,sx⟩:=l6;obtain rfl:l7= .bool true:=Aaj l8 (zW Value.bool ag);refine⟨160,O,.inl ⟨O,?_⟩⟩;refine AU ?_;exact BC O
   refine AV.cons O ?_ ?_
   ·intro u g o;intro l9 ma sy mb;have d:=o.st c;obtain rfl:l9= .bool true:=Aaj ma (zW Value.bool ag);cases mb;refine AU ?_;exact BC O
   refine AV.cons O ET (AV.cons O ?_ ?_)
   ·intro u g o;intro mc md;have d:=o.st c;obtain rfl:mc= .bool true:=Aaj md (zW Value.bool ah);refine⟨166,O,.inl ⟨O,?_⟩⟩;refine AU ?_;exact BC O
   refine AV.cons O ?_ ?_
   ·intro u g o;intro s0 me mf mg;have d:=o.st c;cases me;obtain rfl:mf= .bool true:=Aaj mg (zW Value.bool ah);refine⟨166,O,.inl ⟨O,?_⟩⟩;refine AU ?_;refine BT d (mt (mt mh)) O O Ce.1 dr O λs1 dv=>AU ?_;exact BC dv
   refine AV.cons O ?_ ?_
   ·intro u g o;intro s2 mi mj mk;have d:=o.st c;obtain rfl:mj= .bool true:=Aaj mk (zW Value.bool ah);refine⟨166,O,.inl ⟨O,?_⟩⟩;refine AU ?_;have ml:=d.epAt (mt (mt mh)) ds Ff.id mi;refine FU K9 (λ_ x=>x) O ml Gq.1 O λmm=>AU ?_;exact BC ⟨O,mm⟩
   refine AV.cons O ?_ ?_
   ·intro u g o;intro s3 mn mp mr;have d:=o.st c;obtain⟨rfl,s4⟩:=mn;obtain rfl:mp= .bool true:=Aaj mr (zW Value.bool ah);refine⟨166,O,.inl ⟨O,?_⟩⟩;refine AU ?_;exact BC O
   refine AV.cons O ?_ ?_
   ·intro u g o;intro ms mu s5 mv;have d:=o.st c;obtain rfl:ms= .bool true:=Aaj mu (zW Value.bool ah);cases mv;refine AU ?_;exact BC O
   refine AV.cons O ET (AV.cons O ?_ ?_)
   ·intro u g o;intro mw mx;have d:=o.st c;obtain rfl:mw= .bool true:=Aaj mx (zW Value.bool aq);refine⟨172,O,.inl ⟨O,?_⟩⟩;refine AU ?_;exact BC ⟨O,o9⟩
   refine AV.cons O ?_ ?_
   ·intro u g o;intro s6 my mz m0;have d:=o.st c;obtain⟨rfl,s7⟩:=my;obtain rfl:mz= .bool true:=Aaj m0 (zW Value.bool aq);refine⟨172,O,.inl ⟨O,?_⟩⟩;refine AU ?_;exact BC O
   refine AV.cons O ?_ ?_
   ·intro u g o;intro m1 m2 s8 m3;have d:=o.st c;obtain rfl:m1= .bool true:=Aaj m2 (zW Value.bool aq);cases m3;refine AU ?_;exact BC O
   refine AV.cons O ET (AV.cons O ?_ ?_)
   ·intro u g o;intro m4 m5;have d:=o.st c;obtain rfl:m4= .bool true:=Aaj m5 (zW Value.bool ar);refine⟨176,O,.inl ⟨O,?_⟩⟩;refine AU ?_;exact BC ⟨O,pa⟩
   refine AV.cons O ?_ ?_
   ·intro u g o;intro s9 m6 m7 m8;have d:=o.st c;obtain⟨rfl,ta⟩:=m6;obtain rfl:m7= .bool true:=Aaj m8 (zW Value.bool ar);refine⟨176,O,.inl ⟨O,?_⟩⟩;refine AU ?_;exact BC O
   refine AV.cons O ?_ ?_
   ·intro u g o;intro m9 na tb nb;have d:=o.st c;obtain rfl:m9= .bool true:=Aaj na (zW Value.bool ar);cases nb;refine AU ?_;exact BC O
   exact AV.cons O ET (trivial)
  intro tc da td nc;have dw:=SN.st c da;cases nc;refine AU ?_;exact WF.nil (λaa ww hf hw=>⟨_,_,hf.sub (kp [0] O),hw,dw,(SN.ext c.1 da),trivial⟩)
 rintro aa ww ⟨te,tf,hf,hw,p9,tg,_⟩;refine AK ?_ hf hw;clear hf hw ww aa;exact RT
def PC (b:St S L h) (a:ER N=some true) {r:Bool}(E:ER N=some r):
 B6 prog 24 #[] S h (λv S' h'=>v= .bool r∧St S' (L) h'):=by
 obtain rfl:true=r:=zZ (a.symm.trans E);exact OT b a
end Go.Proofs.YtedgiljmffngoaaGreat
