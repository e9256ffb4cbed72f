import Derived.Test.YtedgiljmffngoaaGreatGInst
import Derived.Test.YtedgiljmffngoaaGreatGForms
import Derived.Test.YtedgiljmffngoaaGreatGWalk1
import Derived.Test.YtedgiljmffngoaaGreatGWalk11
import Derived.Test.YtedgiljmffngoaaGreatGWalk17
namespace Go.Proofs.YtedgiljmffngoaaGreat
set_option linter.all false
open Go.RowKit
open Go.Proofs.Tryz
set_option maxRecDepth 10000
set_option maxHeartbeats 20000000
variable {N:Nat}{S:Nat→Prop}{L:List HP}{h:AW}
def OL {b:Nat}{m:(List (AC×AI))}(hs:St S (MP (λk:AC=>Value.agg (AC.v k).toArray) (λk:AI=>Value.agg #[vI (BD k.hi),.int .u64 (IntKind.wrap .u64 k.lo)]) b m::L) h) {c:Value}{d:AK}(l:Rd S h BB c d) {r:(List (AC×AI))}(E:KL N m d=some r):
 B0 prog 104 #[.map (some b),c] S h (λv S' h'=>v= .tuple #[]∧St S' (MP (λk:AC=>Value.agg (AC.v k).toArray) (λk:AI=>Value.agg #[vI (BD k.hi),.int .u64 (IntKind.wrap .u64 k.lo)]) b r::L) h'):=by
 refine BA 30 func104 O ntmps104 O λB=>?_;rw[KL] at E;refine AU ?_;refine By O l CE O hs λq1 S2 h3 t e5 K=>AU ?_;refine Gq (λa w=>∃(q:(List (AC×AI))),IV B S2 h3 (30,[]) a w [(3,q1),(0,.map (some b))] (MP (λk:AC=>Value.agg (AC.v k).toArray) (λk:AI=>Value.agg #[vI (BD k.hi),.int .u64 (IntKind.wrap .u64 k.lo)]) b q::L) λ_ _=>H2 N d q=some r) ?_ ?_
 ·refine AH O E (λM E=>?_) (λM E=>?_)
  ·refine Bw ?_;have Q:=K.fl AK.f_Part;obtain⟨am,_,U⟩:=Q.ll;refine AU ?_;refine BQ E O O O Pm O (λu x=>Ev t (iq (n:=2) O) (iq (n:=(-1)) O) U x) λu E an ao ap V p=>?_;obtain⟨rfl,y⟩:=p;refine AU ?_;refine WF.nil (λz A g j=>?_);exact⟨u,_,_,g.sub (kp [3,0] O),j,y,V,E⟩
  refine Bw ?_;have W:=K.fl AK.f_To;have X:=W.i;have Y:=K.fl AK.f_Part;obtain⟨aq,_,Z⟩:=Y.ll;refine AU ?_;refine BQ E O O O Pm O (λC D=>Ev t (iq (n:=0) O) X Z D) λC E ar au av ab p=>?_;obtain⟨rfl,F⟩:=p;refine AU ?_;refine WF.nil (λz A g j=>?_);exact⟨C,_,_,g.sub (kp [3,0] O),j,F,ab,E⟩
 rintro z A ⟨q,aw,ax,g,j,o,ac,E⟩;refine AJ ?_ g j;clear g j A z;rw[H2] at E;have s:=K.mono ac;refine AU ?_;refine AH O E (λad E=>?_) (λad E=>?_)
 ·refine Bw ?_;have ae:=s.fl AK.f_Part;obtain⟨ay,_,af⟩:=ae.ll;refine AU ?_;refine BQ E O O O Pm O (λag G=>Ev o (iq (n:=1) O) (iq (n:=(-1)) O) af G) λag E az a0 a1 a2 p=>?_;obtain⟨rfl,H⟩:=p;refine AU ?_;refine WF.nil (λz A g j=>?_);cases E;exact JC g O j JB O EX ⟨O,H⟩
 refine Bw ?_;have ah:=s.fl AK.f_From;have ai:=ah.i;have aj:=s.fl AK.f_Part;obtain⟨a3,_,ak⟩:=aj.ll;refine AU ?_;refine BQ E O O O SO O (λal I=>HE o (iq (n:=0) O) ai ak I) λal E a4 a5 a6 a7 p=>?_;obtain⟨rfl,J⟩:=p;refine AU ?_;refine WF.nil (λz A g j=>?_);cases E;exact JC g O j JB O EX ⟨O,J⟩
def Ns (hs:St S L h) {G:Value}{I:AF}(ac:Rd S h BO G I) {z:Value}{u:AE}(J:Rd S h AM z u) {A:Value}{y:AE}(M:Rd S h AM A y) {b:Value}{c:(List AK)}(i:Sl S h BB b c) {r:Bool}(E:LR N I u y c=some r):
 B0 prog 28 #[G,z,A,b] S h (λv S' h'=>v= .bool r∧St S' (L) h'):=by
 refine BA 67 func28 O ntmps28 O λB=>?_;rw[LR] at E;refine AU ?_;refine By O ac CE O hs λq1 S2 h3 b9 e5 k6=>?_;have k7:=J.mono e5;refine By O k7 CE O b9 λq8 S9 d8 a5 d9 ca=>?_;have cb:=M.nw;refine By O cb CE O a5 λa6 ai ea C cc a7=>AU ?_;refine BX (.inl O) C ?_;have aj:=k6.nw;obtain⟨eb,_,cd⟩:=aj.lv;have a8:=ca.mono cc;obtain⟨ec,_,ce⟩:=a8.lv;refine AU ?_;refine A8 E O O O fV O (λa9 ba h' o=>Mm (St.all h') (cd.mono (o.all C.1)) (ce.mono (o.all C.1)) ba) λa9 E=>AU ?_;obtain⟨cf,j,E⟩:=bd E;refine AY 5 25 (.bool cf) ?_ ?_
 ·cases bb:(!a9)
  ·have j:=GW bb j;obtain⟨ed,_,cg⟩:=aj.lv;obtain⟨ee,_,ch⟩:=a7.lv;refine AU ?_;refine A8 j O O O fV O (λci bc h' o=>Mm (St.all h') (cg.mono (o.all C.1)) (ch.mono (o.all C.1)) bc) λci j=>AU ?_;cases j;exact A0 O
  have j:=GV bb j;cases j;exact BF O O
 refine BK (kp [25,6,5,4,3] O) λak be cj=>AH O E (λck E=>?_) (λck E=>?_)
 ·exact RT
 have cl:=i.nw;refine AU ?_;refine AO (λa w=>IV B ai ak (67,[]) a w [(6,a6),(5,q8),(3,b)] (L) λ_ _=>Jj N u y c=some r) ?_ ?_
 ·refine A4 (λn1=>λa w=>∃(Q:Int),IV B ai ak (67,[]) a w [(27,vI (↑c.length:Int)),(26,b),(6,a6),(5,q8),(4,q1),(3,b),(28,vI Q)] (L) λ_ _=>AA Q∧Is N I c (Jj N u y c) n1 Q=some r) N ?_ ?_ ?_
  ·intro m s d g;exact⟨0,_,_,d.sub (kp [27,26,6,5,4,3,28] O),g,be,(CB.refl ai ak),(iq (n:=0) O),E⟩
  ·rintro m s ⟨_,_,_,_,_,_,_,_,E⟩;rw[Is] at E;cases E
  rintro n1 m s ⟨Q,ef,eg,d,g,ad,bf,eh,E⟩;refine AJ ?_ d g;clear d g s m;rw[Is] at E;refine AU ?_;refine AH O E (λcm E=>?_) (λcm E=>?_)
  ·refine AU ?_;refine A5 (AU ?_);have cn:=cl.mono' bf;refine AZ E O O cn sl_70.1 O λco E ei cp=>?_;obtain⟨ej,_,cq⟩:=cp.lv;refine AU ?_;refine CO WQ O ad λek el bg cr=>?_;have ct:=cq.mono cr;obtain⟨em,rfl,cu,cv,cw,cx,cy⟩:=BB.ex ct;refine Dk O O O ON ty_74.1 O bg .head O λen U cz=>AU ?_;refine BX (.inl O) U ?_;have c0:=aj.nw;obtain⟨eo,_,c1⟩:=c0.lv;refine AU ?_;have c2:=cy.mono' cz;obtain⟨ep,bh,E⟩:=bd E;refine Kt O O O lZ O (λh' o=>Qd (St.all h') (c1.mono (o.all U.1)) (BB.mk (x:=co) cu cv cw cx (c2.mono' (o.all U.1))) bh) (AU ?_);refine BK (kp [35,27,26,6,5,4,3,28] O) λeq bi er=>AH O E (λc3 E=>?_) (λc3 E=>?_)
   ·exact RT
   refine AU ?_;refine BE (AU ?_);refine WF.nil (λm s d g=>?_);have bj:=bi.drop .head;exact⟨(BD (Q+1)),_,_,d.sub (kp [27,26,6,5,4,3,28] O),g,bj,EX,(BI _),E⟩
  refine BC O (λm s d g=>?_);exact⟨_,_,d.sub (kp [6,5,3] O),g,ad,bf,E⟩
 rintro m s ⟨es,eu,d,g,bk,ev,E⟩;refine AJ ?_ d g;clear d g s m;rw[Jj] at E;refine AU ?_;refine bN (K:=0) (E:=0) O bk (λk:AC=>Value.agg (AC.v k).toArray) (λk:AI=>Value.agg #[vI (BD k.hi),.int .u64 (IntKind.wrap .u64 k.lo)]) λV ew bl ey=>AU ?_;refine Bw ?_;have c4:=a7.nw;obtain⟨c7,_,bm⟩:=c4.lv;refine AU ?_;refine Om O O O (AU ?_);refine BQ E O O O aG O (λbn am=>Ly bl bm am) λbn E c8 c9 da bo p=>?_;obtain⟨rfl,an⟩:=p;refine AU ?_;refine Bw ?_;have bp:=a8.mono ((cj.trans EX).trans bo);obtain⟨db,_,bq⟩:=bp.lv;refine AU ?_;refine Om O O O (AU ?_);refine BQ E O O O aG O (λae ao=>Lx an bq ao) λae E dc W X dd p=>?_;obtain⟨rfl,ap⟩:=p;have br:=i.nw;refine AU ?_;refine AO (λa w=>∃(t:(List (AC×AI))),IV B W X (67,[]) a w [(11,.map (some V))] (MP (λk:AC=>Value.agg (AC.v k).toArray) (λk:AI=>Value.agg #[vI (BD k.hi),.int .u64 (IntKind.wrap .u64 k.lo)]) V t::L) λ_ _=>Ji N t=some r) ?_ ?_
 ·refine A4 (λn3=>λa w=>∃(D:Int) (H:(List (AC×AI))),IV B W X (67,[]) a w [(49,vI (↑c.length:Int)),(48,b),(11,.map (some V)),(50,vI D)] (MP (λk:AC=>Value.agg (AC.v k).toArray) (λk:AI=>Value.agg #[vI (BD k.hi),.int .u64 (IntKind.wrap .u64 k.lo)]) V H::L) λ_ _=>AA D∧Ir N c (Ji N) n3 D H=some r) N ?_ ?_ ?_
  ·intro m s d g;exact⟨0,ae,_,_,d.sub (kp [49,48,11,50] O),g,ap,(CB.refl W X),(iq (n:=0) O),E⟩
  ·rintro m s ⟨_,_,_,_,_,_,_,_,_,E⟩;rw[Ir] at E;cases E
  rintro n3 m s ⟨D,H,de,df,d,g,Y,af,dg,E⟩;refine AJ ?_ d g;clear d g s m;rw[Ir] at E;refine AU ?_;refine AH O E (λbs E=>?_) (λbs E=>?_)
  ·refine AU ?_;refine A5 (AU ?_);have bt:=br.mono' af;refine AZ E O O bt sl_70.1 O λbu E dh bv=>?_;obtain⟨di,_,bw⟩:=bv.lv;refine AU ?_;refine CO WQ O Y λdj dk aq bx=>?_;have bz:=bw.mono bx;obtain⟨dl,rfl,b0,b1,b2,b3,b4⟩:=BB.ex bz;refine Dk O O O ON ty_74.1 O aq .head O λdm ar b5=>AU ?_;refine Bw (AU ?_);have au:=ar.pick (.tail .head);have b6:=b4.mono' b5;obtain⟨b7,av,E⟩:=bd E;refine Dh O O O lY O (OL au (BB.mk (x:=bu) b0 b1 b2 b3 b6) av) λdn dp dq dr p=>?_;obtain⟨rfl,aw⟩:=p;refine AU ?_;refine BE (AU ?_);refine WF.nil (λm s d g=>?_);have ax:=aw.drop (.tail .head);exact⟨(BD (D+1)),b7,_,_,d.sub (kp [49,48,11,50] O),g,ax,EX,(BI _),E⟩
  refine BC O (λm s d g=>?_);exact⟨H,_,_,d.sub (kp [11] O),g,Y,af,E⟩
 rintro m s ⟨t,ag,ds,d,g,ay,dt,E⟩;refine AJ ?_ d g;clear d g s m;rw[Ji] at E;refine AU ?_;refine YR ay O Rm O λZ ah az du=>AU ?_;refine A5 (A4 (λn1=>λa w=>∃(l:List (AC×AI)) (S':Nat→Prop) (h':AW),Fr (67,[]) a [(59,(vP Z 0))]∧Wd B h' w∧St S' (MI (λk:AC=>Value.agg (AC.v k).toArray) (λk:AI=>Value.agg #[vI (BD k.hi),.int .u64 (IntKind.wrap .u64 k.lo)]) V Z t l::L) h'∧CB ag ah S' h'∧l.length<n1∧cond (List.all l (λe=>(Jg N e).isNone)) (Jh N) (some false)=some r) (t.length+1) ?_ ?_ ?_)
 ·intro m s d g;exact⟨t,_,_,d.sub (kp [59] O),g,az,(CB.refl ag ah),Nat.lt_succ_self _,E⟩
 ·rintro m s ⟨_,_,_,_,_,_,_,a0,_⟩;exact absurd a0 (Nat.not_lt_zero _)
 rintro n1 m s ⟨l,dv,dw,d,g,ab,dx,a0,E⟩;refine AJ ?_ d g;clear d g s m;refine AU ?_;refine bM ab O O (λF=>?_) (λdy dz d0 d1 F a1 d2 c5=>?_)
 ·subst F;have E:Jh N=some r:=E;rw[Jh] at E;have c6:=ab.miMP;refine AU ?_;exact ST O (J6 O (RT))
 subst F;have E:=X8 (f:=Jg N) (λ_ _ hy=>Zx hy) E;rw[Jg] at E;simp only[cT,Option.some_or,Option.none_or] at E;refine AU ?_;refine UF O (AU ?_);refine A5 (AU ?_);refine Ku 2 (YO O c5 O (AU ?_));refine CO VY O a1 λd3 d4 a2 d5=>?_;refine Cu O O O O ty_178.1 O a2 .head O λd6 a3 d7=>AU ?_;refine FV (cs:=[vI 0,.int .u64 0]) Vh O O O (aY O O jI O O O O (AU ?_));refine AH O E (λb8 E=>?_) (λb8 E=>?_)
 ·exact RT
 refine AU ?_;refine BE (WF.nil (λm s d g=>?_));have a4:=a3.sel [1] 1 O;exact⟨_,_,_,d.sub (kp [59] O),g,a4,EX,(by simp only[uJ,wA] at a0 ⊢;omega),E⟩
def N4 (hs:St S L h) (E:Ee N=some true):
 B0 prog 24 #[] S h (λv S' h'=>v= .bool true∧St S' (L) h'):=by
 refine BA 180 func24 O ntmps24 O λB=>?_;rw[Ee] at E;refine AU ?_;refine Bw ?_;refine BQ E O O O pJ O (λy1 t6=>N5 hs t6) λy1 E v2 S3 h4 e5 p=>?_;obtain⟨k7,t7⟩:=p;refine CO eZ O t7 λb9 z2 pl t8=>?_;have t9:=k7.mono t8;obtain⟨co,cp,cq,cr,ct,cu,cv,cw,rfl,a6,a7,a8,a9,ba,bb,bc,be,bf,bg,bh⟩:=BO.ex t9;refine Dk O O O ON ty_31.1 O pl .head O λz3 pm an=>AU ?_;refine Bw (AU ?_);have ua:=a7.mono' an;have ub:=a9.mono' an;have uc:=ba.mono' an;have ud:=bb.mono' an;have ue:=bc.mono' an;have uf:=be.mono' an;have ug:=bf.mono' an;have uh:=bg.mono' an;obtain⟨ad,pn,E⟩:=bd E;refine Dh O O O pQ O (Ro pm (BO.mk (x:=y1) a6 ua a8 ub uc ud ue uf ug uh bh) (iq (n:=5) O) pn) λz4 z5 z6 z7 p=>?_;obtain⟨ui,po⟩:=p;refine CO L8 O po λel z8 pp uj=>?_;have uk:=ui.mono uj;obtain⟨bn,bo,bp,bq,br,bs,rfl,cn,bt,bu,bv,bw,bx,bz⟩:=AM.ex uk;refine Dk O O O ON ty_36.1 O pp .head O λz9 pq aaa=>AU ?_;refine Bw (AU ?_);refine FO (cs:=[vI 10]) IU O O O O O O O pq λpr aab ps aac=>AU ?_;have pt:=ps.bxos (r:=AB) (l:=([10]:List Int)) .head ⟨_,_,O,⟨O,(iq (n:=10) O)⟩,O⟩ (by simp [maxLen]);obtain⟨aad,pu,aae,ul⟩:=pt.pubs .head;refine FV (cs:=[(.slice (some ⟨pr,0,none⟩) 1 1),vN,vN,vN,vN]) nR O O O (AU ?_);refine FO (cs:=[(.slice (some ⟨pr,0,none⟩) 1 1),vN,vN,vN,vN]) pC O O O O O O O pu λaaf aag pv um=>?_;have un:=ul.mono' um;have pw:=pv.bxos (r:=CN) (l:=Qi) .head ⟨_,_,O,⟨_,_,_,_,_,O,un,(.inl ⟨O,O⟩),(.inl ⟨O,O⟩),(.inl ⟨O,O⟩),(.inl ⟨O,O⟩)⟩,O⟩ (by simp [maxLen,Qi]);obtain⟨aah,px,aai,uo⟩:=pw.pubs .head;have up:=a7.nw;have uq:=a9.nw;have ur:=ba.nw;have us:=bb.nw;have ut:=bc.nw;have py:=be.nw;have pz:=bf.nw;have p0:=bg.nw;have p1:=bt.nw;have p2:=bu.nw;have p3:=bv.nw;have p4:=bw.nw;have p5:=bx.nw;have p6:=bz.nw;obtain⟨af,em,E⟩:=bd E;refine Dh O O O W4 O (KZ px (BO.mk (x:=y1) a6 up a8 uq ur us ut py pz p0 bh) (AM.mk (x:=ad) cn p1 p2 p3 p4 p5 p6) uo em) λw9 xa xb xc p=>?_;obtain⟨dv,dw,dx,rfl,en⟩:=p;refine AU ?_;refine FO (cs:=[vI 10]) IU O O O O O O O en λdy xd eo xe=>AU ?_;have ep:=eo.bxos (r:=AB) (l:=([10]:List Int)) .head ⟨_,_,O,⟨O,(iq (n:=10) O)⟩,O⟩ (by simp [maxLen]);obtain⟨xf,eq,xg,p7⟩:=ep.pubs .head;refine FV (cs:=[vI 3,vI 0,vI 0,vI 0,(.slice (some ⟨dy,0,none⟩) 1 1)]) TA O O O (AU ?_);refine FO (cs:=[vI 2,vI 3]) IU O O O O O O O eq λdz xh er xi=>AU ?_;have es:=er.bxos (r:=AB) (l:=([2,3]:List Int)) .head ⟨_,_,O,⟨O,(iq (n:=2) O)⟩,⟨_,_,O,⟨O,(iq (n:=3) O)⟩,O⟩⟩ (by simp [maxLen]);obtain⟨xj,eu,xk,p8⟩:=es.pubs .head;refine FV (cs:=[vI 3,vI 0,vI 0,vI 0,(.slice (some ⟨dz,0,none⟩) 2 2)]) TA O O O (AU ?_);refine FO (cs:=[vI 7]) IU O O O O O O O eu λd0 xl ev xm=>AU ?_
 have ew:=ev.bxos (r:=AB) (l:=([7]:List Int)) .head ⟨_,_,O,⟨O,(iq (n:=7) O)⟩,O⟩ (by simp [maxLen]);obtain⟨xn,ey,xo,p9⟩:=ew.pubs .head;refine FV (cs:=[vI 5,vI 0,vI 0,vI 0,(.slice (some ⟨d0,0,none⟩) 1 1)]) TA O O O (AU ?_);refine FO (cs:=[vI 9]) IU O O O O O O O ey λd1 xp ez xq=>AU ?_;have e0:=ez.bxos (r:=AB) (l:=([9]:List Int)) .head ⟨_,_,O,⟨O,(iq (n:=9) O)⟩,O⟩ (by simp [maxLen]);obtain⟨xr,e1,xs,qa⟩:=e0.pubs .head;refine FV (cs:=[vI 4,vI 1,vI 0,vI 0,(.slice (some ⟨d1,0,none⟩) 1 1)]) TA O O O (AU ?_);refine FO (cs:=[vI 3,vI 0,vI 0,vI 0,(.slice (some ⟨dy,0,none⟩) 1 1),vI 3,vI 0,vI 0,vI 0,(.slice (some ⟨dz,0,none⟩) 2 2),vI 5,vI 0,vI 0,vI 0,(.slice (some ⟨d0,0,none⟩) 1 1),vI 4,vI 1,vI 0,vI 0,(.slice (some ⟨d1,0,none⟩) 1 1)]) QG O O O O O O O e1 λxt xu e2 qb=>AU ?_;refine Bw (AU ?_);have qc:=qa.mono' qb;have qd:=p9.nw;have qe:=p8.nw;have qf:=p7.nw;have e3:=e2.bxos (r:=BB) (l:=Qh) .head ⟨_,_,O,⟨_,O,(iq (n:=3) O),(iq (n:=0) O),(iq (n:=0) O),(iq (n:=0) O),qf⟩,⟨_,_,O,⟨_,O,(iq (n:=3) O),(iq (n:=0) O),(iq (n:=0) O),(iq (n:=0) O),qe⟩,⟨_,_,O,⟨_,O,(iq (n:=5) O),(iq (n:=0) O),(iq (n:=0) O),(iq (n:=0) O),qd⟩,⟨_,_,O,⟨_,O,(iq (n:=4) O),(iq (n:=1) O),(iq (n:=0) O),(iq (n:=0) O),qc⟩,O⟩⟩⟩⟩ (by simp [maxLen,Qh]);obtain⟨xv,bi,xw,qg⟩:=e3.pubs .head;refine Cc E O O O pS O bi (λd2 e4=>Tn (St.all _) (qg.mono bi.ea.1 bi.ea.2) (iq (n:=0) O) (iq (n:=2) O) (iq (n:=6) O) e4) λd2 E az xx xy uu xz qh p=>?_;have e6:=p;have cx:=bi.join qh e6 ⟨OS.flat (λ{_ _ _ _ _ _} k=>k),trivial⟩;simp only[uV,uK] at cx;refine AU ?_;refine Bw (AU ?_);have qi:=a7.nw;have qj:=a9.nw;have qk:=ba.nw;have ql:=bb.nw;have qm:=bc.nw;have qn:=be.nw;have qo:=bf.nw;have qp:=bg.nw;obtain⟨d3,e7,E⟩:=bd E;refine Dh O O O fY O (P4 cx (BO.mk (x:=y1) a6 qi a8 qj qk ql qm qn qo qp bh) (by first|assumption|decide) e7) λx0 cy x1 x2 p=>?_;obtain⟨x3,rfl,qq,e8⟩:=p;refine AU ?_;refine CO L8 O e8 λqr x4 e9 qs=>?_;have qt:=qq.mono qs;obtain⟨qu,qv,qw,qx,qy,q0,rfl,x5,x6,x7,x8,x9,ya,yc⟩:=AM.ex qt;refine Dk O O O ON ty_36.1 O e9 .head O λcj Y yd=>AU ?_;refine SR (kp [9,7,5,4,3,2,1] O) ?_;obtain⟨d4,fa,E⟩:=bd E;obtain⟨U,fb,E⟩:=bd E;refine O4 (m:=[(9,.bool d3.2),(7,az),(5,dx),(4,dw),(3,dv),(2,vP el 0),(1,vP b9 0)]) [8,9] [6] [7] (λX i v g=>match i with|0=>v= .agg #[.string y1.I,co,vI y1.O,cp,cq,cr,ct,cu,cv,cw,vI y1.R]∧y1.I.size≤maxLen∧AA y1.O∧AA y1.R|1=>v= .agg #[vI ad.B,bn,bo,bp,bq,br,bs]∧AA ad.B|2=>v= .string d4∧d4.size≤maxLen|3=>∃w0 w1:Value,v= .tuple #[w0,w1]∧(Rd (SX cy cj g X) g AM w0 U.1)∧(w1= .bool U.2)|4=>∃w0 w1:Value,v= .tuple #[w0,w1]∧(Rd (SX cy cj g X) g AM w0 U.1)∧(w1= .bool U.2)|5=>Rd (SX cy cj g X) g AM v U.1|6=>v= .bool U.2|7=>Xj cj 36 [vI 0,vN,vN,vN,vN,vN,vN] v g|_=>False) [[],[],[(1,45)],[(0,44),(2,46)],[(3,47)],[(4,43)],[(4,43)],[],[],[]] [(5,48),(6,49),(7,10)] mo (by kernel_rfl) [9,7,5,4,3,2,1] O (by kernel_rfl) (by kernel_rfl) (by kernel_rfl) O (kp [9,7,5,4,3,2,1] O) (λi v h1 h2 X X' o1 o2 u1 u2 hr=>?_) (by kernel_rfl) (SQ (T:=36) (λ_=>rfl) O3) ?_ ?_ ?_
 ·match i,hr with
   |0,hr|1,hr|2,hr|6,hr=>exact hr
   |3,hr|4,hr=>obtain⟨w0,w1,e,k0,k1⟩:=hr;exact⟨w0,w1,e,(Rd.mono k0 (SX.mono Y.1 o1 o2 u1 u2)),k1⟩
   |5,hr=>exact(Rd.mono hr (SX.mono Y.1 o1 o2 u1 u2))
   |7,hr=>exact hr.mono o2
   |_+8,hr=>exact hr.elim
 ·refine QO.cons [(4,43)] (by kernel_rfl) O O (by kernel_rfl) ?_ ?_
  ·intro X u g o;intro ye q1;obtain⟨q2,yf,rfl,d5,q3⟩:=q1;have d5:Rd _ _ AM q2 U.1:=d5;cases q3;intro a hf;exact⟨.bool U.2,VZ hf O O,O⟩
  exact trivial
 ·refine CM.cons O O O ?_ ?_
  ·intro X u g o hX;have c:=o.st Y;refine AU ?_;exact AS ⟨O,a6,a8,bh⟩
  refine CM.cons O O O ?_ ?_
  ·intro X u g o hX;have c:=o.st Y;refine AU ?_;exact AS ⟨O,cn⟩
  refine CM.cons O O O ?_ ?_
  ·intro X u g o hX;intro yg q4;have c:=Gd (X:=X) Y o;obtain⟨rfl,q5⟩:=q4;have q6:=bt.nw;have q7:=bu.nw;have q8:=bv.nw;have q9:=bw.nw;have rb:=bx.nw;have rd:=bz.nw;refine E6 O O O fX O c (PM (St.all _) (AM.mk (x:=ad) q5 (q6.mono c.ea.1 c.ea.2) (q7.mono c.ea.1 c.ea.2) (q8.mono c.ea.1 c.ea.2) (q9.mono c.ea.1 c.ea.2) (rb.mono c.ea.1 c.ea.2) (rd.mono c.ea.1 c.ea.2)) fa) λyh yi yj uv yk d6 p=>?_;obtain⟨rfl,re,uw⟩:=p;exact A9 ⟨d6.siz,λb hb=>d6.same b hb⟩ ⟨O,re⟩
  refine CM.cons O O O ?_ ?_
  ·intro X u g o hX;intro yl rf ym rg;have c:=Gd (X:=X) Y o;obtain⟨rfl,rh,ri,rj⟩:=rf;obtain⟨rfl,rk⟩:=rg;have fc:=c.fz;have rm:=a7.nw;have rn:=a9.nw;have ro:=ba.nw;have rp:=bb.nw;have rq:=bc.nw;have rr:=be.nw;have rs:=bf.nw;have rt:=bg.nw;refine Dh O O O fY O (P4 fc (BO.mk (x:=y1) rh rm ri rn ro rp rq rr rs rt rj) rk fb) λyn yo yp ru p=>?_;obtain⟨yq,rfl,rv,fd⟩:=p;have cz:=SX.done o hX ru fd;exact A9 cz.1 ⟨_,_,O,(Rd.mono rv cz.2),O⟩
  refine CM.cons O O O ?_ ?_
  ·intro X u g o hX;intro yr rx;have c:=Gd (X:=X) Y o;obtain⟨ry,ys,rfl,c0,rz⟩:=rx;have c0:Rd _ _ AM ry U.1:=c0;cases rz;refine AU ?_;exact AS ⟨_,_,O,c0,O⟩
  refine CM.cons O O O ?_ ?_
  ·intro X u g o hX;intro yt r0;have c:=Gd (X:=X) Y o;obtain⟨r1,yu,rfl,c1,r2⟩:=r0;have c1:Rd _ _ AM r1 U.1:=c1;cases r2;refine AU ?_;exact AS c1
  refine CM.cons O O O ?_ ?_
  ·intro X u g o hX;intro yv r3;have c:=o.st Y;obtain⟨r4,yw,rfl,d7,r5⟩:=r3;have d7:Rd _ _ AM r4 U.1:=d7;cases r5;refine AU ?_;exact AS O
  exact CM.al (λ_=>rfl) L8 O (CM.skip (by kernel_rfl) (CM.skip (by kernel_rfl) (trivial)))
 intro yx yy r6 fe r7 c2 yz r8 y0 r9 ux ff;obtain⟨d8,rfl,sa,sc,sd⟩:=r9;have fg:=(VX.cons (VX.nil Y r6 fe) sa sc sd uL (ff.at_ (s:=10) (by kernel_rfl) O O)).st;have c2:Rd _ _ AM r7 U.1:=c2;cases r8;obtain⟨d9,eb,ec,ed,ee,ef,rfl,y2,se,sf,sg,sh,si,sj⟩:=AM.ex c2;refine Dk O O O ON ty_36.1 O fg .head O λy3 Z y4=>AU ?_;refine BX (.inl O) Z (AU ?_);have sk:=a7.nw;have sm:=a9.nw;have so:=ba.nw;have sp:=bb.nw;have sq:=bc.nw;have sr:=be.nw;have ss:=bf.nw;have su:=bg.nw;obtain⟨M,fh,E⟩:=bd E;refine IW (v:= .tuple #[vI M.1,vI M.2]) (Ψ:=AA M.1∧AA M.2) O O O pR O (λh' o=>(Rw (St.all h') (BO.mk (x:=y1) a6 (sk.mono' (o.all Z.1)) a8 (sm.mono' (o.all Z.1)) (so.mono' (o.all Z.1)) (sp.mono' (o.all Z.1)) (sq.mono' (o.all Z.1)) (sr.mono' (o.all Z.1)) (ss.mono' (o.all Z.1)) (su.mono' (o.all Z.1)) bh) ((Z.oslAll (mt (mt (mt (mt mh))))).mono (λb hb=>tZ hb o.siz) (λb hb=>o.same b hb)) (iq (n:=1) O) fh).mono λ_ _ _ _ p=>⟨p.1,⟨p.2.1,p.2.2.1⟩⟩) λsv=>?_;obtain⟨sw,sx⟩:=sv;refine AU ?_;refine BK (kp [13,12,11,10,9,7,5,4,3,2,1] O) λy5 ag ay=>AU ?_;refine BX (.inl O) ag (AU ?_);have sy:=a7.mono' ((((an.trans EX).trans EX).trans EX).trans ay);have s0:=a9.mono' ((((an.trans EX).trans EX).trans EX).trans ay);have s1:=ba.mono' ((((an.trans EX).trans EX).trans EX).trans ay);have s2:=bb.mono' ((((an.trans EX).trans EX).trans EX).trans ay);have s3:=bc.mono' ((((an.trans EX).trans EX).trans EX).trans ay);have s4:=be.mono' ((((an.trans EX).trans EX).trans EX).trans ay);have s5:=bf.mono' ((((an.trans EX).trans EX).trans EX).trans ay);have s6:=bg.mono' ((((an.trans EX).trans EX).trans EX).trans ay);obtain⟨y6,fi,E⟩:=bd E;refine Kt O O O fW O (λh' o=>Nu (St.all h') (BO.mk (x:=y1) a6 (sy.mono' (o.all ag.1)) a8 (s0.mono' (o.all ag.1)) (s1.mono' (o.all ag.1)) (s2.mono' (o.all ag.1)) (s3.mono' (o.all ag.1)) (s4.mono' (o.all ag.1)) (s5.mono' (o.all ag.1)) (s6.mono' (o.all ag.1)) bh) fi) (AU ?_);refine BK (kp [85,13,12,10,7,4,3,2,1] O) λa5 ao y7=>SS O (λc3=>?_) (λc3=>?_)
 ·cases GV c3 E
 have E:=GW c3 E;refine AU ?_;obtain⟨y8,fj,E⟩:=bd E;refine BR ao (mt (mt (mt mh))) O O sl_80.1 fj O λy9 fk=>UO O fk fa_36_1.1 O λza fm=>?_;obtain⟨s7,fn,E⟩:=bd E;have s8:=ao.epAt (mt (mt (mt mh))) fn F5 fm;refine If K9 (λ_ x=>x) O s8 ty_32.1 O λzb zc=>AU ?_;obtain⟨eg,Q,E⟩:=bd E;refine AY 9 101 (.bool eg) ?_ ?_
 ·cases eh:(decide ((↑s7.D.length:Int)≠3))
  ·have Q:=GW eh Q;refine AU ?_;obtain⟨zd,fo,Q⟩:=bd Q;refine BR ao (mt (mt (mt mh))) O O sl_80.1 fo O λze fp=>AU ?_;refine UO O fp fa_36_1.1 O λzf fq=>AU ?_;obtain⟨zg,fr,Q⟩:=bd Q;have s9:=ao.epAt (mt (mt (mt mh))) fr F5 fq;refine If K9 (λ_ x=>x) O s9 ty_32.1 O λzh ta=>AU ?_;refine AZ Q O O ta sl_32.1 O λzi Q zj zk=>AU ?_;cases Q;exact A0 O
  have Q:=GV eh Q;cases Q;exact BF O O
 refine AU ?_;obtain⟨tb,ab,E⟩:=bd E;refine AY 7 109 (.bool tb) ?_ ?_
 ·cases ei:eg
  ·have ab:=GW ei ab;refine AU ?_;obtain⟨zl,fs,ab⟩:=bd ab;refine BR ao (mt (mt (mt mh))) O O sl_80.1 fs O λzm ft=>AU ?_;refine UO O ft fa_36_6.1 O λzn fu=>AU ?_;obtain⟨zo,fv,ab⟩:=bd ab;have tc:=ao.epAt (mt (mt (mt mh))) fv HB fu;refine If K9 (λ_ x=>x) O tc ty_29.1 O λzp zq=>AU ?_;cases ab;exact A0 O
  have ab:=GV ei ab;cases ab;exact BF O O
 refine AU ?_;refine SS O (λc4=>?_) (λc4=>?_)
 ·cases GV c4 E
 have E:=GW c4 E;refine AU ?_;obtain⟨zr,fw,zs,ck⟩:=ao.pubs (.tail (.tail (.tail .head)));obtain⟨j,d,zt,ej⟩:=fw.pubs (.tail (.tail (.tail .head)));obtain⟨c5,fx,E⟩:=bd E;obtain⟨zu,ac,E⟩:=bd E;obtain⟨zv,V,E⟩:=bd E;obtain⟨zw,A,E⟩:=bd E;obtain⟨zx,y,E⟩:=bd E;obtain⟨zy,C,E⟩:=bd E;obtain⟨zz,z,E⟩:=bd E;obtain⟨z0,t,E⟩:=bd E;obtain⟨z1,G,E⟩:=bd E;obtain⟨td,F,E⟩:=bd E;refine Gq (λa w=>IV B j a5 (180,[]) a w [(0,.bool td)] (Bx d8 36 [vI U.1.B,d9,eb,ec,ed,ee,ef]::Bx qr 36 [vI d3.1.B,qu,qv,qw,qx,qy,q0]::OS AB 3 az d2::OS (A7.sl AB) 29 dx af.2.2::Bx el 36 [vI ad.B,bn,bo,bp,bq,br,bs]::Bx b9 31 [.string y1.I,co,vI y1.O,cp,cq,cr,ct,cu,cv,cw,vI y1.R]::L) λ_ _=>True) ?_ ?_
 ·rcases YW c5 with ap|ap
  ·have ac:=GW ap ac;have te:=tN ac;subst te;have tf:=tN V;subst tf;have tg:=tN A;subst tg;have th:=tN y;subst th;have ti:=tN C;subst ti;have tj:=tN z;subst tj;have tk:=tN t;subst tk;have tl:=tN G;subst tl;have tm:=tN F;subst tm;cases E
  have ac:=GV ap ac;obtain⟨ek,fy,ac⟩:=bd ac;obtain⟨cl,f0,ac⟩:=bd ac;have tn:=tN ac;subst tn;rcases YW cl with ah|ah
  ·have V:=GW ah V;have tp:=tN V;subst tp;have tq:=tN A;subst tq;have tr:=tN y;subst tr;have ts:=tN C;subst ts;have tt:=tN z;subst tt;have tu:=tN t;subst tu;have tv:=tN G;subst tv;have tw:=tN F;subst tw;cases E
  have V:=GV ah V;obtain⟨bj,dc,V⟩:=bd V;obtain⟨bk,dd,V⟩:=bd V;have f1:=tN V;subst f1;rcases YW bk with H|H
  ·have A:=GW H A;have f2:=tN A;subst f2;have f3:=tN y;subst f3;have f4:=tN C;subst f4;have f5:=tN z;subst f5;have f6:=tN t;subst f6;have f7:=tN G;subst f7;have f8:=tN F;subst f8;cases E
  have A:=GV H A;obtain⟨bl,de,A⟩:=bd A;obtain⟨c6,df,A⟩:=bd A;obtain⟨a0,dg,A⟩:=bd A;have f9:=tN A;subst f9;rcases YW (!a0) with J|J
  ·have y:=GW J y;have ga:=tN y;subst ga;have gb:=tN C;subst gb;have gc:=tN z;subst gc;have gd:=tN t;subst gd;have ge:=tN G;subst ge;have gf:=tN F;subst gf;cases E
  have y:=GV J y;obtain⟨aq,dh,y⟩:=bd y;obtain⟨bm,di,y⟩:=bd y;obtain⟨ai,dj,y⟩:=bd y;have gg:=tN y;subst gg;rcases YW (decide (ai=63)) with W|W
  ·have C:=GW W C;have gh:=tN C;subst gh;have gi:=tN z;subst gi;have gj:=tN t;subst gj;have gl:=tN G;subst gl;have gm:=tN F;subst gm;cases E
  have C:=GV W C;obtain⟨ar,dk,C⟩:=bd C;obtain⟨aj,dl,C⟩:=bd C;have gn:=tN C;subst gn;rcases YW (decide (aj=15)) with ak|ak
  ·have z:=GW ak z;have gp:=tN z;subst gp;have gq:=tN t;subst gq;have gr:=tN G;subst gr;have gs:=tN F;subst gs;cases E
  have z:=GV ak z;obtain⟨uy,dm,z⟩:=bd z;obtain⟨au,dn,z⟩:=bd z;have gt:=tN z;subst gt;rcases YW (decide (au=15)) with am|am
  ·have t:=GW am t;have gu:=tN t;subst gu;have gv:=tN G;subst gv;have gw:=tN F;subst gw;cases E
  have t:=GV am t;obtain⟨uz,dp,t⟩:=bd t;obtain⟨av,dq,t⟩:=bd t;have gx:=tN t;subst gx;rcases YW (decide (av=7)) with aw|aw
  ·have G:=GW aw G;have gy:=tN G;subst gy;have gz:=tN F;subst gz;cases E
  have G:=GV aw G;have g0:=tN G;subst g0;rcases YW (decide (M.1=7)) with ax|ax
  ·have F:=GW ax F;have g1:=tN F;subst g1;cases E
  have F:=GV ax F;have g2:=tN F;subst g2;refine Mt (m:=[(13,vI M.2),(12,vI M.1),(10,vP d8 0),(7,az),(4,dw),(3,dv),(2,vP el 0),(1,vP b9 0)]) 71 (λi v g=>match i with|0=>v= .agg #[vI U.1.B,d9,eb,ec,ed,ee,ef]∧AA U.1.B|1=>v= .agg #[vI ad.B,bn,bo,bp,bq,br,bs]∧AA ad.B|2=>v= .bool c5|3=>v= .bool c5|4=>v= .agg #[.string y1.I,co,vI y1.O,cp,cq,cr,ct,cu,cv,cw,vI y1.R]∧y1.I.size≤maxLen∧AA y1.O∧AA y1.R|5=>v= .agg #[vI ad.B,bn,bo,bp,bq,br,bs]∧AA ad.B|6=>Rd (SN j a5 g) g AM v ek|7=>v= .agg #[vI ad.B,bn,bo,bp,bq,br,bs]∧AA ad.B|8=>v= .bool cl|9=>v= .bool cl|10=>v= .bool cl|11=>v= .agg #[.string y1.I,co,vI y1.O,cp,cq,cr,ct,cu,cv,cw,vI y1.R]∧y1.I.size≤maxLen∧AA y1.O∧AA y1.R|12=>v= .agg #[vI ad.B,bn,bo,bp,bq,br,bs]∧AA ad.B|13=>Sl j g AM v af.1|14=>Pt j g AM v bj|15=>Rd j g AM v bj|16=>Sl j g BB v af.2.1|17=>v= .bool bk|18=>v= .bool bk|19=>v= .bool bk|20=>v= .agg #[.string y1.I,co,vI y1.O,cp,cq,cr,ct,cu,cv,cw,vI y1.R]∧y1.I.size≤maxLen∧AA y1.O∧AA y1.R|21=>v= .agg #[vI ad.B,bn,bo,bp,bq,br,bs]∧AA ad.B|22=>Sl j g AM v af.1|23=>Pt j g AM v bl|24=>Rd j g AM v bl|25=>Sl j g BB v af.2.1|26=>Sl j g BB v c6|27=>v= .bool a0|28=>v= .bool (!a0)|29=>v= .bool (!a0)|30=>v= .bool (!a0)|31=>Sl j g AM v af.1|32=>Pt j g AM v aq|33=>Pt j g (A7.sl (A7.sl AB)) v aq.D|34=>Sl j g (A7.sl AB) v aq.D|35=>Pt j g (A7.sl AB) v bm|36=>Sl j g AB v bm|37=>Pt j g AB v ai|38=>v=vI ai∧AA ai|39=>v= .bool (decide (ai=63))|40=>v= .bool (decide (ai=63))|41=>v= .bool (decide (ai=63))|42=>Sl j g AM v af.1|43=>Pt j g AM v ar|44=>Pt j g (A7.sl AB) v ar.K|45=>Sl j g AB v ar.K|46=>Pt j g AB v aj|47=>v=vI aj∧AA aj|48=>v= .bool (decide (aj=15))|49=>v= .bool (decide (aj=15))|50=>v= .bool (decide (aj=15))|51=>v=az|52=>EP az ((1:Int).toNat*(AB).sz+0) v|53=>v=vI au∧AA au|54=>v= .bool (decide (au=15))|55=>v= .bool (decide (au=15))|56=>v= .bool (decide (au=15))|57=>v=az|58=>EP az ((3:Int).toNat*(AB).sz+0) v|59=>v=vI av∧AA av|60=>v= .bool (decide (av=7))|61=>v= .bool (decide (av=7))|62=>v= .bool (decide (av=7))|63=>v=vI M.1∧AA M.1|64=>v= .bool (decide (M.1=7))|65=>v= .bool (decide (M.1=7))|66=>v= .bool (decide (M.1=7))|67=>v=vI M.2∧AA M.2|68=>v= .bool (decide (M.2=0))|69=>v= .bool (decide (M.2=0))|70=>v= .bool (decide (M.2=0))|_=>False) [[],[],[(0,110),(1,111)],[(2,112)],[(3,113)],[(3,113)],[(4,114),(5,115),(3,113)],[(3,113)],[(6,116),(7,117),(3,113)],[(3,113),(8,118)],[(9,119)],[(10,120)],[(10,120)],[(10,120)],[(13,123),(10,120)],[(14,124),(10,120)],[(10,120)],[(11,121),(12,122),(15,125),(16,126),(10,120)],[(10,120),(17,127)],[(18,128)],[(19,129)],[(19,129)],[(19,129)],[(22,132),(19,129)],[(23,133),(19,129)],[(19,129)],[(25,135),(19,129)],[(20,130),(21,131),(24,134),(26,136),(19,129)],[(27,137),(19,129)],[(19,129),(28,138)],[(29,139)],[(30,140)],[(31,141),(30,140)],[(32,142),(30,140)],[(33,143),(30,140)],[(34,144),(30,140)],[(35,145),(30,140)],[(36,146),(30,140)],[(37,147),(30,140)],[(38,148),(30,140)],[(30,140),(39,149)],[(40,150)],[(41,151)],[(42,152),(41,151)],[(43,153),(41,151)],[(44,154),(41,151)],[(45,155),(41,151)],[(46,156),(41,151)],[(47,157),(41,151)],[(41,151),(48,158)],[(49,159)],[(50,160)],[(51,161),(50,160)],[(52,162),(50,160)],[(53,163),(50,160)],[(50,160),(54,164)],[(55,165)],[(56,166)],[(57,167),(56,166)],[(58,168),(56,166)],[(59,169),(56,166)],[(56,166),(60,170)],[(61,171)],[(62,172)],[(63,173),(62,172)],[(62,172),(64,174)],[(65,175)],[(66,176)],[(67,177),(66,176)],[(66,176),(68,178)],[(69,179)]] [(70,0)] mo (by kernel_rfl) [13,12,10,7,4,3,2,1] O (by kernel_rfl) (by kernel_rfl) (by kernel_rfl) (kp [13,12,10,7,4,3,2,1] O) MO ?_ ?_
  ·refine AQ.cons O EH (AQ.cons O EH (AQ.cons O ?_ ?_))
   ·intro u g o;intro u0 g3 u3 g4;have c:=SN.st d o;obtain⟨rfl,g5⟩:=g3;obtain⟨rfl,g6⟩:=g4;have g7:=se.nw;have g8:=sf.nw;have g9:=sg.nw;have ha:=sh.nw;have hc:=si.nw;have hd:=sj.nw;have he:=bt.nw;have hg:=bu.nw;have hi:=bv.nw;have hj:=bw.nw;have hk:=bx.nw;have hl:=bz.nw;refine E6 O O O TX O c (GU (St.all _) (AM.mk (x:=U.1) g5 (g7.mono c.ea.1 c.ea.2) (g8.mono c.ea.1 c.ea.2) (g9.mono c.ea.1 c.ea.2) (ha.mono c.ea.1 c.ea.2) (hc.mono c.ea.1 c.ea.2) (hd.mono c.ea.1 c.ea.2)) (AM.mk (x:=ad) g6 (he.mono c.ea.1 c.ea.2) (hg.mono c.ea.1 c.ea.2) (hi.mono c.ea.1 c.ea.2) (hj.mono c.ea.1 c.ea.2) (hk.mono c.ea.1 c.ea.2) (hl.mono c.ea.1 c.ea.2)) fx) λu4 u5 u6 tx u7 c7 p=>?_;obtain⟨rfl,ty⟩:=p;exact A9 ⟨c7.siz,λb hb=>c7.same b hb⟩ O
   refine AQ.cons O EH (AQ.cons O ?_ ?_)
   ·intro u g o;intro hm hn;have c:=o.st d;obtain rfl:hm= .bool true:=tP hn (tK Value.bool ap);refine⟨113,O,.inl ⟨O,?_⟩⟩;refine AU ?_;exact AS ⟨O,a6,a8,bh⟩
   refine AQ.cons O ?_ ?_
   ·intro u g o;intro ho hp;have c:=o.st d;obtain rfl:ho= .bool true:=tP hp (tK Value.bool ap);refine⟨113,O,.inl ⟨O,?_⟩⟩;refine AU ?_;exact AS ⟨O,cn⟩
   refine AQ.cons O ?_ ?_
   ·intro u g o;intro u8 hq u9 ht hu hv;have c:=SN.st d o;obtain⟨rfl,hx,hy,hz⟩:=hq;obtain⟨rfl,h0⟩:=ht;obtain rfl:hu= .bool true:=tP hv (tK Value.bool ap);refine⟨113,O,.inl ⟨O,?_⟩⟩;have fc:=c.fz;have h3:=a7.nw;have h5:=a9.nw;have h6:=ba.nw;have h7:=bb.nw;have h8:=bc.nw;have h9:=be.nw;have ia:=bf.nw;have ib:=bg.nw;have ic:=bt.nw;have ie:=bu.nw;have ig:=bv.nw;have ih:=bw.nw;have ii:=bx.nw;have ij:=bz.nw;refine Dh O O O VP O (KY fc (BO.mk (x:=y1) hx h3 hy h5 h6 h7 h8 h9 ia ib hz) (AM.mk (x:=ad) h0 ic ie ig ih ii ij) (.inl ⟨O,O⟩:Sl _ _ CN _ []) fy) λva vb vc ik p=>?_;obtain⟨il,dr⟩:=p;have cm:=Fz.done o ik dr;exact A9 cm.1 (Rd.mono il cm.2)
   refine AQ.cons O ?_ ?_
   ·intro u g o;intro im io;have c:=o.st d;obtain rfl:im= .bool true:=tP io (tK Value.bool ap);refine⟨113,O,.inl ⟨O,?_⟩⟩;refine AU ?_;exact AS ⟨O,cn⟩
   refine AQ.cons O ?_ ?_
   ·intro u g o;intro ip b0 vd ir it iu;have c:=SN.st d o;have b0:Rd _ _ AM ip ek:=b0;obtain⟨rfl,iv⟩:=ir;obtain rfl:it= .bool true:=tP iu (tK Value.bool ap);refine⟨113,O,.inl ⟨O,?_⟩⟩;have iw:=bt.nw;have iy:=bu.nw;have iz:=bv.nw;have i0:=bw.nw;have i1:=bx.nw;have i2:=bz.nw;refine E6 O O O TX O c (GU (St.all _) (b0.mono c.ea) (AM.mk (x:=ad) iv (iw.mono c.ea.1 c.ea.2) (iy.mono c.ea.1 c.ea.2) (iz.mono c.ea.1 c.ea.2) (i0.mono c.ea.1 c.ea.2) (i1.mono c.ea.1 c.ea.2) (i2.mono c.ea.1 c.ea.2)) f0) λve vf vg tz vh c8 p=>?_;obtain⟨rfl,t0⟩:=p;exact A9 ⟨c8.siz,λb hb=>c8.same b hb⟩ O
   refine AQ.cons O ?_ ?_
   ·intro u g o;intro i3 i4 vi i5;have c:=o.st d;obtain rfl:i3= .bool true:=tP i4 (tK Value.bool ap);cases i5;refine AU ?_;exact AS O
   refine AQ.cons O EH (AQ.cons O ?_ ?_)
   ·intro u g o;intro i6 i7;have c:=o.st d;obtain rfl:i6= .bool true:=tP i7 (tK Value.bool ah);refine⟨120,O,.inl ⟨O,?_⟩⟩;refine AU ?_;exact AS ⟨O,a6,a8,bh⟩
   refine AQ.cons O ?_ ?_
   ·intro u g o;intro i8 i9;have c:=o.st d;obtain rfl:i8= .bool true:=tP i9 (tK Value.bool ah);refine⟨120,O,.inl ⟨O,?_⟩⟩;refine AU ?_;exact AS ⟨O,cn⟩
   refine AQ.cons O ?_ ?_
   ·intro u g o;intro ja jb;have c:=o.st d;obtain rfl:ja= .bool true:=tP jb (tK Value.bool ah);refine⟨120,O,.inl ⟨O,?_⟩⟩;refine AU ?_;have jc:=ck.nw;exact AS jc
   refine AQ.cons O ?_ ?_
   ·intro u g o;intro jd b1 je jf;have c:=o.st d;have b1:Sl _ _ AM jd af.1:=b1;obtain rfl:je= .bool true:=tP jf (tK Value.bool ah);refine⟨120,O,.inl ⟨O,?_⟩⟩;refine AU ?_;refine M2 O O b1 sl_80.1 dc O λvj jg=>AU ?_;exact AS jg
   refine AQ.cons O ?_ ?_
   ·intro u g o;intro jh b2 ji jj;have c:=o.st d;have b2:Pt _ _ AM jh bj:=b2;obtain rfl:ji= .bool true:=tP jj (tK Value.bool ah);refine⟨120,O,.inl ⟨O,?_⟩⟩;obtain⟨vk,_,jk⟩:=b2.lv;refine AU ?_;exact AS jk
   refine AQ.cons O ?_ ?_
   ·intro u g o;intro jl jm;have c:=o.st d;obtain rfl:jl= .bool true:=tP jm (tK Value.bool ah);refine⟨120,O,.inl ⟨O,?_⟩⟩;refine AU ?_;have jn:=ej.mono' (o.ext d.1);exact AS jn
   refine AQ.cons O ?_ ?_
   ·intro u g o;intro vl jo vm jp jq a1 jr a2 js jt;have c:=SN.st d o;obtain⟨rfl,ju,jv,jw⟩:=jo;obtain⟨rfl,jx⟩:=jp;have a1:=Rd.sn a5 a1;have a1:Rd _ _ AM jq bj:=a1;have a2:=Sl.sn a5 a2;have a2:Sl _ _ BB jr af.2.1:=a2;obtain rfl:js= .bool true:=tP jt (tK Value.bool ah);refine⟨120,O,.inl ⟨O,?_⟩⟩;have jy:=a7.nw;have jz:=a9.nw;have j0:=ba.nw;have j1:=bb.nw;have j2:=bc.nw;have j3:=be.nw;have j4:=bf.nw;have j5:=bg.nw;have j6:=bt.nw;have j7:=bu.nw;have j8:=bv.nw;have j9:=bw.nw;have ka:=bx.nw;have kb:=bz.nw;refine E6 O O O fZ O c (Ns (St.all _) (BO.mk (x:=y1) ju (jy.mono c.ea.1 c.ea.2) jv (jz.mono c.ea.1 c.ea.2) (j0.mono c.ea.1 c.ea.2) (j1.mono c.ea.1 c.ea.2) (j2.mono c.ea.1 c.ea.2) (j3.mono c.ea.1 c.ea.2) (j4.mono c.ea.1 c.ea.2) (j5.mono c.ea.1 c.ea.2) jw) (AM.mk (x:=ad) jx (j6.mono c.ea.1 c.ea.2) (j7.mono c.ea.1 c.ea.2) (j8.mono c.ea.1 c.ea.2) (j9.mono c.ea.1 c.ea.2) (ka.mono c.ea.1 c.ea.2) (kb.mono c.ea.1 c.ea.2)) (a1.mono c.ea) (a2.mono c.ea.1 c.ea.2) dd) λvn vo vp t1 vq c9 p=>?_;obtain⟨rfl,t2⟩:=p;exact A9 ⟨c9.siz,λb hb=>c9.same b hb⟩ O
   refine AQ.cons O ?_ ?_
   ·intro u g o;intro kc kd vr ke;have c:=o.st d;obtain rfl:kc= .bool true:=tP kd (tK Value.bool ah);cases ke;refine AU ?_;exact AS O
   refine AQ.cons O EH (AQ.cons O ?_ ?_)
   ·intro u g o;intro kf kg;have c:=o.st d;obtain rfl:kf= .bool true:=tP kg (tK Value.bool H);refine⟨129,O,.inl ⟨O,?_⟩⟩;refine AU ?_;exact AS ⟨O,a6,a8,bh⟩
   refine AQ.cons O ?_ ?_
   ·intro u g o;intro kh ki;have c:=o.st d;obtain rfl:kh= .bool true:=tP ki (tK Value.bool H);refine⟨129,O,.inl ⟨O,?_⟩⟩;refine AU ?_;exact AS ⟨O,cn⟩
   refine AQ.cons O ?_ ?_
   ·intro u g o;intro kj kk;have c:=o.st d;obtain rfl:kj= .bool true:=tP kk (tK Value.bool H);refine⟨129,O,.inl ⟨O,?_⟩⟩;refine AU ?_;have kl:=ck.nw;exact AS kl
   refine AQ.cons O ?_ ?_
   ·intro u g o;intro km b3 kn ko;have c:=o.st d;have b3:Sl _ _ AM km af.1:=b3;obtain rfl:kn= .bool true:=tP ko (tK Value.bool H);refine⟨129,O,.inl ⟨O,?_⟩⟩;refine AU ?_;refine M2 O O b3 sl_80.1 de O λvs kr=>AU ?_;exact AS kr
   refine AQ.cons O ?_ ?_
   ·intro u g o;intro ks b4 kt ku;have c:=o.st d;have b4:Pt _ _ AM ks bl:=b4;obtain rfl:kt= .bool true:=tP ku (tK Value.bool H);refine⟨129,O,.inl ⟨O,?_⟩⟩;obtain⟨vt,_,kv⟩:=b4.lv;refine AU ?_;exact AS kv
   refine AQ.cons O ?_ ?_
   ·intro u g o;intro kw kx;have c:=o.st d;obtain rfl:kw= .bool true:=tP kx (tK Value.bool H);refine⟨129,O,.inl ⟨O,?_⟩⟩;refine AU ?_;have ky:=ej.mono' (o.ext d.1);exact AS ky
   refine AQ.cons O ?_ ?_
   ·intro u g o;intro kz b5 k2 k3;have c:=o.st d;have b5:Sl _ _ BB kz af.2.1:=b5;obtain rfl:k2= .bool true:=tP k3 (tK Value.bool H);refine⟨129,O,.inl ⟨O,?_⟩⟩;refine Ku 1 (dW O O b5 sl_70.1 df O λvu k4=>AU ?_);exact AS k4
   refine AQ.cons O ?_ ?_
   ·intro u g o;intro vv k5 vw k6 k8 a3 k9 a4 la lb;have c:=SN.st d o;obtain⟨rfl,lc,ld,le⟩:=k5;obtain⟨rfl,lf⟩:=k6;have a3:=Rd.sn a5 a3;have a3:Rd _ _ AM k8 bl:=a3;have a4:=Sl.sn a5 a4;have a4:Sl _ _ BB k9 c6:=a4;obtain rfl:la= .bool true:=tP lb (tK Value.bool H);refine⟨129,O,.inl ⟨O,?_⟩⟩;have lg:=a7.nw;have lh:=a9.nw;have li:=ba.nw;have lj:=bb.nw;have lm:=bc.nw;have ln:=be.nw;have lo:=bf.nw;have lp:=bg.nw;have lq:=bt.nw;have lr:=bu.nw;have ls:=bv.nw;have lt:=bw.nw;have lu:=bx.nw;have lw:=bz.nw;refine E6 O O O fZ O c (Ns (St.all _) (BO.mk (x:=y1) lc (lg.mono c.ea.1 c.ea.2) ld (lh.mono c.ea.1 c.ea.2) (li.mono c.ea.1 c.ea.2) (lj.mono c.ea.1 c.ea.2) (lm.mono c.ea.1 c.ea.2) (ln.mono c.ea.1 c.ea.2) (lo.mono c.ea.1 c.ea.2) (lp.mono c.ea.1 c.ea.2) le) (AM.mk (x:=ad) lf (lq.mono c.ea.1 c.ea.2) (lr.mono c.ea.1 c.ea.2) (ls.mono c.ea.1 c.ea.2) (lt.mono c.ea.1 c.ea.2) (lu.mono c.ea.1 c.ea.2) (lw.mono c.ea.1 c.ea.2)) (a3.mono c.ea) (a4.mono c.ea.1 c.ea.2) dg) λvx vy vz t3 v0 da p=>?_;obtain⟨rfl,t4⟩:=p;exact A9 ⟨da.siz,λb hb=>da.same b hb⟩ O
   refine AQ.cons O ?_ ?_
   ·intro u g o;intro v3 lx ly lz;have c:=o.st d;cases lx;obtain rfl:ly= .bool true:=tP lz (tK Value.bool H);refine⟨129,O,.inl ⟨O,?_⟩⟩;refine AU ?_;exact AS O
   refine AQ.cons O ?_ ?_
   ·intro u g o;intro l0 l1 v4 l2;have c:=o.st d;obtain rfl:l0= .bool true:=tP l1 (tK Value.bool H);cases l2;refine AU ?_;exact AS O
   refine AQ.cons O EH (AQ.cons O ?_ ?_)
   ·intro u g o;intro l3 l4;have c:=o.st d;obtain rfl:l3= .bool true:=tP l4 (tK Value.bool J);refine⟨140,O,.inl ⟨O,?_⟩⟩;refine AU ?_;have l5:=ck.nw;exact AS l5
   refine AQ.cons O ?_ ?_
   ·intro u g o;intro l6 b6 l7 l8;have c:=o.st d;have b6:Sl _ _ AM l6 af.1:=b6;obtain rfl:l7= .bool true:=tP l8 (tK Value.bool J);refine⟨140,O,.inl ⟨O,?_⟩⟩;refine AU ?_;refine M2 O O b6 sl_80.1 dh O λv5 l9=>AU ?_;exact AS l9
   refine AQ.cons O ?_ ?_
   ·intro u g o;intro ma b7 mb mc;have c:=o.st d;have b7:Pt _ _ AM ma aq:=b7;obtain rfl:mb= .bool true:=tP mc (tK Value.bool J);refine⟨140,O,.inl ⟨O,?_⟩⟩;have md:=b7.fl F5;refine AU ?_;exact AS md
   refine AQ.cons O ?_ ?_
   ·intro u g o;intro me b8 mf mg;have c:=o.st d;have b8:Pt _ _ (A7.sl (A7.sl AB)) me aq.D:=b8;obtain rfl:mf= .bool true:=tP mg (tK Value.bool J);refine⟨140,O,.inl ⟨O,?_⟩⟩;obtain⟨v6,_,mi⟩:=b8.ll;refine AU ?_;exact AS mi
   refine AQ.cons O ?_ ?_
   ·intro u g o;intro mj ca ml mm;have c:=o.st d;have ca:Sl _ _ (A7.sl AB) mj aq.D:=ca;obtain rfl:ml= .bool true:=tP mm (tK Value.bool J);refine⟨140,O,.inl ⟨O,?_⟩⟩;refine AU ?_;refine M2 O O ca sl_32.1 di O λv7 mn=>AU ?_;exact AS mn
   refine AQ.cons O ?_ ?_
   ·intro u g o;intro mp cb mr ms;have c:=o.st d;have cb:Pt _ _ (A7.sl AB) mp bm:=cb;obtain rfl:mr= .bool true:=tP ms (tK Value.bool J);refine⟨140,O,.inl ⟨O,?_⟩⟩;obtain⟨v8,_,mu⟩:=cb.ll;refine AU ?_;exact AS mu
   refine AQ.cons O ?_ ?_
   ·intro u g o;intro mv cc mw mx;have c:=o.st d;have cc:Sl _ _ AB mv bm:=cc;obtain rfl:mw= .bool true:=tP mx (tK Value.bool J);refine⟨140,O,.inl ⟨O,?_⟩⟩;refine AU ?_;refine M2 O O cc sl_29.1 dj O λv9 my=>AU ?_;exact AS my
   refine AQ.cons O ?_ ?_
   ·intro u g o;intro mz cd m0 m1;have c:=o.st d;have cd:Pt _ _ AB mz ai:=cd;obtain rfl:m0= .bool true:=tP m1 (tK Value.bool J);refine⟨140,O,.inl ⟨O,?_⟩⟩;have m2:=cd.i;refine AU ?_;exact AS ⟨O,m2⟩
   refine AQ.cons O ?_ ?_
   ·intro u g o;intro wa m3 m4 m5;have c:=o.st d;obtain⟨rfl,wb⟩:=m3;obtain rfl:m4= .bool true:=tP m5 (tK Value.bool J);refine⟨140,O,.inl ⟨O,?_⟩⟩;refine AU ?_;exact AS O
   refine AQ.cons O ?_ ?_
   ·intro u g o;intro m6 m7 wc m8;have c:=o.st d;obtain rfl:m6= .bool true:=tP m7 (tK Value.bool J);cases m8;refine AU ?_;exact AS O
   refine AQ.cons O EH (AQ.cons O ?_ ?_)
   ·intro u g o;intro m9 na;have c:=o.st d;obtain rfl:m9= .bool true:=tP na (tK Value.bool W);refine⟨151,O,.inl ⟨O,?_⟩⟩;refine AU ?_;have nb:=ck.nw;exact AS nb
   refine AQ.cons O ?_ ?_
   ·intro u g o;intro nc ce nd ne;have c:=o.st d;have ce:Sl _ _ AM nc af.1:=ce;obtain rfl:nd= .bool true:=tP ne (tK Value.bool W);refine⟨151,O,.inl ⟨O,?_⟩⟩;refine AU ?_;refine M2 O O ce sl_80.1 dk O λwd nf=>AU ?_;exact AS nf
   refine AQ.cons O ?_ ?_
   ·intro u g o;intro ng cf nh ni;have c:=o.st d;have cf:Pt _ _ AM ng ar:=cf;obtain rfl:nh= .bool true:=tP ni (tK Value.bool W);refine⟨151,O,.inl ⟨O,?_⟩⟩;have nj:=cf.fl HB;refine AU ?_;exact AS nj
   refine AQ.cons O ?_ ?_
   ·intro u g o;intro nk cg nl nm;have c:=o.st d;have cg:Pt _ _ (A7.sl AB) nk ar.K:=cg;obtain rfl:nl= .bool true:=tP nm (tK Value.bool W);refine⟨151,O,.inl ⟨O,?_⟩⟩;obtain⟨we,_,nn⟩:=cg.ll;refine AU ?_;exact AS nn
   refine AQ.cons O ?_ ?_
   ·intro u g o;intro no ch np nq;have c:=o.st d;have ch:Sl _ _ AB no ar.K:=ch;obtain rfl:np= .bool true:=tP nq (tK Value.bool W);refine⟨151,O,.inl ⟨O,?_⟩⟩;refine AU ?_;refine M2 O O ch sl_29.1 dl O λwf nr=>AU ?_;exact AS nr
   refine AQ.cons O ?_ ?_
   ·intro u g o;intro ns ci nt nu;have c:=o.st d;have ci:Pt _ _ AB ns aj:=ci;obtain rfl:nt= .bool true:=tP nu (tK Value.bool W);refine⟨151,O,.inl ⟨O,?_⟩⟩;have nv:=ci.i;refine AU ?_;exact AS ⟨O,nv⟩
   refine AQ.cons O ?_ ?_
   ·intro u g o;intro wg nx ny nz;have c:=o.st d;obtain⟨rfl,wh⟩:=nx;obtain rfl:ny= .bool true:=tP nz (tK Value.bool W);refine⟨151,O,.inl ⟨O,?_⟩⟩;refine AU ?_;exact AS O
   refine AQ.cons O ?_ ?_
   ·intro u g o;intro n0 n1 wi n2;have c:=o.st d;obtain rfl:n0= .bool true:=tP n1 (tK Value.bool W);cases n2;refine AU ?_;exact AS O
   refine AQ.cons O EH (AQ.cons O ?_ ?_)
   ·intro u g o;intro n3 n4;have c:=o.st d;obtain rfl:n3= .bool true:=tP n4 (tK Value.bool ak);refine⟨160,O,.inl ⟨O,?_⟩⟩;refine AU ?_;exact AS O
   refine AQ.cons O ?_ ?_
   ·intro u g o;intro wj n5 n6 n7;have c:=o.st d;cases n5;obtain rfl:n6= .bool true:=tP n7 (tK Value.bool ak);refine⟨160,O,.inl ⟨O,?_⟩⟩;refine AU ?_;refine BR c (mt (mt mh)) O O sl_29.1 dm O λwk ds=>AU ?_;exact AS ds
   refine AQ.cons O ?_ ?_
   ·intro u g o;intro wl n8 n9 oa;have c:=o.st d;obtain rfl:n9= .bool true:=tP oa (tK Value.bool ak);refine⟨160,O,.inl ⟨O,?_⟩⟩;refine AU ?_;have ob:=c.epAt (mt (mt mh)) dn FW.id n8;refine F8 K9 (λ_ x=>x) O ob ty_3.1 O λoc=>AU ?_;exact AS ⟨O,oc⟩
   refine AQ.cons O ?_ ?_
   ·intro u g o;intro wm od oe og;have c:=o.st d;obtain⟨rfl,wn⟩:=od;obtain rfl:oe= .bool true:=tP og (tK Value.bool ak);refine⟨160,O,.inl ⟨O,?_⟩⟩;refine AU ?_;exact AS O
   refine AQ.cons O ?_ ?_
   ·intro u g o;intro oh oi wo oj;have c:=o.st d;obtain rfl:oh= .bool true:=tP oi (tK Value.bool ak);cases oj;refine AU ?_;exact AS O
   refine AQ.cons O EH (AQ.cons O ?_ ?_)
   ·intro u g o;intro ok ol;have c:=o.st d;obtain rfl:ok= .bool true:=tP ol (tK Value.bool am);refine⟨166,O,.inl ⟨O,?_⟩⟩;refine AU ?_;exact AS O
   refine AQ.cons O ?_ ?_
   ·intro u g o;intro wp om oo op;have c:=o.st d;cases om;obtain rfl:oo= .bool true:=tP op (tK Value.bool am);refine⟨166,O,.inl ⟨O,?_⟩⟩;refine AU ?_;refine BR c (mt (mt mh)) O O sl_29.1 dp O λwq dt=>AU ?_;exact AS dt
   refine AQ.cons O ?_ ?_
   ·intro u g o;intro wr oq os ot;have c:=o.st d;obtain rfl:os= .bool true:=tP ot (tK Value.bool am);refine⟨166,O,.inl ⟨O,?_⟩⟩;refine AU ?_;have ou:=c.epAt (mt (mt mh)) dq FW.id oq;refine F8 K9 (λ_ x=>x) O ou ty_3.1 O λov=>AU ?_;exact AS ⟨O,ov⟩
   refine AQ.cons O ?_ ?_
   ·intro u g o;intro ws ow ox oy;have c:=o.st d;obtain⟨rfl,wt⟩:=ow;obtain rfl:ox= .bool true:=tP oy (tK Value.bool am);refine⟨166,O,.inl ⟨O,?_⟩⟩;refine AU ?_;exact AS O
   refine AQ.cons O ?_ ?_
   ·intro u g o;intro oz o0 wu o3;have c:=o.st d;obtain rfl:oz= .bool true:=tP o0 (tK Value.bool am);cases o3;refine AU ?_;exact AS O
   refine AQ.cons O EH (AQ.cons O ?_ ?_)
   ·intro u g o;intro o4 o5;have c:=o.st d;obtain rfl:o4= .bool true:=tP o5 (tK Value.bool aw);refine⟨172,O,.inl ⟨O,?_⟩⟩;refine AU ?_;exact AS ⟨O,sw⟩
   refine AQ.cons O ?_ ?_
   ·intro u g o;intro wv o6 o7 o8;have c:=o.st d;obtain⟨rfl,wx⟩:=o6;obtain rfl:o7= .bool true:=tP o8 (tK Value.bool aw);refine⟨172,O,.inl ⟨O,?_⟩⟩;refine AU ?_;exact AS O
   refine AQ.cons O ?_ ?_
   ·intro u g o;intro o9 pa wy pb;have c:=o.st d;obtain rfl:o9= .bool true:=tP pa (tK Value.bool aw);cases pb;refine AU ?_;exact AS O
   refine AQ.cons O EH (AQ.cons O ?_ ?_)
   ·intro u g o;intro pc pd;have c:=o.st d;obtain rfl:pc= .bool true:=tP pd (tK Value.bool ax);refine⟨176,O,.inl ⟨O,?_⟩⟩;refine AU ?_;exact AS ⟨O,sx⟩
   refine AQ.cons O ?_ ?_
   ·intro u g o;intro wz pe pf pg;have c:=o.st d;obtain⟨rfl,w2⟩:=pe;obtain rfl:pf= .bool true:=tP pg (tK Value.bool ax);refine⟨176,O,.inl ⟨O,?_⟩⟩;refine AU ?_;exact AS O
   refine AQ.cons O ?_ ?_
   ·intro u g o;intro ph pi w3 pj;have c:=o.st d;obtain rfl:ph= .bool true:=tP pi (tK Value.bool ax);cases pj;refine AU ?_;exact AS O
   exact AQ.cons O EH (trivial)
  intro w4 db w5 pk;have du:=SN.st d db;cases pk;refine AU ?_;exact WF.nil (λaa ww hf hw=>⟨_,_,hf.sub (kp [0] O),hw,du,(SN.ext d.1 db),trivial⟩)
 rintro aa ww ⟨w6,w7,hf,hw,t5,w8,_⟩;refine AJ ?_ hf hw;clear hf hw ww aa;exact RT
def Oc (b:St S L h) (a:Ee N=some true) {r:Bool}(E:Ee N=some r):
 B0 prog 24 #[] S h (λv S' h'=>v= .bool r∧St S' (L) h'):=by
 obtain rfl:true=r:=tN (a.symm.trans E);exact N4 b a
end Go.Proofs.YtedgiljmffngoaaGreat
