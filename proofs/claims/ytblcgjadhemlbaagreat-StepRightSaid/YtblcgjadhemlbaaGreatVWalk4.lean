import Derived.Test.YtblcgjadhemlbaaGreatVWalk3
namespace Go.Proofs.YtblcgjadhemlbaaGreat
set_option linter.all false
open Go.RowKit
open Go.Proofs.Tryz
set_option maxRecDepth 10000
set_option maxHeartbeats 2000000
variable {N:Nat}{S:Nat→Prop}{L:List HP}{h:BL}
def M6 (hs:St S L h) {p:Value}{u:AU}(H:Rd S h CZ p u) {r:Bool}(E:E3 N u=some r):
 C5 prog 50 #[p] S h (λv S' h'=>v= .bool r∧St S' (L) h'):=by
 refine Bv (l:=[p]) 51 func50 O ntmps50 O λB=>?_
 rw[E3] at E
 refine WF.sl (Cm O H (λe=>by cases e) O hs λq1 S2 h3 aj e5 k6=>AF 1 (AY O (AG (AZ (kp [1] O) (AE (AI (A8 O k6 Fo H1 O λq7 k8=>BG BY aj.1 O k8 KY O λv9 ak=>BC O ak Io O λbv=>AA O (AN (kp [8,7,6,1] O) (BF (λa w=>IV B S2 h3 (51,[]) a w [] (L) λ_ _=>Dc N=some r) ?_ ?_)))))))))
 ·refine BT (λn1=>λa w=>∃(z:Int),IV B S2 h3 (51,[]) a w [(7,vI (↑u.E.length:Int)),(6,v9),(1,q1),(8,vI z)] (L) λ_ _=>AH z∧Cu N u (Dc N) n1 z=some r) N ?_ ?_ ?_
  ·intro J M s t
   exact⟨0,_,_,s.sub (kp [7,6,1,8] O),t,aj,(Cv.refl S2 h3),(iq (n:=0) O),E⟩
  ·rintro J M ⟨_,_,_,_,_,_,_,_,E⟩
   rw[Cu] at E;cases E
  rintro n1 J M ⟨z,bw,bx,s,t,A,y,bz,E⟩
  refine A6 ?_ s t
  clear s t M J
  rw[Cu] at E
  refine AI (BK O (AN (kp [9,7,6,1,8] O) (AE (AX O E (λbj E=>?_) (λbj E=>?_)))))
  ·refine AT (AE (BV (WF.sl (AF 2 ?_))))
   obtain⟨b,am,E⟩:=bd E
   refine Bz O O (ak.mono' y) Io am O λb0 bk=>Ci BY A.1 O bk IJ (λe=>by cases e) O λb1 bl=>AG (Di O1 O A λb2 b3 an G=>?_)
   obtain⟨Q,U,V,rfl,ao,Y,W,ab,ac,ad,ae,ap,aq,ar,au,av,aw,ax,ay,az,a0,af⟩:=Ce.ex (bl.mono G)
   refine IA (vs:=[.string b.F,vI b.C,vI b.I,vI b.D,Q,U,V,vI b.T,vI b.Z,vI b.Ao,vI b.Ap,vI b.S,vI b.L,vI b.Ah,vI b.Ai,vI b.Ac,vI b.Ab,vI b.K]) (cs':=[.string b.F,vI b.C,vI b.I,vI b.D,Q,U,V,vI b.T,vI b.Z,vI b.Ao,vI b.Ap,vI b.S,vI b.L,vI b.Ah,vI b.Ai,vI b.Ac,vI b.Ab,vI b.K]) O O O (AC O (AC O (AC O (AC O (AC ac.one (AC ad.one (AC ae.one (AC O (AC O (AC O (AC O (AC O (AC O (AC O (AC O (AC O (AC O (AC O FA)))))))))))))))))) IJ O an .head O O λb4 c m=>AZ (kp [4,7,6,1,8] O) (AE (CX (.inl O) c (AD G5 O (AS CL c O mh O A7 O ?_))))
   obtain⟨bm,a1,E⟩:=bd E
   refine BR O O O IZ O (λh' o=>CV (St.all h') Y (iq (n:=0) O) (iq (n:=5) O) a1) (CE O (AA O ?_))
   obtain⟨a2,d,E⟩:=bd E
   refine AW 8 24 (.bool a2) ?_ ?_
   ·cases a3:(!bm)
    ·have d:=HG a3 d
     refine AB O (AD Js O (AB O (AS CL c O mh O A7 O (AB O (A8 O (k6.mono (y.trans (G.trans m))) B6 Do O λb5 bn=>AB O (BG CL c.1 O bn Gu O λb6 bo=>AB O (BC O bo Fy O λbp=>AB O ?_)))))))
     obtain⟨b7,a4,d⟩:=bd d
     refine BR O O O QP O (λh' o=>HA (St.all h') W (J9 bp) a4) (AB O (CE O (AL O ?_)))
     cases d
     exact AV O
    have d:=HE a3 d
    cases d
    exact A3 O O
   refine AA O ?_
   obtain⟨a5,g,E⟩:=bd E
   refine AW 8 33 (.bool a5) ?_ ?_
   ·cases a6:a2
    ·have g:=HG a6 g
     refine AB O (Ci CL c.1 O (k6.mono (y.trans (G.trans m))) HS (λe=>by cases e) O λb8 bq=>AB O (AD Js O (AB O (AS CL c O mh O A7 O (AB O (AD Id O (AB O (AS CL c O mh O A7 O (AB O ?_)))))))))
     obtain⟨b9,a7,g⟩:=bd g
     refine BR O O O aQ O (λh' o=>L3 (St.all h') (bq.mono (o.all c.1)) W ab a7) (AB O (CE O (AL O ?_)))
     cases g
     exact AV O
    have g:=HE a6 g
    cases g
    exact A3 O O
   refine AA O ?_
   obtain⟨a8,i,E⟩:=bd E
   refine AW 5 39 (.bool a8) ?_ ?_
   ·cases a9:a5
    ·have i:=HG a9 i
     refine AB O (AD OP O (AB O (AS CL c O mh O A7 O (AB O ?_))))
     obtain⟨ca,ba,i⟩:=bd i
     refine BR O O O IZ O (λh' o=>CV (St.all h') af (iq (n:=0) O) (iq (n:=240) O) ba) (AB O (CE O (AL O ?_)))
     cases i
     exact AV O
    have i:=HE a9 i
    cases i
    exact A3 O O
   refine AA O ?_
   obtain⟨bb,j,E⟩:=bd E
   refine AW 4 44 (.bool bb) ?_ ?_
   ·cases bc:a8
    ·have j:=HG bc j
     refine AB O (EH (vs:=[.string b.F,vI b.C,vI b.I,vI b.D,Q,U,V,vI b.T,vI b.Z,vI b.Ao,vI b.Ap,vI b.S,vI b.L,vI b.Ah,vI b.Ai,vI b.Ac,vI b.Ab,vI b.K]) CL c O mh O O IJ O O (AB O ?_))
     obtain⟨cb,be,j⟩:=bd j
     refine BR O O O iK O (λh' o=>Mi (St.all h') (Ce.mk (x:=b) ao Y W ab ((ac.mono' m).mono' (o.all c.1)) ((ad.mono' m).mono' (o.all c.1)) ((ae.mono' m).mono' (o.all c.1)) ap aq ar au av aw ax ay az a0 af) be) (AB O (CE O (AL O ?_)))
     cases j
     exact AV O
    have j:=HE bc j
    cases j
    exact A3 O O
   refine AA O ?_
   obtain⟨br,k,E⟩:=bd E
   refine AW 4 49 (.bool br) ?_ ?_
   ·cases bf:bb
    ·have k:=HG bf k
     refine AB O (EH (vs:=[.string b.F,vI b.C,vI b.I,vI b.D,Q,U,V,vI b.T,vI b.Z,vI b.Ao,vI b.Ap,vI b.S,vI b.L,vI b.Ah,vI b.Ai,vI b.Ac,vI b.Ab,vI b.K]) CL c O mh O O IJ O O (AB O ?_))
     obtain⟨cc,bg,k⟩:=bd k
     refine BR O O O iJ O (λh' o=>Me (St.all h') (Ce.mk (x:=b) ao Y W ab ((ac.mono' m).mono' (o.all c.1)) ((ad.mono' m).mono' (o.all c.1)) ((ae.mono' m).mono' (o.all c.1)) ap aq ar au av aw ax ay az a0 af) bg) (AB O (CE O (AL O ?_)))
     cases k
     exact AV O
    have k:=HE bf k
    cases k
    exact A3 O O
   refine B3 (kp [49,7,6,1,8] O) λcd X bh=>AX O E (λbs E=>?_) (λbs E=>?_)
   ·refine AI (AM O (kp [2] O) (A5 (λJ M s t=>?_)))
    have ag:=X.drop .head
    cases E
    exact Ee s t O O (e5.trans (y.trans (G.trans (m.trans bh)))) ⟨O,ag⟩
   refine AT (B5 (CN (.inl O) (BB O (AA O (AN (kp [8,7,6,1] O) (WF.nil (λJ M s t=>?_)))))))
   have ah:=X.drop .head
   exact⟨(B0 (z+1)),_,_,s.sub (kp [7,6,1,8] O),t,ah,(y.trans (G.trans (m.trans bh))),(B1 _),E⟩
  refine By O (λJ M s t=>?_)
  exact⟨_,_,s.sub PO,t,A,y,E⟩
 rintro J M ⟨bt,bu,s,t,ai,bi,E⟩
 refine A6 ?_ s t
 clear s t M J
 rw[Dc] at E
 refine AI (AM O (kp [2] O) (A5 (λJ M s t=>?_)))
 cases E
 exact Ee s t O O (e5.trans bi) ⟨O,ai⟩
def M7 (x:St S L h) {b:Value}{j:AU}(d:Rd S h CZ b j) {a:Int}(g:AH a) {c:Int}(m:AH c) {r:Bool}(E:JJ N j a c=some r):
 C5 prog 78 #[b,vI a,vI c] S h (λv S' h'=>v= .bool r∧St S' (L) h'):=by
 refine Bv (l:=[b,vI a,vI c]) 27 func78 O ntmps78 O λB=>?_
 rw[JJ] at E
 refine WF.sl (Cm O d (λe=>by cases e) O x λK S2 M i w y=>AF 1 (AY O (AG (AZ (kp [3,1,2] O) (AE (AI (AA O (B9 O (AN (kp [9,3,1,2] O) (AX O E (λz E=>?_) (λz E=>?_)))))))))))
 ·refine AI (AA O (B9 O (AM O (kp [6] O) (A5 (λA C o p=>?_)))))
  cases E
  exact Ee o p O O w ⟨O,i⟩
 refine AT (AI (A8 O y B6 Do O λQ D=>BG BY i.1 O D Gu O λF s=>AA O ?_))
 obtain⟨k,n,E⟩:=bd E
 refine Bz O O s Fy n O λG t=>A8 O t Iv MG O λH u=>A9 BY i.1 O u A7 O λI=>AM O (kp [7,1] O) (AI (AA O (AA O (B9 O (AA O (AW 5 26 (.bool ((decide (k.An=a))||(decide (k.An=(B0 (a+1)))))) ?_ ?_))))))
 ·cases J:(decide (k.An=a))
  ·exact AB O (AA O (AB O (AA O (AB O (BB O (AB O (B9 O (AL O (AV O)))))))))
  exact A3 O O
 refine AM O (kp [6] O) (A5 (λA C o p=>?_))
 cases E
 exact Ee o p O O w ⟨O,i⟩
def MK (hs:St S L h) {p:Value}{m:AU}(V:Rd S h CZ p m) {r:Bool}(E:G1 N m=some r):
 C5 prog 51 #[p] S h (λv S' h'=>v= .bool r∧St S' (L) h'):=by
 refine Bv (l:=[p]) 60 func51 O ntmps51 O λB=>?_
 rw[G1] at E
 refine WF.sl (Cm O V (λe=>by cases e) O hs λq1 S2 h3 av e5 k6=>AF 1 (AY O (AG (AZ (kp [1] O) (AE (AI (A8 O k6 B6 Do O λq7 k8=>BG BY av.1 O k8 Gu O λv9 aw=>BC O aw Fy O λc1=>AA O (AN (kp [11,10,9,1] O) (BF (λa w=>IV B S2 h3 (60,[]) a w [(1,q1)] (L) λ_ _=>Dg N m=some r) ?_ ?_)))))))))
 ·refine BT (λn1=>λa w=>∃(x:Int),IV B S2 h3 (60,[]) a w [(10,vI (↑m.A.length:Int)),(9,v9),(1,q1),(11,vI x)] (L) λ_ _=>AH x∧De N m (Dg N m) n1 x=some r) N ?_ ?_ ?_
  ·intro s t j k
   exact⟨0,_,_,j.sub (kp [10,9,1,11] O),k,av,(Cv.refl S2 h3),(iq (n:=0) O),E⟩
  ·rintro s t ⟨_,_,_,_,_,_,_,_,E⟩
   rw[De] at E;cases E
  rintro n1 s t ⟨x,c2,c3,j,k,y,z,c4,E⟩
  refine A6 ?_ j k
  clear j k t s
  rw[De] at E
  refine AI (BK O (AN (kp [12,10,9,1,11] O) (AE (AX O E (λbt E=>?_) (λbt E=>?_)))))
  ·refine AT (AE (BV (WF.sl (AF 2 ?_))))
   obtain⟨d,ax,E⟩:=bd E
   refine Bz O O (aw.mono' z) Fy ax O λc5 bu=>Ci BY y.1 O bu KX (λe=>by cases e) O λc6 bv=>AG (Di O2 O y λc7 c8 ay W=>?_)
   obtain⟨az,a0,a1,rfl,c9,da,bw,db,bx,bz,dc,dd,b0,de,df,b1⟩:=Cd.ex (bv.mono W)
   refine IA (vs:=[.string d.F,vI d.C,vI d.An,vI d.Aj,az,a0,vI d.S,vI d.L,vI d.Ak,vI d.K,vI d.Bd,a1]) (cs':=[.string d.F,vI d.C,vI d.An,vI d.Aj,az,a0,vI d.S,vI d.L,vI d.Ak,vI d.K,vI d.Bd,a1]) O O O (AC O (AC O (AC O (AC O (AC bx.one (AC bz.one (AC O (AC O (AC O (AC O (AC O (AC b1.one FA)))))))))))) KX O ay .head O O λdg u ai=>AZ (kp [4,10,9,1,11] O) (AE (CX (.inl O) u (Ci CL u.1 O (k6.mono (z.trans (W.trans ai))) HS (λe=>by cases e) O λdh b2=>AD MG O (AS CL u O mh O A7 O (AD Po O (AS CL u O mh O A7 O ?_))))))
   obtain⟨di,a2,E⟩:=bd E
   refine BR O O O aP O (λh' o=>M7 (St.all h') (b2.mono (o.all u.1)) bw b0 a2) (CE O (B3 (kp [21,10,9,1,11] O) λdj Y a3=>AX O E (λb3 E=>?_) (λb3 E=>?_)))
   ·refine AI (AM O (kp [2] O) (A5 (λs t j k=>?_)))
    have a4:=Y.drop .head
    cases E
    exact Ee j k O O (e5.trans (z.trans (W.trans (ai.trans a3)))) ⟨O,a4⟩
   refine AT (B5 (CN (.inl O) (BB O (AA O (AN (kp [11,10,9,1] O) (WF.nil (λs t j k=>?_)))))))
   have a5:=Y.drop .head
   exact⟨(B0 (x+1)),_,_,j.sub (kp [10,9,1,11] O),k,a5,(z.trans (W.trans (ai.trans a3))),(B1 _),E⟩
  refine By O (λs t j k=>?_)
  exact⟨_,_,j.sub (kp [1] O),k,y,z,E⟩
 rintro s t ⟨aj,ak,j,k,ab,am,E⟩
 refine A6 ?_ j k
 clear j k t s
 rw[Dg] at E
 refine AE (AI ?_)
 have a6:=k6.mono am
 refine A8 O a6 Fo H1 O λdk b4=>BG BY ab.1 O b4 KY O λb5 a7=>BC O a7 Io O λdl=>AA O (AN (kp [26,25,24,1] O) (BF (λa w=>IV B aj ak (60,[]) a w [] (L) λ_ _=>Et N=some r) ?_ ?_))
 ·refine BT (λn3=>λa w=>∃(G:Int),IV B aj ak (60,[]) a w [(25,vI (↑m.E.length:Int)),(24,b5),(1,q1),(26,vI G)] (L) λ_ _=>AH G∧Dd N m (Et N) n3 G=some r) N ?_ ?_ ?_
  ·intro s t j k
   exact⟨0,_,_,j.sub (kp [25,24,1,26] O),k,ab,(Cv.refl aj ak),(iq (n:=0) O),E⟩
  ·rintro s t ⟨_,_,_,_,_,_,_,_,E⟩
   rw[Dd] at E;cases E
  rintro n3 s t ⟨G,dm,dn,j,k,H,J,dp,E⟩
  refine A6 ?_ j k
  clear j k t s
  rw[Dd] at E
  refine AI (BK O (AN (kp [27,25,24,1,26] O) (AE (AX O E (λb6 E=>?_) (λb6 E=>?_)))))
  ·refine AT (AE (BV (WF.sl (AF 2 ?_))))
   obtain⟨b,a8,E⟩:=bd E
   refine Bz O O (a7.mono' J) Io a8 O λdq b7=>Ci BY H.1 O b7 IJ (λe=>by cases e) O λdr b8=>AG (Di O1 O H λds dt a9 X=>?_)
   obtain⟨ac,ad,ae,rfl,du,dv,dw,b9,ba,bb,bc,ca,cb,cc,cd,ce,cf,cg,ch,ci,cj,ck⟩:=Ce.ex (b8.mono X)
   refine IA (vs:=[.string b.F,vI b.C,vI b.I,vI b.D,ac,ad,ae,vI b.T,vI b.Z,vI b.Ao,vI b.Ap,vI b.S,vI b.L,vI b.Ah,vI b.Ai,vI b.Ac,vI b.Ab,vI b.K]) (cs':=[.string b.F,vI b.C,vI b.I,vI b.D,ac,ad,ae,vI b.T,vI b.Z,vI b.Ao,vI b.Ap,vI b.S,vI b.L,vI b.Ah,vI b.Ai,vI b.Ac,vI b.Ab,vI b.K]) O O O (AC O (AC O (AC O (AC O (AC ba.one (AC bb.one (AC bc.one (AC O (AC O (AC O (AC O (AC O (AC O (AC O (AC O (AC O (AC O (AC O FA)))))))))))))))))) IJ O a9 .head O O λcl c M=>AZ (kp [6,25,24,1,26] O) (AI ?_)
   have Q:=a6.mono (J.trans (X.trans M))
   refine A8 O Q B6 Do O λcm be=>BG BY c.1 O be Gu O λcn bf=>AD Js O (AS BY c O mh O A7 O ?_)
   obtain⟨co,an,E⟩:=bd E
   refine Bz O O bf Fy an O λcp bg=>A8 O bg Iv MG O λcq bh=>A9 BY c.1 O bh A7 O λbi=>AM O (kp [7,6,25,24,1,26] O) (AE (CX (.inl O) c (Ci CL c.1 O Q HS (λe=>by cases e) O λcr bj=>AA O (AD Id O (AS CL c O mh O A7 O ?_)))))
   obtain⟨bk,ao,E⟩:=bd E
   refine BR O O O aP O (λh' o=>M7 (St.all h') (bj.mono (o.all c.1)) bi b9 ao) (CE O (AA O ?_))
   obtain⟨bl,g,E⟩:=bd E
   refine AW 15 58 (.bool bl) ?_ ?_
   ·cases af:(!bk)
    ·have g:=HG af g
     refine AB O (AD G5 O (AB O (AS CL c O mh O A7 O (AB O (B9 O (AB O (AA O ?_)))))))
     obtain⟨bm,i,g⟩:=bd g
     refine AW 10 57 (.bool bm) ?_ ?_
     ·cases ag:(decide (b.C=4))
      ·have i:=HG ag i
       cases i
       exact A3 O O
      have i:=HE ag i
      refine AB O (A8 O Q B6 Do O λcs bn=>AB O (BG CL c.1 O bn Gu O λct bo=>AB O (AD Id O (AB O (AS CL c O mh O A7 O (AB O ?_))))))
      obtain⟨cu,ap,i⟩:=bd i
      refine Bz O O bo Fy ap O λcv bp=>AB O (A8 O bp Iv MG O λcw bq=>AB O (A9 CL c.1 O bq A7 O λcx=>AB O (AA O (AB O (CW O (AB O (AL O ?_)))))))
      cases i
      exact AV O
     refine AL O ?_
     cases g
     exact AV O
    have g:=HE af g
    cases g
    exact A3 O O
   refine B3 (kp [58,25,24,1,26] O) λcy U ah=>AX O E (λbr E=>?_) (λbr E=>?_)
   ·refine AI (AM O (kp [2] O) (A5 (λs t j k=>?_)))
    have aq:=U.drop .head
    cases E
    exact Ee j k O O (e5.trans (am.trans (J.trans (X.trans (M.trans ah))))) ⟨O,aq⟩
   refine AT (B5 (CN (.inl O) (BB O (AA O (AN (kp [26,25,24,1] O) (WF.nil (λs t j k=>?_)))))))
   have ar:=U.drop .head
   exact⟨(B0 (G+1)),_,_,j.sub (kp [25,24,1,26] O),k,ar,(J.trans (X.trans (M.trans ah))),(B1 _),E⟩
  refine By O (λs t j k=>?_)
  exact⟨_,_,j.sub PO,k,H,J,E⟩
 rintro s t ⟨cz,c0,j,k,au,bs,E⟩
 refine A6 ?_ j k
 clear j k t s
 rw[Et] at E
 refine AI (AM O (kp [2] O) (A5 (λs t j k=>?_)))
 cases E
 exact Ee j k O O (e5.trans (am.trans bs)) ⟨O,au⟩
def Hx (A:St S L h) {b:Int}(q:AH b) {c:Int}(s:AH c) {r:Int}(E:Fk N b c=some r):
 C5 prog 79 #[vI b,vI c] S h (λv S' h'=>v=vI r∧AH r∧St S' (L) h'):=by
 refine Bv (l:=[vI b,vI c]) 34 func79 O ntmps79 O λB=>?_
 rw[Fk] at E
 refine AI (AM O (kp [0,1] O) (AE (AI (AA O (B9 O (AN (kp [10,0,1] O) (AX O E (λK E=>?_) (λK E=>?_))))))))
 ·refine AI (AM O (kp [4] O) (A5 (λt u g i=>?_)))
  cases E
  exact Ee g i O O (Cv.refl S h) ⟨O,(iq (n:=0) O),A⟩
 refine AT (AE (AI (AA O (AA O (CP O (AN (kp [13,0,1] O) (AX O E (λM E=>?_) (λM E=>?_))))))))
 ·refine AI (AM O (kp [4] O) (A5 (λt u g i=>?_)))
  cases E
  exact Ee g i O O (Cv.refl S h) ⟨O,(iq (n:=1099511627777) O),A⟩
 refine AT (AE (CX (.inl O) A (AA O (H9 O Oj Lf O ?_))))
 obtain⟨z,C,E⟩:=bd E
 refine It (v:= .tuple #[.int .u64 z.1,.int .u64 z.2]) (Ψ:=IntKind.has .u64 z.1∧IntKind.has .u64 z.2) O O O aK O (λh' o=>(Kw (St.all h') (En _ _) (show IntKind.has .u64 1099511627776 by first|assumption|exact⟨by decide,by decide⟩) C).mono λ_ _ _ _ p=>⟨p.1,⟨p.2.1,p.2.2.1⟩⟩) λQ=>?_
 obtain⟨U,V⟩:=Q
 refine AA O (CS O (CS O (AY O (AY O (B3 (kp [6,5,1] O) λh7 D W=>AE (CX (.inl O) D (AA O (AA O (AA O (H9 O Oj Lf O ?_))))))))))
 obtain⟨d,x,E⟩:=bd E
 refine It (v:= .tuple #[.int .u64 d.1,.int .u64 d.2]) (Ψ:=IntKind.has .u64 d.1∧IntKind.has .u64 d.2) O O O aJ O (λh' o=>(Kx (St.all h') U V (En _ _) x).mono λ_ _ _ _ p=>⟨p.1,⟨p.2.1,p.2.2.1⟩⟩) λF=>?_
 obtain⟨G,X⟩:=F
 refine AA O (CS O (CS O (AY O (AY O (B3 (kp [8,7] O) λm k H=>AE (AI (AA O (CW O (AN (kp [29,7] O) (HN (λa w=>∃(j:Int),IV B S m (34,[]) a w [(7,.int .u64 j)] (L) λ_ _=>IntKind.has .u64 j∧JI N j=some r) ?_ ?_))))))))))
 ·refine AX O E (λI E=>?_) (λI E=>?_)
  ·refine CN (.inl O) (AA O (Je O O O (AM O (kp [7] O) (WF.nil (λt u g i=>?_)))))
   exact⟨(IntKind.wrap .u64 (d.1+1)),_,_,g.sub (kp [7] O),i,k,(Cv.refl S m),(En _ _),E⟩
  refine AT (WF.nil (λt u g i=>?_))
  exact⟨d.1,_,_,g.sub (kp [7] O),i,k,(Cv.refl S m),G,E⟩
 rintro t u ⟨j,Y,Z,g,i,y,J,ab,E⟩
 refine A6 ?_ g i
 clear g i u t
 rw[JI] at E
 refine AI (AA O (H9 O Lf Oj O (AM O (kp [4] O) (A5 (λt u g i=>?_)))))
 cases E
 exact Ee g i O O (W.trans (H.trans J)) ⟨O,(B1 _),y⟩
def Nv (hs:St S L h) {c:Value}{b:(List (List B4))}(d:Sl S h (BW.sl CY) c b) {r:Int}(E:IY N b=some r):
 C5 prog 80 #[c] S h (λv S' h'=>v=vI r∧AH r∧St S' (L) h'):=by
 refine Bv (l:=[c]) 48 func80 O ntmps80 O λB=>?_
 rw[IY] at E
 refine AI (AM O (kp [0] O) (AI (AM O (kp [3,0] O) (AE (AI (AA O (BC O d W1 O λb1=>AA O (AN (kp [9,8,7,3] O) (BF (λa w=>∃(W:Int),IV B S h (48,[]) a w [(3,vI W)] (L) λ_ _=>AH W∧EE N W=some r) ?_ ?_)))))))))
 ·refine BT (λX=>λa w=>∃(D:Int) (k:Int),IV B S h (48,[]) a w [(8,vI (↑b.length:Int)),(7,c),(3,vI D),(9,vI k)] (L) λ_ _=>AH D∧AH k∧DH N b (EE N) X D k=some r) N ?_ ?_ ?_
  ·intro m p g i
   exact⟨0,0,_,_,g.sub (kp [8,7,3,9] O),i,hs,(Cv.refl S h),(iq (n:=0) O),(iq (n:=0) O),E⟩
  ·rintro m p ⟨_,_,_,_,_,_,_,_,_,_,E⟩
   rw[DH] at E;cases E
  rintro X m p ⟨D,k,z,A,g,i,t,C,r9,av,E⟩
  refine A6 ?_ g i
  clear g i p m
  rw[DH] at E
  refine AI (BK O (AN (kp [10,8,7,3,9] O) (AE (AX O E (λY E=>?_) (λY E=>?_)))))
  ·refine AT (AE (BF (λa w=>∃(u:Int),IV B z A (48,[]) a w [(8,vI (↑b.length:Int)),(7,c),(9,vI k),(3,vI u)] (L) λ_ _=>AH u∧FT N k (DH N b (EE N) X) u=some r) ?_ ?_))
   ·refine AI ?_
    obtain⟨Z,F,E⟩:=bd E
    refine Bz O O (d.mono' C) W1 F O λaw ab=>BG BY t.1 O ab I4 O λac x=>AM O (kp [5,8,7,3,9] O) (AI (AM O (kp [6,5,8,7,3,9] O) (BV (BT (λn3=>λa w=>∃(s:Int) (y:Int),IV B z A (48,[]) a w [(5,ac),(8,vI (↑b.length:Int)),(7,c),(9,vI k),(3,vI s),(6,vI y)] (L) λ_ _=>AH s∧AH y∧Ef N Z (FT N k (DH N b (EE N) X)) n3 s y=some r) N ?_ ?_ ?_))))
    ·intro m p g i
     exact⟨D,1,_,_,g.sub (kp [5,8,7,9,3,6] O),i,t,(Cv.refl z A),r9,(iq (n:=1) O),E⟩
    ·rintro m p ⟨_,_,_,_,_,_,_,_,_,_,E⟩
     rw[Ef] at E;cases E
    rintro n3 m p ⟨s,y,ax,ay,g,i,j,q,G,az,E⟩
    refine A6 ?_ g i
    clear g i p m
    rw[Ef] at E
    refine AE (AI (AA O (AA O (BC O (x.mono' q) Im O λa0=>BK O (AN (kp [16,5,8,7,9,3,6] O) (AX O E (λad E=>?_) (λad E=>?_)))))))
    ·refine AT (AE (BV (CX (.inr ⟨mo,by kernel_rfl⟩) j (AA O (AA O (AA O ?_))))))
     obtain⟨a1,H,E⟩:=bd E
     refine Bz O O (x.mono' q) Im H O λa2 ae=>A8 O ae LO I1 O λa3 af=>A9 CL j.1 O af A7 O λa4=>AA O (AA O (Dk O ?_))
     obtain⟨a5,I,E⟩:=bd E
     refine Bz O O (x.mono' q) Im I O λa6 ag=>A8 O ag LO I1 O λa7 ah=>A9 CL j.1 O ah A7 O λa8=>Dk O (AA O (AA O ?_))
     obtain⟨a9,J,E⟩:=bd E
     refine Bz O O (x.mono' q) Im J O λba ai=>A8 O ai LP JY O λbb aj=>A9 CL j.1 O aj A7 O λbc=>AA O (AA O (Dk O ?_))
     obtain⟨be,K,E⟩:=bd E
     refine Bz O O (x.mono' q) Im K O λbf ak=>A8 O ak LP JY O λbg al=>A9 CL j.1 O al A7 O λbh=>Dk O ?_
     obtain⟨am,M,E⟩:=bd E
     refine DF O O O Ra O (λh' o=>Hx (St.all h') (B1 _) (B1 _) M) λan=>?_
     have ao:=an
     refine QU O O O (AY O (B3 (kp [3,5,8,7,9,6] O) λbi Q ap=>B5 (CN (.inl O) (AA O (BB O (AM O (kp [6,3,5,8,7,9] O) (WF.nil (λm p g i=>?_))))))))
     exact⟨(max s am),(B0 (y+1)),_,_,g.sub (kp [5,8,7,9,3,6] O),i,Q,(q.trans ap),(Ow G ao),(B1 _),E⟩
    refine LN O (WF.nil (λm p g i=>?_))
    exact⟨s,_,_,g.sub (kp [8,7,9,3] O),i,j,q,G,E⟩
   rintro m p ⟨u,bj,bk,g,i,U,aq,ar,E⟩
   refine A6 ?_ g i
   clear g i p m
   rw[FT] at E
   refine CN (.inl O) (BB O (AA O (AN (kp [9,8,7,3] O) (WF.nil (λm p g i=>?_)))))
   exact⟨u,(B0 (k+1)),_,_,g.sub (kp [8,7,3,9] O),i,U,(C.trans aq),ar,(B1 _),E⟩
  refine By O (λm p g i=>?_)
  exact⟨D,_,_,g.sub (kp [3] O),i,t,C,r9,E⟩
 rintro m p ⟨W,bl,bm,g,i,V,au,r3,E⟩
 refine A6 ?_ g i
 clear g i p m
 rw[EE] at E
 refine AI (AA O (AM O (kp [2] O) (A5 (λm p g i=>?_))))
 cases E
 exact Ee g i O O au ⟨O,r3,V⟩
def Mf (hs:St S L h) {ah:Value}{s:AU}(bc:Rd S h CZ ah s) {r:Bool}(E:HI N s=some r):
 C5 prog 52 #[ah] S h (λv S' h'=>v= .bool r∧St S' (L) h'):=by
 refine Bv (l:=[ah]) 128 func52 O ntmps52 O λB=>?_
 rw[HI] at E
 refine WF.sl (Cm O bc (λe=>by cases e) O hs λq1 S2 h3 d2 e5 k6=>AF 1 (AY O (AG (AZ (kp [1] O) (WF.sl (AF 3 (A8 O k6 B6 Do O λq7 k8=>BG BY d2.1 O k8 Gu O λv9 gh=>BC O gh Fy O λj3=>AG ?_)))))))
 obtain⟨d3,E⟩:=Mc E
 refine Jk (r:=AJ) (zx:=0) GK O ⟨O,by unfold AH;omega⟩ O O d3 O O d2 λt b2 bi b3=>AF 1 (AY O (AG (AZ (kp [3,1] O) (AE (AI ?_)))))
 have d4:=k6.mono b3
 refine A8 O d4 B6 Do O λj4 gi=>BG BY bi.1 O gi Gu O λgj d5=>BC O d5 Fy O λj5=>AA O (AN (kp [17,16,15,3,1] O) (BF (λa w=>∃(be:List Int),IV B S2 b2 (128,[]) a w [(3,t),(1,q1)] (OS AJ 3 t be::L) λ_ _=>Dy N s be=some r) ?_ ?_))
 ·refine BT (λn1=>λa w=>∃(aj:Int) (au:List Int),IV B S2 b2 (128,[]) a w [(16,vI (↑s.A.length:Int)),(15,gj),(3,t),(1,q1),(17,vI aj)] (OS AJ 3 t au::L) λ_ _=>AH aj∧Dw N s (Dy N s) n1 aj au=some r) N ?_ ?_ ?_
  ·intro y z g j
   exact⟨0,(List.replicate ((↑s.A.length:Int):Int).toNat (0:Int)),_,_,g.sub (kp [16,15,3,1,17] O),j,bi,(Cv.refl S2 b2),(iq (n:=0) O),E⟩
  ·rintro y z ⟨_,_,_,_,_,_,_,_,_,E⟩
   rw[Dw] at E;cases E
  rintro n1 y z ⟨aj,au,j6,j7,g,j,ax,b4,j8,E⟩
  refine A6 ?_ g j
  clear g j z y
  rw[Dw] at E
  refine AI (BK O (AN (kp [18,16,15,3,1,17] O) (AE (AX O E (λgl E=>?_) (λgl E=>?_)))))
  ·refine AT (AE (BV (WF.sl (AF 3 (AA O ?_)))))
   obtain⟨H,d6,E⟩:=bd E
   refine Bz O O (d5.mono' b4) Fy d6 O λj9 gm=>Ci BY ax.1 O gm KX (λe=>by cases e) O λka gn=>AG (Di O2 O ax λkb kc d7 d8=>AF 1 (AY O (AG ?_)))
   obtain⟨d9,ea,eb,rfl,kd,ke,kf,kg,gp,gq,gr,gs,kh,ki,kj,gt⟩:=Cd.ex (gn.mono d8)
   refine IA (vs:=[.string H.F,vI H.C,vI H.An,vI H.Aj,d9,ea,vI H.S,vI H.L,vI H.Ak,vI H.K,vI H.Bd,eb]) (cs':=[.string H.F,vI H.C,vI H.An,vI H.Aj,d9,ea,vI H.S,vI H.L,vI H.Ak,vI H.K,vI H.Bd,eb]) O O O (AC O (AC O (AC O (AC O (AC gp.one (AC gq.one (AC O (AC O (AC O (AC O (AC O (AC gt.one FA)))))))))))) KX O d7 .head O O λkk ay gu=>AZ (kp [4,5,16,15,3,1,17] O) (FO (AF 6 (AA O (AA O (AD SI O (AS BY ay O mh O A7 O (AD Lb O (AS BY ay O mh O A7 O (AG ?_)))))))))
   obtain⟨ec,ed,E⟩:=bd E
   refine CJ O O O Ra O ay (Hx (St.all _) gr gs ed) λkl km kn bj gv ko p=>?_
   obtain⟨rfl,gw,g4⟩:=p
   refine AF 1 ?_
   obtain⟨kq,ee,E⟩:=bd E
   refine BU bj (mt mh) O O CA ee O λkr ef=>AG ?_
   obtain⟨gx,eg,E⟩:=bd E
   refine Fm (r:=AJ) (l:=au) (i:=aj) (x:=gx) O O (⟨_,O,O,gw⟩:Rd _ _ AJ _ ec) ef eg ML.id A7 (λ_=>rfl) bj (.tail .head) λks eh gy=>AZ (kp [16,15,3,1,17] O) (B5 (CN (.inl O) (BB O (AA O (AN (kp [17,16,15,3,1] O) (WF.nil (λy z g j=>?_)))))))
   have ei:=eh.sel [1] 1 O
   exact⟨(B0 (aj+1)),(upd au aj ec),_,_,g.sub (kp [16,15,3,1,17] O),j,ei,(b4.trans (d8.trans (gu.trans (gv.trans gy)))),(B1 _),E⟩
  refine By O (λy z g j=>?_)
  exact⟨au,_,_,g.sub (kp [3,1] O),j,ax,b4,E⟩
 rintro y z ⟨be,b5,b6,g,j,bk,b7,E⟩
 refine A6 ?_ g j
 clear g j z y
 rw[Dy] at E
 refine AE (AI (A8 O (d4.mono b7) Fo H1 O λkt gz=>BG BY bk.1 O gz KY O λaz ej=>BC O ej Io O λku=>AA O (AN (kp [34,33,32,3] O) (BF (λa w=>∃(av:List Int),IV B b5 b6 (128,[]) a w [(3,t)] (OS AJ 3 t av::L) λ_ _=>Cy N av=some r) ?_ ?_))))
 ·refine BT (λn3=>λa w=>∃(Y:Int) (J:List Int),IV B b5 b6 (128,[]) a w [(33,vI (↑s.E.length:Int)),(32,az),(3,t),(34,vI Y)] (OS AJ 3 t J::L) λ_ _=>AH Y∧B7 N s (Cy N) n3 Y J=some r) N ?_ ?_ ?_
  ·intro y z g j
   exact⟨0,be,_,_,g.sub (kp [33,32,3,34] O),j,bk,(Cv.refl b5 b6),(iq (n:=0) O),E⟩
  ·rintro y z ⟨_,_,_,_,_,_,_,_,_,E⟩
   rw[B7] at E;cases E
  rintro n3 y z ⟨Y,J,u,ek,g,j,ak,a0,kv,E⟩
  refine A6 ?_ g j
  clear g j z y
  rw[B7] at E
  refine AI (BK O (AN (kp [35,33,32,3,34] O) (AE (AX O E (λel E=>?_) (λel E=>?_)))))
  ·refine AT (AE (BF (λa w=>∃(am:List Int),IV B u ek (128,[]) a w [(33,vI (↑s.E.length:Int)),(32,az),(3,t),(34,vI Y)] (OS AJ 3 t am::L) λ_ _=>Cj N Y (B7 N s (Cy N) n3) am=some r) ?_ ?_))
   ·refine WF.sl (AF 2 ?_)
    obtain⟨c,b8,E⟩:=bd E
    refine Bz O O (ej.mono' a0) Io b8 O λg5 em=>Ci BY ak.1 O em IJ (λe=>by cases e) O λg6 en=>AG (Di O1 O ak λM g7 b9 ac=>?_)
    obtain⟨an,ao,ap,rfl,g8,g9,eo,ha,bl,bm,bn,hc,hd,he,hg,bo,bp,hi,hj,bq,br,hk⟩:=Ce.ex (en.mono ac)
    refine IA (vs:=[.string c.F,vI c.C,vI c.I,vI c.D,an,ao,ap,vI c.T,vI c.Z,vI c.Ao,vI c.Ap,vI c.S,vI c.L,vI c.Ah,vI c.Ai,vI c.Ac,vI c.Ab,vI c.K]) (cs':=[.string c.F,vI c.C,vI c.I,vI c.D,an,ao,ap,vI c.T,vI c.Z,vI c.Ao,vI c.Ap,vI c.S,vI c.L,vI c.Ah,vI c.Ai,vI c.Ac,vI c.Ab,vI c.K]) O O O (AC O (AC O (AC O (AC O (AC bl.one (AC bm.one (AC bn.one (AC O (AC O (AC O (AC O (AC O (AC O (AC O (AC O (AC O (AC O (AC O FA)))))))))))))))))) IJ O b9 .head O O λU d V=>AZ (kp [7,33,32,3,34] O) (AI (AD G5 O (AS BY d O mh O A7 O (AN (kp [39,7,33,32,3,34] O) (BV (AI (B9 O (AM O (kp [40,39,7,33,32,3,34] O) (AX O E (λep E=>?_) (λep E=>?_))))))))))
    ·refine AE ?_
     obtain⟨hl,ca,E⟩:=bd E
     obtain⟨W,cb,E⟩:=bd E
     obtain⟨X,cc,E⟩:=bd E
     obtain⟨hm,cd,E⟩:=bd E
     refine MV (m:=[(7,vP M 0),(33,vI (↑s.E.length:Int)),(32,az),(3,t),(34,vI Y)]) 17 (λi v hh=>match i with|0=>v=t|1=>v=vP M 2|2=>v=vI c.I∧AH c.I|3=>EP t (c.I.toNat*(AJ).sz+0) v|4=>v=vI W∧AH W|5=>v=vP M 4|6=>Sl u hh CY v c.Ba|7=>v=vP M 5|8=>v=vP M 5|9=>Sl u hh CY v c.Af.Bb|10=>v=vP M 5|11=>v=vP M 6|12=>Sl u hh CY v c.Af.Bc|13=>Sl (SN u U hh) hh (BW.sl CY) v ([c.Ba,c.Af.Bb,c.Af.Bc]:List (List B4))∧∃ad,v= .slice (some ad) 3 3|14=>v=vI X∧AH X|15=>v=vI (B0 (W+X))∧AH (B0 (W+X))|16=>EP t (c.I.toNat*(AJ).sz+0) v|_=>False) [[],[],[(1,43)],[(0,42),(2,44)],[(3,45)],[],[(5,47)],[],[(7,49)],[(8,50)],[],[(10,52)],[(11,53)],[(6,48),(9,51),(12,54)],[(13,55)],[(4,46),(14,56)],[(0,42),(2,44)]] [(15,57),(16,58)] mo (by kernel_rfl) [7,33,32,3,34] O (by kernel_rfl) (by kernel_rfl) (by kernel_rfl) (kp [7,33,32,3,34] O) (λi v h1 h2 o1 o2 hr=>?_) ?_ ?_
     ·match i,hr with
       |0,hr|1,hr|2,hr|3,hr|4,hr|5,hr|7,hr|8,hr|10,hr|11,hr|14,hr|15,hr|16,hr=>exact hr
       |6,hr|9,hr|12,hr=>exact Sl.mono' hr (o2.ext λb hb=>nH (d.1 b hb) o1.siz)
       |13,hr=>exact⟨Sl.mono' hr.1 (SN.mono d.1 o1 o2),hr.2⟩
       |_+17,hr=>exact hr.elim
     ·refine BP.cons O (λ_ _ _=>AF 1 (AA O (AO O))) (BP.cons O (λ_ _ _=>AF 1 (AD Js O (AO O))) (BP.cons O (λ_ _ o _ eq=>by cases eq;exact AF 1 (AS BY (o.st d) O mh O A7 O (AO ⟨O,eo⟩))) (BP.cons O (λ_ _ o=>by intro hn er ho es;cases er;obtain ⟨rfl,hp⟩:=es;exact AF 1 (BU (o.st d) (mt mh) O O CA ca O λhq ce=>AO ce)) ?_)))
      refine BP.cons O ?_ ?_
      ·intro mq hh o
       intro ht et
       have aw:=o.st d
       refine AF 1 ?_
       have eu:=aw.epAt (mt mh) cb GM.id et
       exact A9 BY (λ_ x=>x) O eu A7 O λev=>AO ⟨O,ev⟩
      refine BP.cons O (λ_ _ _=>AF 1 (AD NN O (AO O))) (BP.cons O (λ_ _ o _ ew=>by cases ew;exact AF 1 (AS BY (o.st d) O mh O I4 O (AO (bl.mono' (V.trans (o.ext d.1)))))) (BP.cons O (λ_ _ _=>AF 1 (AD LY O (AO O))) (BP.cons O (λ_ _ _ _ ey=>by cases ey;exact AF 1 (AD Pn O (AO O))) (BP.cons O (λ_ _ o _ ez=>by cases ez;exact AF 1 (AS BY (o.st d) O mh O I4 O (AO (bm.mono' (V.trans (o.ext d.1)))))) (BP.cons O (λ_ _ _=>AF 1 (AD LY O (AO O))) (BP.cons O (λ_ _ _ _ e0=>by cases e0;exact AF 1 (AD Pm O (AO O))) (BP.cons O (λ_ _ o _ e1=>by cases e1;exact AF 1 (AS BY (o.st d) O mh O I4 O (AO (bn.mono' (V.trans (o.ext d.1)))))) ?_)))))))
      refine BP.cons O ?_ ?_
      ·intro mq hh o
       intro e2 ae e3 af e4 ag
       have aw:=SN.st d o
       have ae:=Sl.mono' (S':=(SN u U hh)) ae ⟨λb hb=> .inl hb,λ_ _=>rfl,nJ _⟩
       have ae:Sl _ _ CY e2 c.Ba:=ae
       have af:=Sl.mono' (S':=(SN u U hh)) af ⟨λb hb=> .inl hb,λ_ _=>rfl,nJ _⟩
       have af:Sl _ _ CY e3 c.Af.Bb:=af
       have ag:=Sl.mono' (S':=(SN u U hh)) ag ⟨λb hb=> .inl hb,λ_ _=>rfl,nJ _⟩
       have ag:Sl _ _ CY e4 c.Af.Bc:=ag
       have g0:=aw.fz
       obtain⟨cf,bf,rfl,hu⟩:=(ae).len
       obtain⟨cg,bg,rfl,hv⟩:=(af).len
       obtain⟨ch,bh,rfl,hx⟩:=(ag).len
       refine Em (cs:=[(.slice cf c.Ba.length bf),(.slice cg c.Af.Bb.length bg),(.slice ch c.Af.Bc.length bh)]) cN O O O O O O O g0 λhy hz ci aq=>?_
       have e6:=ag.mono' aq
       have e7:=af.mono' aq
       have e8:=ae.mono' aq
       have cj:=ci.bxos (r:=(BW.sl CY)) (l:=([c.Ba,c.Af.Bb,c.Af.Bc]:List (List B4))) .head ⟨_,_,O,⟨_,O,e8⟩,⟨_,_,O,⟨_,O,e7⟩,⟨_,_,O,⟨_,O,e6⟩,O⟩⟩⟩ (by simp [maxLen])
       obtain⟨h0,ck,e9,fb⟩:=cj.pubs .head
       have a1:=Fz.done o (aq.trans e9) ck
       exact DV a1.1 ⟨Sl.mono' fb a1.2,_,O⟩
      refine BP.cons O ?_ ?_
      ·intro mq hh o
       intro h4 a2
       have aw:=SN.st d o
       obtain⟨a2,g1,rfl⟩:=a2
       refine CJ O O O iI O aw (Nv (St.all _) (a2.mono (λb hb=>aw.1 b hb) (λ_ _=>rfl)) cc) λh5 h6 h7 g2 h8 bs p=>?_
       obtain⟨rfl,fc,g3⟩:=p
       exact DV ⟨bs.siz,λb hb=>bs.same b hb⟩ ⟨O,fc⟩
      exact BP.cons O (λ_ _ _=>by intro h9 fd ia fe;obtain ⟨rfl,ib⟩:=fd;obtain ⟨rfl,ic⟩:=fe;exact AF 1 (BB O (AO ⟨O,(B1 _)⟩))) (BP.cons O (λ_ _ o=>by intro ie ff ig fg;cases ff;obtain ⟨rfl,ih⟩:=fg;exact AF 1 (BU (o.st d) (mt mh) O O CA cd O λii cl=>AO cl)) trivial)
     intro ij a3 ik fh il fi
     have cm:=SN.st d a3
     obtain⟨rfl,fj⟩:=fh
     obtain⟨fk,cn,E⟩:=bd E
     refine Fm (r:=AJ) (l:=J) (i:=c.I) (x:=fk) O O (⟨_,O,O,fj⟩:Rd _ _ AJ _ (B0 (W+X))) fi cn ML.id A7 (λ_=>rfl) cm (.tail .head) λim G bt=>AZ (kp [7,33,32,3,34] O) (AI (AD Id O (AS BY G O mh O A7 O (CW O (AN (kp [61,7,33,32,3,34] O) (AX O E (λfl E=>?_) (λfl E=>?_)))))))
     ·refine Lk 12 mo (by kernel_rfl) O G (AA O (AD Id O (AS CL G O mh O A7 O ?_)))
      obtain⟨io,co,E⟩:=bd E
      refine BU G (mt mh) O O CA co O λip cp=>?_
      obtain⟨bu,cq,E⟩:=bd E
      have fm:=G.epAt (mt mh) cq GM.id cp
      refine A9 CL (λ_ x=>x) O fm A7 O λir=>AD LI O (AS CL G O mh O A7 O (AD Ka O (AS CL G O mh O A7 O ?_)))
      obtain⟨bv,cr,E⟩:=bd E
      refine DF O O O Ra O (λh' o=>Hx (St.all h') bq br cr) λfn=>?_
      have it:=fn
      refine BB O ?_
      obtain⟨iu,ct,E⟩:=bd E
      refine BU G (mt mh) O O CA ct O λiv cu=>KT λiw cv fo=>?_
      obtain⟨fp,cw,E⟩:=bd E
      refine Fm (r:=AJ) (l:=(upd J c.I (B0 (W+X)))) (i:=c.D) (x:=fp) O O (⟨_,O,O,(B1 _)⟩:Rd _ _ AJ _ (B0 (bu+bv))) cu cw ML.id A7 (λ_=>rfl) cv (.tail .head) λiy cx fq=>AZ (kp [33,32,3,34] O) (B5 (WF.nil (λy z g j=>?_)))
      have cy:=cx.sel [1] 1 O
      exact⟨(upd (upd J c.I (B0 (W+X))) c.D (B0 (bu+bv))),_,_,g.sub (kp [33,32,3,34] O),j,cy,(ac.trans (V.trans ((SN.ext d.1 a3).trans (bt.trans (fo.trans fq))))),E⟩
     refine AT (B5 (WF.nil (λy z g j=>?_)))
     have cz:=G.sel [1] 1 O
     exact⟨(upd J c.I (B0 (W+X))),_,_,g.sub (kp [33,32,3,34] O),j,cz,(ac.trans (V.trans ((SN.ext d.1 a3).trans bt))),E⟩
    refine AE (AI (B9 O (AM O (kp [74,39,7,33,32,3,34] O) (HN (λa w=>∃(a4:Bool),IV B u U (128,[]) a w [(39,vI c.C),(7,vP M 0),(33,vI (↑s.E.length:Int)),(32,az),(3,t),(34,vI Y),(74,.bool a4)] (Bx M 67 [.string c.F,vI c.C,vI c.I,vI c.D,an,ao,ap,vI c.T,vI c.Z,vI c.Ao,vI c.Ap,vI c.S,vI c.L,vI c.Ah,vI c.Ai,vI c.Ac,vI c.Ab,vI c.K]::OS AJ 3 t J::L) λ_ _=>Dx N J c (Cj N Y (B7 N s (Cy N) n3)) a4=some r) ?_ ?_))))
    ·refine AX O E (λfr E=>?_) (λfr E=>?_)
     ·refine AT (WF.nil (λy z g j=>?_))
      exact⟨(decide (c.C=1)),_,_,g.sub (kp [39,7,33,32,3,34,74] O),j,d,(Cv.refl u U),E⟩
     refine AI (B9 O (AM O (kp [74,39,7,33,32,3,34] O) (HN (λa w=>∃(ar:Bool),IV B u U (128,[]) a w [(39,vI c.C),(7,vP M 0),(33,vI (↑s.E.length:Int)),(32,az),(3,t),(34,vI Y),(74,.bool ar)] (Bx M 67 [.string c.F,vI c.C,vI c.I,vI c.D,an,ao,ap,vI c.T,vI c.Z,vI c.Ao,vI c.Ap,vI c.S,vI c.L,vI c.Ah,vI c.Ai,vI c.Ac,vI c.Ab,vI c.K]::OS AJ 3 t J::L) λ_ _=>HM N (Dx N J c (Cj N Y (B7 N s (Cy N) n3))) ar=some r) ?_ ?_)))
     ·refine AX O E (λfs E=>?_) (λfs E=>?_)
      ·refine AT (WF.nil (λy z g j=>?_))
       exact⟨(decide (c.C=5)),_,_,g.sub (kp [39,7,33,32,3,34,74] O),j,d,(Cv.refl u U),E⟩
      refine CN (.inl O) (B9 O (AM O (kp [74,39,7,33,32,3,34] O) (WF.nil (λy z g j=>?_))))
      exact⟨(decide (c.C=3)),_,_,g.sub (kp [39,7,33,32,3,34,74] O),j,d,(Cv.refl u U),E⟩
     rintro y z ⟨ar,iz,i0,g,j,c0,ft,E⟩
     refine A6 ?_ g j
     clear g j z y
     rw[HM] at E
     refine WF.nil (λy z g j=>?_)
     exact⟨ar,_,_,g.sub (kp [39,7,33,32,3,34,74] O),j,c0,ft,E⟩
    rintro y z ⟨a4,i1,i2,g,j,k,a5,E⟩
    refine A6 ?_ g j
    clear g j z y
    rw[Dx] at E
    refine AX O E (λfu E=>?_) (λfu E=>?_)
    ·refine Lk 12 mo (by kernel_rfl) O k (AA O (AD Js O (AS CL k O mh O A7 O ?_)))
     obtain⟨i3,c1,E⟩:=bd E
     refine BU k (mt mh) O O CA c1 O λi4 c2=>?_
     obtain⟨bw,c3,E⟩:=bd E
     have fv:=k.epAt (mt mh) c3 GM.id c2
     refine A9 CL (λ_ x=>x) O fv A7 O λi5=>AD I8 O (AS CL k O mh O A7 O (AD Jt O (AS CL k O mh O A7 O ?_)))
     obtain⟨bx,c4,E⟩:=bd E
     refine DF O O O Ra O (λh' o=>Hx (St.all h') bo bp c4) λfw=>?_
     have i6:=fw
     refine BB O ?_
     obtain⟨i7,c5,E⟩:=bd E
     refine BU k (mt mh) O O CA c5 O λi8 c6=>KT λi9 c7 fx=>?_
     obtain⟨fy,c8,E⟩:=bd E
     refine Fm (r:=AJ) (l:=J) (i:=c.I) (x:=fy) O O (⟨_,O,O,(B1 _)⟩:Rd _ _ AJ _ (B0 (bw+bx))) c6 c8 ML.id A7 (λ_=>rfl) c7 (.tail .head) λja c9 f0=>AZ (kp [33,32,3,34] O) (B5 (WF.nil (λy z g j=>?_)))
     have da:=c9.sel [1] 1 O
     exact⟨(upd J c.I (B0 (bw+bx))),_,_,g.sub (kp [33,32,3,34] O),j,da,(ac.trans (V.trans (a5.trans (fx.trans f0)))),E⟩
    refine AI (B9 O (AM O (kp [90,7,33,32,3,34] O) (AX O E (λf1 E=>?_) (λf1 E=>?_))))
    ·refine AE (Lk 13 mo (by kernel_rfl) O k (AA O (AD Js O (AS CL k O mh O A7 O ?_))))
     obtain⟨jb,db,E⟩:=bd E
     refine BU k (mt mh) O O CA db O λjc dc=>?_
     obtain⟨a6,dd,E⟩:=bd E
     have f2:=k.epAt (mt mh) dd GM.id dc
     refine A9 CL (λ_ x=>x) O f2 A7 O λjd=>AD I8 O (AS CL k O mh O A7 O (AD Jt O (AS CL k O mh O A7 O ?_)))
     obtain⟨a7,de,E⟩:=bd E
     refine DF O O O Ra O (λh' o=>Hx (St.all h') bo bp de) λf3=>?_
     have je:=f3
     refine Vf O O O (BB O ?_)
     obtain⟨jf,df,E⟩:=bd E
     refine BU k (mt mh) O O CA df O λjg dg=>KT λjh dh f4=>?_
     obtain⟨f5,di,E⟩:=bd E
     refine Fm (r:=AJ) (l:=J) (i:=c.I) (x:=f5) O O (⟨_,O,O,(B1 _)⟩:Rd _ _ AJ _ (B0 (a6+(B0 (2*a7))))) dg di ML.id A7 (λ_=>rfl) dh (.tail .head) λji Q f6=>AZ (kp [7,33,32,3,34] O) (Lk 13 mo (by kernel_rfl) O Q (AA O (AD Id O (AS CL Q O mh O A7 O ?_))))
     obtain⟨jj,dj,E⟩:=bd E
     refine BU Q (mt mh) O O CA dj O λjk dk=>?_
     obtain⟨bz,dl,E⟩:=bd E
     have f7:=Q.epAt (mt mh) dl GM.id dk
     refine A9 CL (λ_ x=>x) O f7 A7 O λjl=>AD LI O (AS CL Q O mh O A7 O (AD Ka O (AS CL Q O mh O A7 O ?_)))
     obtain⟨b0,dm,E⟩:=bd E
     refine DF O O O Ra O (λh' o=>Hx (St.all h') bq br dm) λf8=>?_
     have jm:=f8
     refine Vf O O O (BB O ?_)
     obtain⟨jn,dn,E⟩:=bd E
     refine BU Q (mt mh) O O CA dn O λjo dp=>KT λjp dq f9=>?_
     obtain⟨ga,dr,E⟩:=bd E
     refine Fm (r:=AJ) (l:=(upd J c.I (B0 (a6+(B0 (2*a7)))))) (i:=c.D) (x:=ga) O O (⟨_,O,O,(B1 _)⟩:Rd _ _ AJ _ (B0 (bz+(B0 (2*b0))))) dp dr ML.id A7 (λ_=>rfl) dq (.tail .head) λjq ds gb=>AZ (kp [33,32,3,34] O) (B5 (WF.nil (λy z g j=>?_)))
     have dt:=ds.sel [1] 1 O
     exact⟨(upd (upd J c.I (B0 (a6+(B0 (2*a7))))) c.D (B0 (bz+(B0 (2*b0))))),_,_,g.sub (kp [33,32,3,34] O),j,dt,(ac.trans (V.trans (a5.trans (f4.trans (f6.trans (f9.trans gb)))))),E⟩
    refine AT (B5 (WF.nil (λy z g j=>?_)))
    have du:=k.sel [1] 1 O
    exact⟨J,_,_,g.sub (kp [33,32,3,34] O),j,du,(ac.trans (V.trans a5)),E⟩
   rintro y z ⟨am,jr,js,g,j,dv,gc,E⟩
   refine A6 ?_ g j
   clear g j z y
   rw[Cj] at E
   refine CN (.inl O) (BB O (AA O (AN (kp [34,33,32,3] O) (WF.nil (λy z g j=>?_)))))
   exact⟨(B0 (Y+1)),am,_,_,g.sub (kp [33,32,3,34] O),j,dv,(a0.trans gc),(B1 _),E⟩
  refine By O (λy z g j=>?_)
  exact⟨J,_,_,g.sub (kp [3] O),j,ak,a0,E⟩
 rintro y z ⟨av,a8,a9,g,j,ba,b1,E⟩
 refine A6 ?_ g j
 clear g j z y
 rw[Cy] at E
 refine AE (AI (AA O (MO ba mh O CA O λjt=>AA O (AN (kp [121,120,119] O) (BF (λa w=>IV B a8 a9 (128,[]) a w [] (L) λ_ _=>FJ N=some r) ?_ ?_)))))
 ·refine BT (λn8=>λa w=>∃(ai:Int),IV B a8 a9 (128,[]) a w [(120,vI (↑av.length:Int)),(119,t),(121,vI ai)] (OS AJ 3 t av::L) λ_ _=>AH ai∧Dv N av (FJ N) n8 ai=some r) N ?_ ?_ ?_
  ·intro y z g j
   exact⟨0,_,_,g.sub (kp [120,119,121] O),j,ba,(Cv.refl a8 a9),(iq (n:=0) O),E⟩
  ·rintro y z ⟨_,_,_,_,_,_,_,_,E⟩
   rw[Dv] at E;cases E
  rintro n8 y z ⟨ai,ju,jv,g,j,ab,bb,jw,E⟩
  refine A6 ?_ g j
  clear g j z y
  rw[Dv] at E
  refine AI (BK O (AN (kp [122,120,119,121] O) (AE (AX O E (λgd E=>?_) (λgd E=>?_)))))
  ·refine AT (AE (BV (AI ?_)))
   obtain⟨jx,dw,E⟩:=bd E
   refine BU ab mh O O CA dw O λjy dx=>?_
   obtain⟨jz,dy,E⟩:=bd E
   have ge:=ab.epAt mh dy GM.id dx
   refine A9 BY (λ_ x=>x) O ge A7 O λj0=>AM O (kp [9,120,119,121] O) (AI (AA O (CP O (AN (kp [126,120,119,121] O) (AX O E (λgf E=>?_) (λgf E=>?_))))))
   ·refine AI (AM O (kp [2] O) (A5 (λy z g j=>?_)))
    have dz:=ab.drop .head
    cases E
    exact Ee g j O O (e5.trans (b3.trans (b7.trans (b1.trans bb)))) ⟨O,dz⟩
   refine AT (B5 (CN (.inl O) (BB O (AA O (AN (kp [121,120,119] O) (WF.nil (λy z g j=>?_)))))))
   exact⟨(B0 (ai+1)),_,_,g.sub (kp [120,119,121] O),j,ab,bb,(B1 _),E⟩
  refine By O (λy z g j=>?_)
  have d0:=ab.drop .head
  exact⟨_,_,g.sub PO,j,d0,bb,E⟩
 rintro y z ⟨j1,j2,g,j,d1,gg,E⟩
 refine A6 ?_ g j
 clear g j z y
 rw[FJ] at E
 refine AI (AM O (kp [2] O) (A5 (λy z g j=>?_)))
 cases E
 exact Ee g j O O (e5.trans (b3.trans (b7.trans (b1.trans gg)))) ⟨O,d1⟩
end Go.Proofs.YtblcgjadhemlbaaGreat
