import Derived.Test.YtblcgjadhemlbaaGreatVWalk4
namespace Go.Proofs.YtblcgjadhemlbaaGreat
set_option linter.all false
open Go.RowKit
open Go.Proofs.Tryz
set_option maxRecDepth 10000
set_option maxHeartbeats 2000000
variable {N:Nat}{S:Nat→Prop}{L:List HP}{h:BL}
def M3 (hs:St S L h) {s:Value}{d:AU}(J:Rd S h CZ s d) {r:Bool}(E:Hk N d=some r):
 C5 prog 53 #[s] S h (λv S' h'=>v= .bool r∧St S' (L) h'):=by
 refine Bv (l:=[s]) 64 func53 O ntmps53 O λB=>?_
 rw[Hk] at E
 refine WF.sl (Cm O J (λe=>by cases e) O hs λq1 S2 h3 aj e5 k6=>AF 1 (AY O (AG (AZ (kp [1] O) (AE (AI (A8 O k6 JH OU O λq7 k8=>BG BY aj.1 O k8 Sz O λv9 ak=>BC O ak P1 O λb8=>AA O (AN (kp [10,9,8,1] O) (BF (λa w=>IV B S2 h3 (64,[]) a w [(1,q1)] (L) λ_ _=>D8 N d=some r) ?_ ?_)))))))))
 ·refine BT (λn1=>λa w=>∃(y:Int),IV B S2 h3 (64,[]) a w [(9,vI (↑d.Ag.length:Int)),(8,v9),(1,q1),(10,vI y)] (L) λ_ _=>AH y∧D7 N d (D8 N d) n1 y=some r) N ?_ ?_ ?_
  ·intro t u b c
   exact⟨0,_,_,b.sub (kp [9,8,1,10] O),c,aj,(Cv.refl S2 h3),(iq (n:=0) O),E⟩
  ·rintro t u ⟨_,_,_,_,_,_,_,_,E⟩
   rw[D7] at E;cases E
  rintro n1 t u ⟨y,b9,ca,b,c,z,A,cb,E⟩
  refine A6 ?_ b c
  clear b c u t
  rw[D7] at E
  refine AI (BK O (AN (kp [11,9,8,1,10] O) (AE (AX O E (λbf E=>?_) (λbf E=>?_)))))
  ·refine AT (AE (BV (WF.sl (AF 2 ?_))))
   obtain⟨x,am,E⟩:=bd E
   refine Bz O O (ak.mono' A) P1 am O λcc bg=>Ci BY z.1 O bg Rn (λe=>by cases e) O λcd bh=>AG (Di WY O z λce cf an K=>?_)
   obtain⟨rfl,⟨cg,bi,bj,bk,bl,bm,bn⟩⟩:=HB.ex (bh.mono K)
   refine EW (vs:=[.string x.F,vI x.Ax,vI x.Bm,vI x.Bl,vI x.Bq,vI x.Bn,vI x.Bk]) O O O O Rn O an .head O λch g Y=>AZ (kp [4,9,8,1,10] O) (AE (CX (.inl O) g (AD X0 O (AS CL g O mh O A7 O (A8 O (k6.mono (A.trans (K.trans Y))) B6 Do O λci bo=>BG CL g.1 O bo Gu O λcj bp=>BC O bp Fy O λbq=>?_)))))
   obtain⟨br,ao,E⟩:=bd E
   refine BR O O O QP O (λh' o=>HA (St.all h') bi (J9 bq) ao) (CE O (AA O ?_))
   obtain⟨ap,i,E⟩:=bd E
   refine AW 5 26 (.bool ap) ?_ ?_
   ·cases aq:(!br)
    ·have i:=HG aq i
     refine AB O (AD Xz O (AB O (AS CL g O mh O A7 O (AB O ?_))))
     obtain⟨ck,ar,i⟩:=bd i
     refine BR O O O KB O (λh' o=>Cf (St.all h') bj ar) (AB O (CE O (AL O ?_)))
     cases i
     exact AV O
    have i:=HE aq i
    cases i
    exact A3 O O
   refine AA O ?_
   obtain⟨au,j,E⟩:=bd E
   refine AW 5 32 (.bool au) ?_ ?_
   ·cases av:ap
    ·have j:=HG av j
     refine AB O (AD Xy O (AB O (AS CL g O mh O A7 O (AB O ?_))))
     obtain⟨cl,aw,j⟩:=bd j
     refine BR O O O IZ O (λh' o=>CV (St.all h') bk (iq (n:=0) O) (iq (n:=24) O) aw) (AB O (CE O (AL O ?_)))
     cases j
     exact AV O
    have j:=HE av j
    cases j
    exact A3 O O
   refine AA O ?_
   obtain⟨ax,k,E⟩:=bd E
   refine AW 5 38 (.bool ax) ?_ ?_
   ·cases ay:au
    ·have k:=HG ay k
     refine AB O (AD Xx O (AB O (AS CL g O mh O A7 O (AB O ?_))))
     obtain⟨cm,az,k⟩:=bd k
     refine BR O O O IZ O (λh' o=>CV (St.all h') bl (iq (n:=0) O) (iq (n:=1073741824) O) az) (AB O (CE O (AL O ?_)))
     cases k
     exact AV O
    have k:=HE ay k
    cases k
    exact A3 O O
   refine AA O ?_
   obtain⟨a0,m,E⟩:=bd E
   refine AW 5 44 (.bool a0) ?_ ?_
   ·cases a1:ax
    ·have m:=HG a1 m
     refine AB O (AD Xw O (AB O (AS CL g O mh O A7 O (AB O ?_))))
     obtain⟨cn,a2,m⟩:=bd m
     refine BR O O O KB O (λh' o=>Cf (St.all h') bm a2) (AB O (CE O (AL O ?_)))
     cases m
     exact AV O
    have m:=HE a1 m
    cases m
    exact A3 O O
   refine AA O ?_
   obtain⟨bs,p,E⟩:=bd E
   refine AW 5 50 (.bool bs) ?_ ?_
   ·cases a3:a0
    ·have p:=HG a3 p
     refine AB O (AD Xv O (AB O (AS CL g O mh O A7 O (AB O ?_))))
     obtain⟨co,a4,p⟩:=bd p
     refine BR O O O IZ O (λh' o=>CV (St.all h') bn (iq (n:=0) O) (iq (n:=128) O) a4) (AB O (CE O (AL O ?_)))
     cases p
     exact AV O
    have p:=HE a3 p
    cases p
    exact A3 O O
   refine B3 (kp [50,9,8,1,10] O) λcp Q a5=>AX O E (λbt E=>?_) (λbt E=>?_)
   ·refine AI (AM O (kp [2] O) (A5 (λt u b c=>?_)))
    have a6:=Q.drop .head
    cases E
    exact Ee b c O O (e5.trans (A.trans (K.trans (Y.trans a5)))) ⟨O,a6⟩
   refine AT (B5 (CN (.inl O) (BB O (AA O (AN (kp [10,9,8,1] O) (WF.nil (λt u b c=>?_)))))))
   have a7:=Q.drop .head
   exact⟨(B0 (y+1)),_,_,b.sub (kp [9,8,1,10] O),c,a7,(A.trans (K.trans (Y.trans a5))),(B1 _),E⟩
  refine By O (λt u b c=>?_)
  exact⟨_,_,b.sub (kp [1] O),c,z,A,E⟩
 rintro t u ⟨Z,ab,b,c,U,ac,E⟩
 refine A6 ?_ b c
 clear b c u t
 rw[D8] at E
 refine AE (AI (A8 O (k6.mono ac) I3 Pp O λcq bu=>BG BY U.1 O bu Ut O λbv a8=>BC O a8 RC O λcr=>AA O (AN (kp [55,54,53] O) (BF (λa w=>IV B Z ab (64,[]) a w [] (L) λ_ _=>Fd N=some r) ?_ ?_))))
 ·refine BT (λn3=>λa w=>∃(C:Int),IV B Z ab (64,[]) a w [(54,vI (↑d.Av.length:Int)),(53,bv),(55,vI C)] (L) λ_ _=>AH C∧D6 N d (Fd N) n3 C=some r) N ?_ ?_ ?_
  ·intro t u b c
   exact⟨0,_,_,b.sub (kp [54,53,55] O),c,U,(Cv.refl Z ab),(iq (n:=0) O),E⟩
  ·rintro t u ⟨_,_,_,_,_,_,_,_,E⟩
   rw[D6] at E;cases E
  rintro n3 t u ⟨C,cs,ct,b,c,D,M,cu,E⟩
  refine A6 ?_ b c
  clear b c u t
  rw[D6] at E
  refine AI (BK O (AN (kp [56,54,53,55] O) (AE (AX O E (λbw E=>?_) (λbw E=>?_)))))
  ·refine AT (AE (BV (WF.sl (AF 2 ?_))))
   obtain⟨V,ad,E⟩:=bd E
   refine Bz O O (a8.mono' M) RC ad O λbx a9=>Ci BY D.1 O a9 Rm (λe=>by cases e) O λbz ba=>AG (Di WX O D λb0 b1 ae G=>?_)
   obtain⟨rfl,⟨b2,bb⟩⟩:=Dh.ex (ba.mono G)
   refine EW (vs:=[.string V.F,vI V.Au]) O O O O Rm O ae .head O λb3 H W=>AZ (kp [6,54,53,55] O) (AE (CX (.inl O) H (AD Xt O (AS CL H O mh O A7 O ?_))))
   obtain⟨b4,af,E⟩:=bd E
   refine BR O O O IZ O (λh' o=>CV (St.all h') bb (iq (n:=0) O) (iq (n:=1073741824) O) af) (CE O (B3 (kp [62,54,53,55] O) λb5 I X=>AX O E (λbc E=>?_) (λbc E=>?_)))
   ·refine AI (AM O (kp [2] O) (A5 (λt u b c=>?_)))
    have ag:=I.drop .head
    cases E
    exact Ee b c O O (e5.trans (ac.trans (M.trans (G.trans (W.trans X))))) ⟨O,ag⟩
   refine AT (B5 (CN (.inl O) (BB O (AA O (AN (kp [55,54,53] O) (WF.nil (λt u b c=>?_)))))))
   have ah:=I.drop .head
   exact⟨(B0 (C+1)),_,_,b.sub (kp [54,53,55] O),c,ah,(M.trans (G.trans (W.trans X))),(B1 _),E⟩
  refine By O (λt u b c=>?_)
  exact⟨_,_,b.sub PO,c,D,M,E⟩
 rintro t u ⟨b6,b7,b,c,ai,be,E⟩
 refine A6 ?_ b c
 clear b c u t
 rw[Fd] at E
 refine AI (AM O (kp [2] O) (A5 (λt u b c=>?_)))
 cases E
 exact Ee b c O O (e5.trans (ac.trans be)) ⟨O,ai⟩
def Mh (hs:St S L h) {g:Value}{b:AU}(J:Rd S h CZ g b) {r:Bool}(E:HJ N b=some r):
 C5 prog 54 #[g] S h (λv S' h'=>v= .bool r∧St S' (L) h'):=by
 refine Bv (l:=[g]) 47 func54 O ntmps54 O λB=>?_
 rw[HJ] at E
 refine WF.sl (Cm O J (λe=>by cases e) O hs λq1 S2 h3 X e5 k6=>AF 1 (AY O (AG (AZ (kp [1] O) (AE (AI (A8 O k6 Kr SP O λq7 k8=>BG BY X.1 O k8 Wh O λv9 Y=>BC O Y TJ O λbi=>AA O (AN (kp [9,8,7,1] O) (BF (λa w=>IV B S2 h3 (47,[]) a w [] (L) λ_ _=>FK N=some r) ?_ ?_)))))))))
 ·refine BT (λn1=>λa w=>∃(u:Int),IV B S2 h3 (47,[]) a w [(8,vI (↑b.Aq.length:Int)),(7,v9),(1,q1),(9,vI u)] (L) λ_ _=>AH u∧Dz N b (FK N) n1 u=some r) N ?_ ?_ ?_
  ·intro H I i j
   exact⟨0,_,_,i.sub (kp [8,7,1,9] O),j,X,(Cv.refl S2 h3),(iq (n:=0) O),E⟩
  ·rintro H I ⟨_,_,_,_,_,_,_,_,E⟩
   rw[Dz] at E;cases E
  rintro n1 H I ⟨u,bj,bk,i,j,x,t,bl,E⟩
  refine A6 ?_ i j
  clear i j I H
  rw[Dz] at E
  refine AI (BK O (AN (kp [10,8,7,1,9] O) (AE (AX O E (λav E=>?_) (λav E=>?_)))))
  ·refine AT (AE (BV (WF.sl (AF 2 ?_))))
   obtain⟨y,Z,E⟩:=bd E
   refine Bz O O (Y.mono' t) TJ Z O λbm aw=>Ci BY x.1 O aw Rl (λe=>by cases e) O λbn ax=>AG (Di WW O x λbo bp ab D=>?_)
   obtain⟨rfl,⟨bq,ay,az,a0,a1⟩⟩:=FL.ex (ax.mono D)
   refine EW (vs:=[.string y.F,vI y.C,vI y.W,vI y.U,vI y.Bo]) O O O O Rl O ab .head O λbr m K=>AZ (kp [4,8,7,1,9] O) (AE (AE (CX (.inl O) m (AD Tn O (AS CL m O mh O A7 O ?_)))))
   obtain⟨a2,ac,E⟩:=bd E
   refine BR O O O IZ O (λh' o=>CV (St.all h') ay (iq (n:=0) O) (iq (n:=2) O) ac) (CE O (AA O ?_))
   obtain⟨ad,c,E⟩:=bd E
   refine AW 5 22 (.bool ad) ?_ ?_
   ·cases ae:(!a2)
    ·have c:=HG ae c
     refine AB O (AD Xq O (AB O (AS CL m O mh O A7 O (AB O ?_))))
     obtain⟨bs,af,c⟩:=bd c
     refine BR O O O IZ O (λh' o=>CV (St.all h') a0 (iq (n:=0) O) (iq (n:=1099511627776) O) af) (AB O (CE O (AL O ?_)))
     cases c
     exact AV O
    have c:=HE ae c
    cases c
    exact A3 O O
   refine AA O ?_
   obtain⟨a3,d,E⟩:=bd E
   refine AW 5 28 (.bool a3) ?_ ?_
   ·cases ag:ad
    ·have d:=HG ag d
     refine AB O (AD Xp O (AB O (AS CL m O mh O A7 O (AB O ?_))))
     obtain⟨bt,ah,d⟩:=bd d
     refine BR O O O IZ O (λh' o=>CV (St.all h') a1 (iq (n:=0) O) (iq (n:=1440) O) ah) (AB O (CE O (AL O ?_)))
     cases d
     exact AV O
    have d:=HE ag d
    cases d
    exact A3 O O
   refine B3 (kp [28,4,8,7,1,9] O) λbu k M=>AX O E (λa4 E=>?_) (λa4 E=>?_)
   ·refine AI (AM O (kp [2] O) (A5 (λH I i j=>?_)))
    have ai:=k.drop .head
    cases E
    exact Ee i j O O (e5.trans (t.trans (D.trans (K.trans M)))) ⟨O,ai⟩
   refine AT (WF.sl (AF 9 ?_))
   have V:=k6.mono (t.trans (D.trans (K.trans M)))
   refine A8 O V B6 Do O λbv a5=>BG BY k.1 O a5 Gu O λbw a6=>BC O a6 Fy O λa7=>A8 O V LR SQ O λbx a8=>A9 BY k.1 O a8 A7 O λa9=>A8 O V Fo H1 O λbz ba=>BG BY k.1 O ba KY O λb0 bb=>BC O bb Io O λbc=>Zk (cs:=[vI (↑b.A.length:Int),vI b.R,vI (↑b.E.length:Int)]) dG O O O (AG (Di bC O k λb1 b2 aj ak=>EW (vs:=[vI (↑b.A.length:Int),vI b.R,vI (↑b.E.length:Int)]) O O O O bL O aj .head O λb3 s am=>AZ (kp [5,4,8,7,1,9] O) (AE (CX (.inr ⟨mo,by kernel_rfl⟩) s (AD Xr O (AS CL s O (mt mh) O A7 O (AD Tn O (AS CL s O (mt mh) O A7 O ?_))))))))
   obtain⟨be,G,E⟩:=bd E
   have an:=gL G
   refine dT O O dE an.1 an.2 O (Zh (l:=([(↑b.A.length:Int),b.R,(↑b.E.length:Int)]:List Int)) (Value.int .i64) CL s O mh O G A7 O ?_)
   have bf:AH be:=gK (p:=λz=>AH z) (all_cons (J9 a7) (all_cons a9 (all_cons (J9 bc) ZT))) G
   obtain⟨b4,ao,E⟩:=bd E
   refine BR O O O QP O (λh' o=>HA (St.all h') az bf ao) (CE O (B3 (kp [45,8,7,1,9] O) λb5 Q ap=>AX O E (λbg E=>?_) (λbg E=>?_)))
   ·refine AI (AM O (kp [2] O) (A5 (λH I i j=>?_)))
    have aq:=Q.sel [] 2 O
    cases E
    exact Ee i j O O (e5.trans (t.trans (D.trans (K.trans (M.trans (ak.trans (am.trans ap))))))) ⟨O,aq⟩
   refine AT (B5 (CN (.inl O) (BB O (AA O (AN (kp [9,8,7,1] O) (WF.nil (λH I i j=>?_)))))))
   have ar:=Q.sel [] 2 O
   exact⟨(B0 (u+1)),_,_,i.sub (kp [8,7,1,9] O),j,ar,(t.trans (D.trans (K.trans (M.trans (ak.trans (am.trans ap)))))),(B1 _),E⟩
  refine By O (λH I i j=>?_)
  exact⟨_,_,i.sub PO,j,x,t,E⟩
 rintro H I ⟨b6,b7,i,j,au,bh,E⟩
 refine A6 ?_ i j
 clear i j I H
 rw[FK] at E
 refine AI (AM O (kp [2] O) (A5 (λH I i j=>?_)))
 cases E
 exact Ee i j O O (e5.trans bh) ⟨O,au⟩
def M4 (hs:St S L h) {s:Value}{x:AU}(J:Rd S h CZ s x) {r:Bool}(E:Hl N x=some r):
 C5 prog 55 #[s] S h (λv S' h'=>v= .bool r∧St S' (L) h'):=by
 refine Bv (l:=[s]) 80 func55 O ntmps55 O λB=>?_
 rw[Hl] at E
 refine WF.sl (Cm O J (λe=>by cases e) O hs λq1 S2 h3 ab e5 k6=>AF 1 (AY O (AG (AZ (kp [1] O) (AE (AI (A8 O k6 LQ SO O λq7 k8=>BG BY ab.1 O k8 Wg O λv9 ac=>BC O ac TI O λbq=>AA O (AN (kp [8,7,6,1] O) (BF (λa w=>IV B S2 h3 (80,[]) a w [] (L) λ_ _=>Fe N=some r) ?_ ?_)))))))))
 ·refine BT (λn1=>λa w=>∃(z:Int),IV B S2 h3 (80,[]) a w [(7,vI (↑x.At.length:Int)),(6,v9),(1,q1),(8,vI z)] (L) λ_ _=>AH z∧D9 N x (Fe N) n1 z=some r) N ?_ ?_ ?_
  ·intro G H t u
   exact⟨0,_,_,t.sub (kp [7,6,1,8] O),u,ab,(Cv.refl S2 h3),(iq (n:=0) O),E⟩
  ·rintro G H ⟨_,_,_,_,_,_,_,_,E⟩
   rw[D9] at E;cases E
  rintro n1 G H ⟨z,br,bs,t,u,A,y,bt,E⟩
  refine A6 ?_ t u
  clear t u H G
  rw[D9] at E
  refine AI (BK O (AN (kp [9,7,6,1,8] O) (AE (AX O E (λaz E=>?_) (λaz E=>?_)))))
  ·refine AT (AE (BV (WF.sl (AF 2 ?_))))
   obtain⟨b,ad,E⟩:=bd E
   refine Bz O O (ac.mono' y) TI ad O λbu a0=>Ci BY A.1 O a0 Rk (λe=>by cases e) O λbv a1=>AG (Di WV O A λbw bx ae C=>?_)
   obtain⟨rfl,⟨bz,a2,a3,a4,a5,a6,a7⟩⟩:=G2.ex (a1.mono C)
   refine EW (vs:=[.string b.F,vI b.I,vI b.D,vI b.Br,vI b.Bs,vI b.Bh,vI b.Bj]) O O O O Rk O ae .head O λb0 c K=>AZ (kp [4,7,6,1,8] O) (AE (AE (CX (.inl O) c (AD Tm O (AS CL c O mh O A7 O ?_)))))
   have M:=k6.mono (y.trans (C.trans K))
   refine A8 O M JH OU O λb1 a8=>BG CL c.1 O a8 Sz O λb2 a9=>BC O a9 P1 O λba=>?_
   obtain⟨bb,af,E⟩:=bd E
   refine BR O O O QP O (λh' o=>HA (St.all h') a2 (J9 ba) af) (CE O (AA O ?_))
   obtain⟨Q,d,E⟩:=bd E
   refine AW 12 31 (.bool Q) ?_ ?_
   ·cases ag:(!bb)
    ·have d:=HG ag d
     refine AB O (AD Tl O (AB O (AS CL c O mh O A7 O (AB O (A8 O M JH OU O λb3 bc=>AB O (BG CL c.1 O bc Sz O λb4 be=>AB O (BC O be P1 O λb5=>AB O (A8 O M I3 Pp O λb6 bf=>AB O (BG CL c.1 O bf Ut O λb7 bg=>AB O (BC O bg RC O λb8=>AB O (BB O (AB O ?_))))))))))))
     obtain⟨b9,ah,d⟩:=bd d
     refine BR O O O QP O (λh' o=>HA (St.all h') a3 (B1 _) ah) (AB O (CE O (AL O ?_)))
     cases d
     exact AV O
    have d:=HE ag d
    cases d
    exact A3 O O
   refine AA O (AW 6 38 (.bool (Q||(decide (b.I=b.D)))) ?_ ?_)
   ·cases ca:Q
    ·exact AB O (AD Tm O (AB O (AS CL c O mh O A7 O (AB O (AD Tl O (AB O (AS CL c O mh O A7 O (AB O (B9 O (AL O (AV O)))))))))))
    exact A3 O O
   refine AA O ?_
   obtain⟨ai,g,E⟩:=bd E
   refine AW 5 44 (.bool ai) ?_ ?_
   ·cases aj:(Q||(decide (b.I=b.D)))
    ·have g:=HG aj g
     refine AB O (AD Xn O (AB O (AS CL c O mh O A7 O (AB O ?_))))
     obtain⟨cb,ak,g⟩:=bd g
     refine BR O O O IZ O (λh' o=>CV (St.all h') a4 (iq (n:=1) O) (iq (n:=24) O) ak) (AB O (CE O (AL O ?_)))
     cases g
     exact AV O
    have g:=HE aj g
    cases g
    exact A3 O O
   refine AA O ?_
   obtain⟨am,i,E⟩:=bd E
   refine AW 5 50 (.bool am) ?_ ?_
   ·cases an:ai
    ·have i:=HG an i
     refine AB O (AD Xm O (AB O (AS CL c O mh O A7 O (AB O ?_))))
     obtain⟨cc,ao,i⟩:=bd i
     refine BR O O O IZ O (λh' o=>CV (St.all h') a5 (iq (n:=0) O) (iq (n:=1073741824) O) ao) (AB O (CE O (AL O ?_)))
     cases i
     exact AV O
    have i:=HE an i
    cases i
    exact A3 O O
   refine AA O ?_
   obtain⟨bh,j,E⟩:=bd E
   refine AW 5 56 (.bool bh) ?_ ?_
   ·cases ap:am
    ·have j:=HG ap j
     refine AB O (AD Tk O (AB O (AS CL c O mh O A7 O (AB O ?_))))
     obtain⟨cd,aq,j⟩:=bd j
     refine BR O O O KB O (λh' o=>Cf (St.all h') a7 aq) (AB O (CE O (AL O ?_)))
     cases j
     exact AV O
    have j:=HE ap j
    cases j
    exact A3 O O
   refine B3 (kp [56,4,7,6,1,8] O) λce p U=>AX O E (λbi E=>?_) (λbi E=>?_)
   ·refine AI (AM O (kp [2] O) (A5 (λG H t u=>?_)))
    have ar:=p.drop .head
    cases E
    exact Ee t u O O (e5.trans (y.trans (C.trans (K.trans U)))) ⟨O,ar⟩
   refine AT (AE (CX (.inl O) p (AD QL O (AS CL p O mh O A7 O (B9 O (AA O (AW 4 64 (.bool ((decide (b.Bh=(-1)))&&(decide (b.Bj≠0)))) ?_ ?_)))))))
   ·cases cf:(decide (b.Bh=(-1)))
    ·exact A3 O O
    exact AB O (AD Tk O (AB O (AS CL p O mh O A7 O (AB O (CW O (AL O (AV O)))))))
   refine AA O ?_
   obtain⟨bj,k,E⟩:=bd E
   refine AW 13 78 (.bool bj) ?_ ?_
   ·cases au:((decide (b.Bh=(-1)))&&(decide (b.Bj≠0)))
    ·have k:=HG au k
     refine AB O (AD QL O (AB O (AS CL p O mh O A7 O (AB O (CW O (AB O (AA O ?_)))))))
     obtain⟨bk,m,k⟩:=bd k
     refine AW 8 77 (.bool bk) ?_ ?_
     ·cases av:(decide (b.Bh≠(-1)))
      ·have m:=HG av m
       cases m
       exact A3 O O
      have m:=HE av m
      refine AB O (AD QL O (AB O (AS CL p O mh O A7 O (AB O (A8 O (M.mono U) B6 Do O λcg bl=>AB O (BG CL p.1 O bl Gu O λch bm=>AB O (BC O bm Fy O λbn=>AB O ?_)))))))
      obtain⟨ci,aw,m⟩:=bd m
      refine BR O O O QP O (λh' o=>HA (St.all h') a6 (J9 bn) aw) (AB O (CE O (AB O (AL O ?_))))
      cases m
      exact AV O
     refine AL O ?_
     cases k
     exact AV O
    have k:=HE au k
    cases k
    exact A3 O O
   refine B3 (kp [78,7,6,1,8] O) λcj V W=>AX O E (λax E=>?_) (λax E=>?_)
   ·refine AI (AM O (kp [2] O) (A5 (λG H t u=>?_)))
    have X:=V.drop .head
    cases E
    exact Ee t u O O (e5.trans (y.trans (C.trans (K.trans (U.trans W))))) ⟨O,X⟩
   refine AT (B5 (CN (.inl O) (BB O (AA O (AN (kp [8,7,6,1] O) (WF.nil (λG H t u=>?_)))))))
   have Y:=V.drop .head
   exact⟨(B0 (z+1)),_,_,t.sub (kp [7,6,1,8] O),u,Y,(y.trans (C.trans (K.trans (U.trans W)))),(B1 _),E⟩
  refine By O (λG H t u=>?_)
  exact⟨_,_,t.sub PO,u,A,y,E⟩
 rintro G H ⟨bo,bp,t,u,Z,ay,E⟩
 refine A6 ?_ t u
 clear t u H G
 rw[Fe] at E
 refine AI (AM O (kp [2] O) (A5 (λG H t u=>?_)))
 cases E
 exact Ee t u O O (e5.trans ay) ⟨O,Z⟩
def MU (hs:St S L h) {n:Value}{t:AU}(p:Rd S h CZ n t) {r:Bool}(E:HY N t=some r):
 C5 prog 27 #[n] S h (λv S' h'=>v= .bool r∧St S' (L) h'):=by
 refine Bv (l:=[n]) 37 func27 O ntmps27 O λB=>?_
 rw[HY] at E
 refine WF.sl (Cm O p (λe=>by cases e) O hs λq1 S2 h3 a e5 s=>AF 1 (AY O (AG (AZ (kp [1] O) (AE (CX (.inl O) a (Ci CL a.1 O s HS (λe=>by cases e) O λv7 k8=>?_)))))))
 obtain⟨y9,ad,E⟩:=bd E
 refine BR O O O jB O (λh' o=>Nd (St.all h') (k8.mono (o.all a.1)) ad) (AA O ?_)
 obtain⟨u,b,E⟩:=bd E
 refine AW 3 8 (.bool u) ?_ ?_
 ·cases w:y9
  ·have b:=HG w b
   cases b
   exact A3 O O
  have b:=HE w b
  refine AB O (Ci CL a.1 O s HS (λe=>by cases e) O λao ae=>AB O ?_)
  obtain⟨ap,x,b⟩:=bd b
  refine BR O O O jA O (λh' o=>M5 (St.all h') (ae.mono (o.all a.1)) x) (AL O ?_)
  cases b
  exact AV O
 refine AA O ?_
 obtain⟨y,c,E⟩:=bd E
 refine AW 3 12 (.bool y) ?_ ?_
 ·cases z:u
  ·have c:=HG z c
   cases c
   exact A3 O O
  have c:=HE z c
  refine AB O (Ci CL a.1 O s HS (λe=>by cases e) O λaq af=>AB O ?_)
  obtain⟨ar,A,c⟩:=bd c
  refine BR O O O iZ O (λh' o=>Mg (St.all h') (af.mono (o.all a.1)) A) (AL O ?_)
  cases c
  exact AV O
 refine AA O ?_
 obtain⟨C,d,E⟩:=bd E
 refine AW 3 16 (.bool C) ?_ ?_
 ·cases D:y
  ·have d:=HG D d
   cases d
   exact A3 O O
  have d:=HE D d
  refine AB O (Ci CL a.1 O s HS (λe=>by cases e) O λau ag=>AB O ?_)
  obtain⟨av,F,d⟩:=bd d
  refine BR O O O iY O (λh' o=>M6 (St.all h') (ag.mono (o.all a.1)) F) (AL O ?_)
  cases d
  exact AV O
 refine AA O ?_
 obtain⟨G,g,E⟩:=bd E
 refine AW 3 20 (.bool G) ?_ ?_
 ·cases H:C
  ·have g:=HG H g
   cases g
   exact A3 O O
  have g:=HE H g
  refine AB O (Ci CL a.1 O s HS (λe=>by cases e) O λaw ah=>AB O ?_)
  obtain⟨ax,I,g⟩:=bd g
  refine BR O O O iX O (λh' o=>MK (St.all h') (ah.mono (o.all a.1)) I) (AL O ?_)
  cases g
  exact AV O
 refine AA O ?_
 obtain⟨J,i,E⟩:=bd E
 refine AW 3 24 (.bool J) ?_ ?_
 ·cases K:G
  ·have i:=HG K i
   cases i
   exact A3 O O
  have i:=HE K i
  refine AB O (Ci CL a.1 O s HS (λe=>by cases e) O λay ai=>AB O ?_)
  obtain⟨az,M,i⟩:=bd i
  refine BR O O O iW O (λh' o=>Mf (St.all h') (ai.mono (o.all a.1)) M) (AL O ?_)
  cases i
  exact AV O
 refine AA O ?_
 obtain⟨Q,j,E⟩:=bd E
 refine AW 3 28 (.bool Q) ?_ ?_
 ·cases U:J
  ·have j:=HG U j
   cases j
   exact A3 O O
  have j:=HE U j
  refine AB O (Ci CL a.1 O s HS (λe=>by cases e) O λa0 aj=>AB O ?_)
  obtain⟨a1,V,j⟩:=bd j
  refine BR O O O iV O (λh' o=>M3 (St.all h') (aj.mono (o.all a.1)) V) (AL O ?_)
  cases j
  exact AV O
 refine AA O ?_
 obtain⟨W,k,E⟩:=bd E
 refine AW 3 32 (.bool W) ?_ ?_
 ·cases X:Q
  ·have k:=HG X k
   cases k
   exact A3 O O
  have k:=HE X k
  refine AB O (Ci CL a.1 O s HS (λe=>by cases e) O λa2 ak=>AB O ?_)
  obtain⟨a3,Y,k⟩:=bd k
  refine BR O O O iU O (λh' o=>Mh (St.all h') (ak.mono (o.all a.1)) Y) (AL O ?_)
  cases k
  exact AV O
 refine AA O ?_
 obtain⟨al,m,E⟩:=bd E
 refine AW 3 36 (.bool al) ?_ ?_
 ·cases Z:W
  ·have m:=HG Z m
   cases m
   exact A3 O O
  have m:=HE Z m
  refine AB O (Ci CL a.1 O s HS (λe=>by cases e) O λa4 am=>AB O ?_)
  obtain⟨a5,ab,m⟩:=bd m
  refine BR O O O iT O (λh' o=>M4 (St.all h') (am.mono (o.all a.1)) ab) (AL O ?_)
  cases m
  exact AV O
 refine AY O (B3 (kp [2] O) λa6 ac an=>A5 (λaa ww hf hw=>?_))
 cases E
 exact Ee hf hw O O (e5.trans an) ⟨O,ac⟩
def Mv (D:St S L h) {b:Value}{g:(List Int)}(i:Sl S h AJ b g) {r:Bool}(E:Gs N g=some r):
 C5 prog 91 #[b] S h (λv S' h'=>v= .bool r∧St S' (L) h'):=by
 refine Bv (l:=[b]) 24 func91 O ntmps91 O λB=>?_
 rw[Gs] at E
 refine AI (AM O (kp [0] O) (AI (AM O (kp [3,0] O) (AE (AI (AA O (BC O i CA O λQ=>AA O (AN (kp [8,7,6,3] O) (BF (λa w=>IV B S h (24,[]) a w [] (L) λ_ _=>E4 N=some r) ?_ ?_)))))))))
 ·refine BT (λC=>λa w=>∃(q:Int) (s:Int),IV B S h (24,[]) a w [(7,vI (↑g.length:Int)),(6,b),(3,vI q),(8,vI s)] (L) λ_ _=>AH q∧AH s∧DT N g (E4 N) C q s=some r) N ?_ ?_ ?_
  ·intro k m c d
   exact⟨0,0,_,_,c.sub (kp [7,6,3,8] O),d,D,(Cv.refl S h),(iq (n:=0) O),(iq (n:=0) O),E⟩
  ·rintro k m ⟨_,_,_,_,_,_,_,_,_,_,E⟩
   rw[DT] at E;cases E
  rintro C k m ⟨q,s,F,G,c,d,j,o,U,V,E⟩
  refine A6 ?_ c d
  clear c d m k
  rw[DT] at E
  refine AI (BK O (AN (kp [9,7,6,3,8] O) (AE (AX O E (λx E=>?_) (λx E=>?_)))))
  ·refine AT (AE (BV (AI ?_)))
   obtain⟨p,t,E⟩:=bd E
   refine Bz O O (i.mono' o) CA t O λH y=>A9 BY j.1 O y A7 O λI=>AM O (kp [5,7,6,3,8] O) (AE (AI (AA O (BK O (AA O (AW 5 19 (.bool ((decide (p<0))||(decide ((B0 (1125899906842624-q))<p)))) ?_ ?_))))))
   ·cases J:(decide (p<0))
    ·exact AB O (AA O (AB O (AA O (AB O (Dk O (AB O (CP O (AL O (AV O)))))))))
    exact A3 O O
   refine AN (kp [19,5,7,6,3,8] O) (AX O E (λz E=>?_) (λz E=>?_))
   ·refine AI (AM O (kp [2] O) (A5 (λk m c d=>?_)))
    cases E
    exact Ee c d O O o ⟨O,j⟩
   refine AT (CN (.inl O) (AA O (AA O (BB O (AM O (kp [3,7,6,8] O) (B5 (CN (.inl O) (BB O (AA O (AN (kp [8,3,7,6] O) (WF.nil (λk m c d=>?_))))))))))))
   exact⟨(B0 (q+p)),(B0 (s+1)),_,_,c.sub (kp [7,6,3,8] O),d,j,o,(B1 _),(B1 _),E⟩
  refine By O (λk m c d=>?_)
  exact⟨_,_,c.sub PO,d,j,o,E⟩
 rintro k m ⟨K,M,c,d,u,A,E⟩
 refine A6 ?_ c d
 clear c d m k
 rw[E4] at E
 refine AI (AM O (kp [2] O) (A5 (λk m c d=>?_)))
 cases E
 exact Ee c d O O A ⟨O,u⟩
def Mw (n:St S L h) {b:Value}{d:(List Int)}(g:Sl S h AJ b d) {a:Int}(i:AH a) {r:Bool}(E:H5 N d a=some r):
 C5 prog 67 #[b,vI a] S h (λv S' h'=>v= .bool r∧St S' (L) h'):=by
 refine Bv (l:=[b,vI a]) 21 func67 O ntmps67 O λB=>?_
 rw[H5] at E
 refine AI (AM O (kp [0,1] O) (AE (CX (.inl O) n (AA O (HQ O (AA O (AW 3 10 (.bool ((decide (0≤a))&&(decide (a≤16)))) ?_ ?_)))))))
 ·cases u:(decide (0≤a))
  ·exact A3 O O
  exact AB O (AA O (AB O (HO O (AL O (AV O)))))
 refine AA O (AW 5 16 (.bool (((decide (0≤a))&&(decide (a≤16)))&&(decide ((↑d.length:Int)=a)))) ?_ ?_)
 ·cases w:((decide (0≤a))&&(decide (a≤16)))
  ·exact A3 O O
  exact AB O (AA O (AB O (BC O g CA O λx=>AB O (AA O (AB O (B9 O (AL O (AV O))))))))
 refine AA O ?_
 obtain⟨q,c,E⟩:=bd E
 refine AW 3 20 (.bool q) ?_ ?_
 ·cases p:(((decide (0≤a))&&(decide (a≤16)))&&(decide ((↑d.length:Int)=a)))
  ·have c:=HG p c
   cases c
   exact A3 O O
  have c:=HE p c
  refine AB O (AA O (AB O ?_))
  obtain⟨y,j,c⟩:=bd c
  refine BR O O O aM O (λh' o=>Mv (St.all h') (g.mono' (o.all n.1)) j) (AL O ?_)
  cases c
  exact AV O
 refine AY O (B3 (kp [4] O) λz k m=>A5 (λA C s t=>?_))
 cases E
 exact Ee s t O O m ⟨O,k⟩
def Iy (j:St S L h) {b:Int}(g:AH b) {a:Int}(i:AH a) {r:Int}(E:Gc N b a=some r):
 C5 prog 36 #[vI b,vI a] S h (λv S' h'=>v=vI r∧AH r∧St S' (L) h'):=by
 refine Bv (l:=[vI b,vI a]) 24 func36 O ntmps36 O λB=>?_
 rw[Gc] at E
 refine AI (AM O (kp [0,1] O) (AE (AI (AA O (CP O (AA O (AW 5 12 (.bool ((decide (0<a))&&(decide ((B0 (9223372036854775807-a))<b)))) ?_ ?_)))))))
 ·cases q:(decide (0<a))
  ·exact A3 O O
  exact AB O (AA O (AB O (AA O (AB O (Dk O (AB O (CP O (AL O (AV O)))))))))
 refine AN (kp [12,0,1] O) (AX O E (λo E=>?_) (λo E=>?_))
 ·refine AI (AM O (kp [4] O) (A5 (λk m c d=>?_)))
  cases E
  exact Ee c d O O (Cv.refl S h) ⟨O,(iq (n:=9223372036854775807) O),j⟩
 refine AT (AE (AI (AA O (BK O (AA O (AW 5 20 (.bool ((decide (a<0))&&(decide (b<(B0 ((-9223372036854775808)-a)))))) ?_ ?_))))))
 ·cases s:(decide (a<0))
  ·exact A3 O O
  exact AB O (AA O (AB O (AA O (AB O (Dk O (AB O (BK O (AL O (AV O)))))))))
 refine AN (kp [20,0,1] O) (AX O E (λp E=>?_) (λp E=>?_))
 ·refine AI (AM O (kp [4] O) (A5 (λk m c d=>?_)))
  cases E
  exact Ee c d O O (Cv.refl S h) ⟨O,(iq (n:=(-9223372036854775808)) O),j⟩
 refine AT (AI (AA O (AA O (BB O (AM O (kp [4] O) (A5 (λk m c d=>?_)))))))
 cases E
 exact Ee c d O O (Cv.refl S h) ⟨O,(B1 _),j⟩
def Fg (Q:St S L h) {b:Value}{c:(List Int)}(d:Sl S h AJ b c) {r:Int}(E:ER N c=some r):
 C5 prog 59 #[b] S h (λv S' h'=>v=vI r∧AH r∧St S' (L) h'):=by
 refine Bv (l:=[b]) 17 func59 O ntmps59 O λB=>?_
 rw[ER] at E
 refine AI (AM O (kp [0] O) (AI (AM O (kp [3,0] O) (AE (AI (AA O (BC O d CA O λb1=>AA O (AN (kp [8,7,6,3] O) (BF (λa w=>∃(z:Int),IV B S h (17,[]) a w [(3,vI z)] (L) λ_ _=>AH z∧Hv N z=some r) ?_ ?_)))))))))
 ·refine BT (λK=>λa w=>∃(s:Int) (j:Int),IV B S h (17,[]) a w [(7,vI (↑c.length:Int)),(6,b),(3,vI s),(8,vI j)] (L) λ_ _=>AH s∧AH j∧GZ N c (Hv N) K s j=some r) N ?_ ?_ ?_
  ·intro m p g i
   exact⟨0,0,_,_,g.sub (kp [7,6,3,8] O),i,Q,(Cv.refl S h),(iq (n:=0) O),(iq (n:=0) O),E⟩
  ·rintro m p ⟨_,_,_,_,_,_,_,_,_,_,E⟩
   rw[GZ] at E;cases E
  rintro K m p ⟨s,j,U,V,g,i,k,q,M,W,E⟩
  refine A6 ?_ g i
  clear g i p m
  rw[GZ] at E
  refine AI (BK O (AN (kp [9,7,6,3,8] O) (AE (AX O E (λA E=>?_) (λA E=>?_)))))
  ·refine AT (AE (BV (AI ?_)))
   obtain⟨X,t,E⟩:=bd E
   refine Bz O O (d.mono' q) CA t O λY C=>A9 BY k.1 O C A7 O λD=>AM O (kp [5,7,6,3,8] O) (CX (.inl O) k (AA O (AA O ?_)))
   obtain⟨F,u,E⟩:=bd E
   refine DF O O O Rb O (λh' o=>Iy (St.all h') M D u) λG=>?_
   have H:=G
   refine AY O (B3 (kp [3,7,6,8] O) λZ x I=>B5 (CN (.inl O) (BB O (AA O (AN (kp [8,3,7,6] O) (WF.nil (λm p g i=>?_)))))))
   exact⟨F,(B0 (j+1)),_,_,g.sub (kp [7,6,3,8] O),i,x,(q.trans I),H,(B1 _),E⟩
  refine By O (λm p g i=>?_)
  exact⟨s,_,_,g.sub (kp [3] O),i,k,q,M,E⟩
 rintro m p ⟨z,ab,ac,g,i,y,J,r3,E⟩
 refine A6 ?_ g i
 clear g i p m
 rw[Hv] at E
 refine AI (AA O (AM O (kp [2] O) (A5 (λm p g i=>?_))))
 cases E
 exact Ee g i O O J ⟨O,r3,y⟩
def Gv (g:St S L h) {b:Int}(d:AH b) {a:Int}(c:AH a) {r:Bool}(E:GQ N b a=some r):
 C5 prog 57 #[vI b,vI a] S h (λv S' h'=>v= .bool r∧St S' (L) h'):=by
 refine Bv (l:=[vI b,vI a]) 12 func57 O ntmps57 O λB=>?_
 rw[GQ] at E
 refine AI (AM O (kp [0,1] O) (AI (AA O (HQ O (AA O (AW 4 11 (.bool ((decide (0≤b))&&(decide (b<a)))) ?_ ?_))))))
 ·cases k:(decide (0≤b))
  ·exact A3 O O
  exact AB O (AA O (AB O (AA O (AB O (BK O (AL O (AV O)))))))
 refine AM O (kp [4] O) (A5 (λm n i j=>?_))
 cases E
 exact Ee i j O O (Cv.refl S h) ⟨O,g⟩
def PJ (hs:St S L h) {t:Value}{m:AU}(ad:Rd S h CZ t m) {u:Value}{j:BD}(ae:Rd S h C3 u j) {r:Int×Bool}(E:ID N m j=some r):
 C5 prog 37 #[t,u] S h (λv S' h'=>v= .tuple #[vI r.1,.bool r.2]∧AH r.1∧St S' (L) h'):=by
 refine Bv (l:=[t,u]) 76 func37 O ntmps37 O λB=>?_
 rw[ID] at E
 refine WF.sl (Cm O ad (λe=>by cases e) O hs λq1 S2 h3 br e5 k6=>Cm O (ae.mono e5) (λe=>by cases e) O br λq8 S9 aq ah y a2=>AF 2 (AY O (AY O (AG (AZ (kp [3,2] O) (AI (AM O (kp [6,3,2] O) (AE (AI (A8 O a2 J5 Eo O λct bs=>BG BY ah.1 O bs Hz O λbt a3=>BC O a3 Fx O λcu=>AA O (AN (kp [15,14,13,6,3,2] O) (BF (λa w=>∃(U:Int),IV B S9 aq (76,[]) a w [(3,q8),(2,q1),(6,vI U)] (L) λ_ _=>AH U∧DD N m j U=some r) ?_ ?_))))))))))))
 ·refine BT (λn1=>λa w=>∃(K:Int) (V:Int),IV B S9 aq (76,[]) a w [(14,vI (↑j.G.length:Int)),(13,bt),(3,q8),(2,q1),(6,vI K),(15,vI V)] (L) λ_ _=>AH K∧AH V∧DP N m j (DD N m j) n1 K V=some r) N ?_ ?_ ?_
  ·intro p s b i
   exact⟨0,0,_,_,b.sub (kp [14,13,3,2,6,15] O),i,ah,(Cv.refl S9 aq),(iq (n:=0) O),(iq (n:=0) O),E⟩
  ·rintro p s ⟨_,_,_,_,_,_,_,_,_,_,E⟩
   rw[DP] at E;cases E
  rintro n1 p s ⟨K,V,cv,cw,b,i,z,M,bu,cx,E⟩
  refine A6 ?_ b i
  clear b i s p
  rw[DP] at E
  refine AI (BK O (AN (kp [16,14,13,3,2,6,15] O) (AE (AX O E (λbv E=>?_) (λbv E=>?_)))))
  ·refine AT (AE (BV (AI ?_)))
   obtain⟨cy,a4,E⟩:=bd E
   refine Bz O O (a3.mono' M) Fx a4 O λcz bw=>BG BY z.1 O bw CG O λc0 a5=>AM O (kp [8,14,13,3,2,6,15] O) (AE (AE (CX (.inl O) z (AA O (A8 O (k6.mono (y.trans M)) E6 If O λc1 bx=>BG CL z.1 O bx LA O λc2 bz=>BC O bz Kt O λb0=>?_)))))
   obtain⟨c3,a6,E⟩:=bd E
   refine BR O O O aR O (λh' o=>Mw (St.all h') (a5.mono' (o.all z.1)) (J9 b0) a6) (CE O (B3 (kp [24,8,14,13,3,2,6,15] O) λc4 W af=>AX O E (λb1 E=>?_) (λb1 E=>?_)))
   ·refine AI (AY O (AM O (kp [5,4] O) (A5 (λp s b i=>?_))))
    cases E
    exact Kn b O i (Ix (JP b (v:=_) O) (Ix (JP b (v:=_) O) Km)) O (e5.trans (y.trans (M.trans af))) ⟨O,(iq (n:=0) O),W⟩
   refine AT (AE (CX (.inl O) W (AA O (AA O ?_))))
   obtain⟨b2,a7,E⟩:=bd E
   refine DF O O O Nj O (λh' o=>Fg (St.all h') ((a5.mono' af).mono' (o.all W.1)) a7) λb3=>?_
   have c5:=b3
   refine BB O (AY O (B3 (kp [6,14,13,3,2,15] O) λc6 ai a8=>AI (AA O (CP O (AN (kp [30,6,14,13,3,2,15] O) (AX O E (λb4 E=>?_) (λb4 E=>?_)))))))
   ·refine AI (AY O (AM O (kp [5,4] O) (A5 (λp s b i=>?_))))
    cases E
    exact Kn b O i (Ix (JP b (v:=_) O) (Ix (JP b (v:=_) O) Km)) O (e5.trans (y.trans (M.trans (af.trans a8)))) ⟨O,(iq (n:=0) O),ai⟩
   refine AT (B5 (CN (.inl O) (BB O (AA O (AN (kp [15,6,14,13,3,2] O) (WF.nil (λp s b i=>?_)))))))
   exact⟨(B0 (K+b2)),(B0 (V+1)),_,_,b.sub (kp [14,13,3,2,6,15] O),i,ai,(M.trans (af.trans a8)),(B1 _),(B1 _),E⟩
  refine By O (λp s b i=>?_)
  exact⟨K,_,_,b.sub (kp [3,2,6] O),i,z,M,bu,E⟩
 rintro p s ⟨U,ar,au,b,i,aj,Q,b5,E⟩
 refine A6 ?_ b i
 clear b i s p
 rw[DD] at E
 refine AE (AI ?_)
 have a9:=a2.mono Q
 refine A8 O a9 JG KO O λc7 b6=>BG BY aj.1 O b6 Lp O λb7 ba=>BC O ba KA O λc8=>AA O (AN (kp [35,34,33,3,2,6] O) (BF (λa w=>∃(ag:Int),IV B ar au (76,[]) a w [(6,vI ag)] (L) λ_ _=>AH ag∧F5 N ag=some r) ?_ ?_))
 ·refine BT (λn3=>λa w=>∃(C:Int) (X:Int),IV B ar au (76,[]) a w [(34,vI (↑j.J.length:Int)),(33,b7),(3,q8),(2,q1),(6,vI C),(35,vI X)] (L) λ_ _=>AH C∧AH X∧EF N m j (F5 N) n3 C X=some r) N ?_ ?_ ?_
  ·intro p s b i
   exact⟨U,0,_,_,b.sub (kp [34,33,3,2,6,35] O),i,aj,(Cv.refl ar au),b5,(iq (n:=0) O),E⟩
  ·rintro p s ⟨_,_,_,_,_,_,_,_,_,_,E⟩
   rw[EF] at E;cases E
  rintro n3 p s ⟨C,X,c9,da,b,i,Y,A,b8,db,E⟩
  refine A6 ?_ b i
  clear b i s p
  rw[EF] at E
  refine AI (BK O (AN (kp [36,34,33,3,2,6,35] O) (AE (AX O E (λb9 E=>?_) (λb9 E=>?_)))))
  ·refine AT (AE (BV (WF.sl (AF 2 ?_))))
   obtain⟨Z,bb,E⟩:=bd E
   refine Bz O O (ba.mono' A) KA bb O λdc ca=>Ci BY Y.1 O ca LU (λe=>by cases e) O λdd cb=>AG (Di Q4 O Y λde df bc F=>?_)
   obtain⟨ak,rfl,cd,be,ab⟩:=BI.ex (cb.mono F)
   refine IA (vs:=[vI Z.Ad,vI Z.D,ak]) (cs':=[vI Z.Ad,vI Z.D,ak]) O O O (AC O (AC O (AC ab.one FA))) LU O bc .head O O λce c k=>AZ (kp [10,34,33,3,2,6,35] O) (AE (AE (CX (.inl O) c (AD OT O (AS CL c O mh O A7 O (A8 O (a9.mono (A.trans (F.trans k))) BD.f_Hour H0 O λcf bf=>A9 CL c.1 O bf A7 O λcg=>BK O (AA O ?_)))))))
   obtain⟨am,d,E⟩:=bd E
   refine AW 8 52 (.bool am) ?_ ?_
   ·cases an:(decide (Z.Ad<j.B))
    ·have d:=HG an d
     refine AB O (AD La O (AB O (AS CL c O mh O A7 O (AB O (A8 O (k6.mono (y.trans (Q.trans (A.trans (F.trans k))))) B6 Do O λch bg=>AB O (BG CL c.1 O bg Gu O λci bh=>AB O (BC O bh Fy O λbi=>AB O ?_)))))))
     obtain⟨cj,av,d⟩:=bd d
     refine BR O O O PC O (λh' o=>Gv (St.all h') be (J9 bi) av) (AB O (CE O (AL O ?_)))
     cases d
     exact AV O
    have d:=HE an d
    cases d
    exact A3 O O
   refine AA O ?_
   obtain⟨bj,g,E⟩:=bd E
   refine AW 8 61 (.bool bj) ?_ ?_
   ·cases ao:am
    ·have g:=HG ao g
     refine AB O (AD LZ O (AB O (AS CL c O mh O CG O (AB O (A8 O (k6.mono (y.trans (Q.trans (A.trans (F.trans k))))) E6 If O λck bk=>AB O (BG CL c.1 O bk LA O λcl bl=>AB O (BC O bl Kt O λbm=>AB O ?_)))))))
     obtain⟨cm,aw,g⟩:=bd g
     refine BR O O O aR O (λh' o=>Mw (St.all h') ((ab.mono' k).mono' (o.all c.1)) (J9 bm) aw) (AB O (CE O (AL O ?_)))
     cases g
     exact AV O
    have g:=HE ao g
    cases g
    exact A3 O O
   refine B3 (kp [61,10,34,33,3,2,6,35] O) λcn x H=>AX O E (λbn E=>?_) (λbn E=>?_)
   ·refine AI (AY O (AM O (kp [5,4] O) (A5 (λp s b i=>?_))))
    have ax:=x.drop .head
    cases E
    exact Kn b O i (Ix (JP b (v:=_) O) (Ix (JP b (v:=_) O) Km)) O (e5.trans (y.trans (Q.trans (A.trans (F.trans (k.trans H)))))) ⟨O,(iq (n:=0) O),ax⟩
   refine AT (AE (CX (.inl O) x (AD LZ O (AS CL x O mh O CG O ?_))))
   obtain⟨I,ay,E⟩:=bd E
   refine DF O O O Nj O (λh' o=>Fg (St.all h') ((ab.mono' (k.trans H)).mono' (o.all x.1)) ay) λbo=>?_
   have co:=bo
   refine AY O (B3 (kp [11,34,33,3,2,6,35] O) λcp ac ap=>AI (AA O (AA O (BB O (AM O (kp [6,11,34,33,3,2,35] O) (AI (AA O (HO O (AA O (AW 3 73 (.bool ((decide (I≤0))||(decide (1125899906842624<(B0 (C+I)))))) ?_ ?_))))))))))
   ·cases cq:(decide (I≤0))
    ·exact AB O (AA O (AB O (CP O (AL O (AV O)))))
    exact A3 O O
   refine AN (kp [73,6,34,33,3,2,35] O) (AX O E (λbp E=>?_) (λbp E=>?_))
   ·refine AI (AY O (AM O (kp [5,4] O) (A5 (λp s b i=>?_))))
    have az:=ac.drop .head
    cases E
    exact Kn b O i (Ix (JP b (v:=_) O) (Ix (JP b (v:=_) O) Km)) O (e5.trans (y.trans (Q.trans (A.trans (F.trans (k.trans (H.trans ap))))))) ⟨O,(iq (n:=0) O),az⟩
   refine AT (B5 (CN (.inl O) (BB O (AA O (AN (kp [35,6,34,33,3,2] O) (WF.nil (λp s b i=>?_)))))))
   have a0:=ac.drop .head
   exact⟨(B0 (C+I)),(B0 (X+1)),_,_,b.sub (kp [34,33,3,2,6,35] O),i,a0,(A.trans (F.trans (k.trans (H.trans ap)))),(B1 _),(B1 _),E⟩
  refine By O (λp s b i=>?_)
  exact⟨C,_,_,b.sub (kp [6] O),i,Y,A,b8,E⟩
 rintro p s ⟨ag,cr,cs,b,i,a1,bq,cc,E⟩
 refine A6 ?_ b i
 clear b i s p
 rw[F5] at E
 refine AI (AA O (AY O (AM O (kp [5,4] O) (A5 (λp s b i=>?_)))))
 cases E
 exact Kn b O i (Ix (JP b (v:=_) O) (Ix (JP b (v:=_) O) Km)) O (e5.trans (y.trans (Q.trans bq))) ⟨O,cc,a1⟩
end Go.Proofs.YtblcgjadhemlbaaGreat
