import Derived.Test.YtblcgjadhemlbaaGreatWWalk4
namespace Go.Proofs.YtblcgjadhemlbaaGreat
set_option linter.all false
open Go.RowKit
open Go.Proofs.Tryz
set_option maxRecDepth 10000
set_option maxHeartbeats 2000000
variable {N:Nat}{S:Nat→Prop}{L:List HP}{h:BM}
def NR (hs:St S L h) {s:Value}{d:AU}(J:Rd S h C2 s d) {r:Bool}(E:H7 N d=some r):
 DK prog 53 #[s] S h (λv S' h'=>v= .bool r∧St S' (L) h'):=by
 refine B0 (l:=[s]) 64 func53 O ntmps53 O λB=>?_
 rw[H7] at E
 refine WF.sl (C3 O J (λe=>by cases e) O hs λq1 S2 h3 aj e5 k6=>AF 1 (A0 O (AD (AZ (kp [1] O) (AE (AI (A8 O k6 Ja O2 O λq7 k8=>BF Bu aj.1 O k8 To O λv9 ak=>BE O ak Qh O λb8=>AA O (AN (kp [10,9,8,1] O) (BH (λa w=>IV B S2 h3 (64,[]) a w [(1,q1)] (L) λ_ _=>EK N d=some r) ?_ ?_)))))))))
 ·refine BV (λn1=>λa w=>∃(y:Int),IV B S2 h3 (64,[]) a w [(9,vI (↑d.Am.length:Int)),(8,v9),(1,q1),(10,vI y)] (L) λ_ _=>AH y∧EJ N d (EK N d) n1 y=some r) N ?_ ?_ ?_
  ·intro t u b c
   exact⟨0,_,_,b.sub (kp [9,8,1,10] O),c,aj,(C9.refl S2 h3),(iq (n:=0) O),E⟩
  ·rintro t u ⟨_,_,_,_,_,_,_,_,E⟩
   rw[EJ] at E;cases E
  rintro n1 t u ⟨y,b9,ca,b,c,z,A,cb,E⟩
  refine A6 ?_ b c
  clear b c u t
  rw[EJ] at E
  refine AI (BI O (AN (kp [11,9,8,1,10] O) (AE (AY O E (λbf E=>?_) (λbf E=>?_)))))
  ·refine AS (AE (BY (WF.sl (AF 2 ?_))))
   obtain⟨x,am,E⟩:=bd E
   refine B1 O O (ak.mono' A) Qh am O λcc bg=>Cq Bu z.1 O bg SZ (λe=>by cases e) O λcd bh=>AD (Di Xr O z λce cf an K=>?_)
   obtain⟨rfl,⟨cg,bi,bj,bk,bl,bm,bn⟩⟩:=HL.ex (bh.mono K)
   refine Ek (vs:=[.string x.H,vI x.An,vI x.Bm,vI x.Bl,vI x.Bq,vI x.Bn,vI x.Bk]) O O O O SZ O an .head O λch g Y=>AZ (kp [4,9,8,1,10] O) (AE (Cn (.inl O) g (AG ZI O (AT CQ g O mh O BA O (A8 O (k6.mono (A.trans (K.trans Y))) B8 D1 O λci bo=>BF CQ g.1 O bo G7 O λcj bp=>BE O bp GL O λbq=>?_)))))
   obtain⟨br,ao,E⟩:=bd E
   refine BU O O O Q5 O (λh' o=>Hd (St.all h') bi (KY bq) ao) (CI O (AA O ?_))
   obtain⟨ap,i,E⟩:=bd E
   refine AW 5 26 (.bool ap) ?_ ?_
   ·cases aq:(!br)
    ·have i:=Hj aq i
     refine AB O (AG ZH O (AB O (AT CQ g O mh O BA O (AB O ?_))))
     obtain⟨ck,ar,i⟩:=bd i
     refine BU O O O Ka O (λh' o=>Cv (St.all h') bj ar) (AB O (CI O (AL O ?_)))
     cases i
     exact AV O
    have i:=Hi aq i
    cases i
    exact A4 O O
   refine AA O ?_
   obtain⟨au,j,E⟩:=bd E
   refine AW 5 32 (.bool au) ?_ ?_
   ·cases av:ap
    ·have j:=Hj av j
     refine AB O (AG ZG O (AB O (AT CQ g O mh O BA O (AB O ?_))))
     obtain⟨cl,aw,j⟩:=bd j
     refine BU O O O Ip O (λh' o=>Cm (St.all h') bk (iq (n:=0) O) (iq (n:=24) O) aw) (AB O (CI O (AL O ?_)))
     cases j
     exact AV O
    have j:=Hi av j
    cases j
    exact A4 O O
   refine AA O ?_
   obtain⟨ax,k,E⟩:=bd E
   refine AW 5 38 (.bool ax) ?_ ?_
   ·cases ay:au
    ·have k:=Hj ay k
     refine AB O (AG ZF O (AB O (AT CQ g O mh O BA O (AB O ?_))))
     obtain⟨cm,az,k⟩:=bd k
     refine BU O O O Ip O (λh' o=>Cm (St.all h') bl (iq (n:=0) O) (iq (n:=1073741824) O) az) (AB O (CI O (AL O ?_)))
     cases k
     exact AV O
    have k:=Hi ay k
    cases k
    exact A4 O O
   refine AA O ?_
   obtain⟨a0,m,E⟩:=bd E
   refine AW 5 44 (.bool a0) ?_ ?_
   ·cases a1:ax
    ·have m:=Hj a1 m
     refine AB O (AG ZE O (AB O (AT CQ g O mh O BA O (AB O ?_))))
     obtain⟨cn,a2,m⟩:=bd m
     refine BU O O O Ka O (λh' o=>Cv (St.all h') bm a2) (AB O (CI O (AL O ?_)))
     cases m
     exact AV O
    have m:=Hi a1 m
    cases m
    exact A4 O O
   refine AA O ?_
   obtain⟨bs,p,E⟩:=bd E
   refine AW 5 50 (.bool bs) ?_ ?_
   ·cases a3:a0
    ·have p:=Hj a3 p
     refine AB O (AG ZD O (AB O (AT CQ g O mh O BA O (AB O ?_))))
     obtain⟨co,a4,p⟩:=bd p
     refine BU O O O Ip O (λh' o=>Cm (St.all h') bn (iq (n:=0) O) (iq (n:=128) O) a4) (AB O (CI O (AL O ?_)))
     cases p
     exact AV O
    have p:=Hi a3 p
    cases p
    exact A4 O O
   refine B9 (kp [50,9,8,1,10] O) λcp Q a5=>AY O E (λbt E=>?_) (λbt E=>?_)
   ·refine AI (AM O (kp [2] O) (A5 (λt u b c=>?_)))
    have a6:=Q.drop .head
    cases E
    exact Em b c O O (e5.trans (A.trans (K.trans (Y.trans a5)))) ⟨O,a6⟩
   refine AS (B7 (CL (.inl O) (A9 O (AA O (AN (kp [10,9,8,1] O) (WF.nil (λt u b c=>?_)))))))
   have a7:=Q.drop .head
   exact⟨(Bw (y+1)),_,_,b.sub (kp [9,8,1,10] O),c,a7,(A.trans (K.trans (Y.trans a5))),(B5 _),E⟩
  refine By O (λt u b c=>?_)
  exact⟨_,_,b.sub (kp [1] O),c,z,A,E⟩
 rintro t u ⟨Z,ab,b,c,U,ac,E⟩
 refine A6 ?_ b c
 clear b c u t
 rw[EK] at E
 refine AE (AI (A8 O (k6.mono ac) JI QS O λcq bu=>BF Bu U.1 O bu Vr O λbv a8=>BE O a8 Rr O λcr=>AA O (AN (kp [55,54,53] O) (BH (λa w=>IV B Z ab (64,[]) a w [] (L) λ_ _=>Fx N=some r) ?_ ?_))))
 ·refine BV (λn3=>λa w=>∃(C:Int),IV B Z ab (64,[]) a w [(54,vI (↑d.Ay.length:Int)),(53,bv),(55,vI C)] (L) λ_ _=>AH C∧EI N d (Fx N) n3 C=some r) N ?_ ?_ ?_
  ·intro t u b c
   exact⟨0,_,_,b.sub (kp [54,53,55] O),c,U,(C9.refl Z ab),(iq (n:=0) O),E⟩
  ·rintro t u ⟨_,_,_,_,_,_,_,_,E⟩
   rw[EI] at E;cases E
  rintro n3 t u ⟨C,cs,ct,b,c,D,M,cu,E⟩
  refine A6 ?_ b c
  clear b c u t
  rw[EI] at E
  refine AI (BI O (AN (kp [56,54,53,55] O) (AE (AY O E (λbw E=>?_) (λbw E=>?_)))))
  ·refine AS (AE (BY (WF.sl (AF 2 ?_))))
   obtain⟨V,ad,E⟩:=bd E
   refine B1 O O (a8.mono' M) Rr ad O λbx a9=>Cq Bu D.1 O a9 SY (λe=>by cases e) O λbz ba=>AD (Di Xq O D λb0 b1 ae F=>?_)
   obtain⟨rfl,⟨b2,bb⟩⟩:=Dy.ex (ba.mono F)
   refine Ek (vs:=[.string V.H,vI V.Ax]) O O O O SY O ae .head O λb3 G W=>AZ (kp [6,54,53,55] O) (AE (Cn (.inl O) G (AG ZA O (AT CQ G O mh O BA O ?_))))
   obtain⟨b4,af,E⟩:=bd E
   refine BU O O O Ip O (λh' o=>Cm (St.all h') bb (iq (n:=0) O) (iq (n:=1073741824) O) af) (CI O (B9 (kp [62,54,53,55] O) λb5 I X=>AY O E (λbc E=>?_) (λbc E=>?_)))
   ·refine AI (AM O (kp [2] O) (A5 (λt u b c=>?_)))
    have ag:=I.drop .head
    cases E
    exact Em b c O O (e5.trans (ac.trans (M.trans (F.trans (W.trans X))))) ⟨O,ag⟩
   refine AS (B7 (CL (.inl O) (A9 O (AA O (AN (kp [55,54,53] O) (WF.nil (λt u b c=>?_)))))))
   have ah:=I.drop .head
   exact⟨(Bw (C+1)),_,_,b.sub (kp [54,53,55] O),c,ah,(M.trans (F.trans (W.trans X))),(B5 _),E⟩
  refine By O (λt u b c=>?_)
  exact⟨_,_,b.sub Py,c,D,M,E⟩
 rintro t u ⟨b6,b7,b,c,ai,be,E⟩
 refine A6 ?_ b c
 clear b c u t
 rw[Fx] at E
 refine AI (AM O (kp [2] O) (A5 (λt u b c=>?_)))
 cases E
 exact Em b c O O (e5.trans (ac.trans be)) ⟨O,ai⟩
def M1 (hs:St S L h) {g:Value}{b:AU}(I:Rd S h C2 g b) {r:Bool}(E:Hh N b=some r):
 DK prog 54 #[g] S h (λv S' h'=>v= .bool r∧St S' (L) h'):=by
 refine B0 (l:=[g]) 47 func54 O ntmps54 O λB=>?_
 rw[Hh] at E
 refine WF.sl (C3 O I (λe=>by cases e) O hs λq1 S2 h3 U e5 k6=>AF 1 (A0 O (AD (AZ (kp [1] O) (AE (AI (A8 O k6 K9 TH O λq7 k8=>BF Bu U.1 O k8 Xz O λv9 W=>BE O W T3 O λbh=>AA O (AN (kp [9,8,7,1] O) (BH (λa w=>IV B S2 h3 (47,[]) a w [] (L) λ_ _=>Fb N=some r) ?_ ?_)))))))))
 ·refine BV (λn1=>λa w=>∃(u:Int),IV B S2 h3 (47,[]) a w [(8,vI (↑b.Au.length:Int)),(7,v9),(1,q1),(9,vI u)] (L) λ_ _=>AH u∧EA N b (Fb N) n1 u=some r) N ?_ ?_ ?_
  ·intro F G i j
   exact⟨0,_,_,i.sub (kp [8,7,1,9] O),j,U,(C9.refl S2 h3),(iq (n:=0) O),E⟩
  ·rintro F G ⟨_,_,_,_,_,_,_,_,E⟩
   rw[EA] at E;cases E
  rintro n1 F G ⟨u,bi,bj,i,j,x,t,bk,E⟩
  refine A6 ?_ i j
  clear i j G F
  rw[EA] at E
  refine AI (BI O (AN (kp [10,8,7,1,9] O) (AE (AY O E (λau E=>?_) (λau E=>?_)))))
  ·refine AS (AE (BY (WF.sl (AF 2 ?_))))
   obtain⟨y,X,E⟩:=bd E
   refine B1 O O (W.mono' t) T3 X O λbl av=>Cq Bu x.1 O av SW (λe=>by cases e) O λbm aw=>AD (Di Xp O x λbn bo Y C=>?_)
   obtain⟨rfl,⟨bp,ax,ay,az,a0⟩⟩:=Fc.ex (aw.mono C)
   refine Ek (vs:=[.string y.H,vI y.B,vI y.Z,vI y.V,vI y.Bo]) O O O O SW O Y .head O λbq m J=>AZ (kp [4,8,7,1,9] O) (AE (AE (Cn (.inl O) m (AG UY O (AT CQ m O mh O BA O ?_)))))
   obtain⟨a1,ab,E⟩:=bd E
   refine BU O O O Ip O (λh' o=>Cm (St.all h') ax (iq (n:=0) O) (iq (n:=2) O) ab) (CI O (AA O ?_))
   obtain⟨ac,c,E⟩:=bd E
   refine AW 5 22 (.bool ac) ?_ ?_
   ·cases ad:(!a1)
    ·have c:=Hj ad c
     refine AB O (AG Y7 O (AB O (AT CQ m O mh O BA O (AB O ?_))))
     obtain⟨br,ae,c⟩:=bd c
     refine BU O O O Ip O (λh' o=>Cm (St.all h') az (iq (n:=0) O) (iq (n:=1099511627776) O) ae) (AB O (CI O (AL O ?_)))
     cases c
     exact AV O
    have c:=Hi ad c
    cases c
    exact A4 O O
   refine AA O ?_
   obtain⟨a2,d,E⟩:=bd E
   refine AW 5 28 (.bool a2) ?_ ?_
   ·cases af:ac
    ·have d:=Hj af d
     refine AB O (AG Y6 O (AB O (AT CQ m O mh O BA O (AB O ?_))))
     obtain⟨bs,ag,d⟩:=bd d
     refine BU O O O Ip O (λh' o=>Cm (St.all h') a0 (iq (n:=0) O) (iq (n:=1440) O) ag) (AB O (CI O (AL O ?_)))
     cases d
     exact AV O
    have d:=Hi af d
    cases d
    exact A4 O O
   refine B9 (kp [28,4,8,7,1,9] O) λbt k K=>AY O E (λa3 E=>?_) (λa3 E=>?_)
   ·refine AI (AM O (kp [2] O) (A5 (λF G i j=>?_)))
    have ah:=k.drop .head
    cases E
    exact Em i j O O (e5.trans (t.trans (C.trans (J.trans K)))) ⟨O,ah⟩
   refine AS (WF.sl (AF 9 ?_))
   have Q:=k6.mono (t.trans (C.trans (J.trans K)))
   refine A8 O Q B8 D1 O λbu a4=>BF Bu k.1 O a4 G7 O λbv a5=>BE O a5 GL O λa6=>A8 O Q Lm TI O λbw a7=>BC Bu k.1 O a7 BA O λa8=>A8 O Q Er Hn O λbx a9=>BF Bu k.1 O a9 KF O λbz ba=>BE O ba Ie O λbb=>cA (cs:=[vI (↑b.A.length:Int),vI b.T,vI (↑b.E.length:Int)]) gZ O O O (AD (Di eI O k λb0 b1 ai aj=>Ek (vs:=[vI (↑b.A.length:Int),vI b.T,vI (↑b.E.length:Int)]) O O O O eR O ai .head O λb2 s ak=>AZ (kp [5,4,8,7,1,9] O) (AE (Cn (.inr ⟨mo,by kernel_rfl⟩) s (AG Y8 O (AT CQ s O (mt mh) O BA O (AG UY O (AT CQ s O (mt mh) O BA O ?_))))))))
   obtain⟨bc,D,E⟩:=bd E
   have am:=lH D
   refine iJ O O gW am.1 am.2 O (bX (l:=([(↑b.A.length:Int),b.T,(↑b.E.length:Int)]:List Int)) (Value.int .i64) CQ s O mh O D BA O ?_)
   have be:AH bc:=lG (p:=λz=>AH z) (all_cons (KY a6) (all_cons a8 (all_cons (KY bb) bI))) D
   obtain⟨b3,an,E⟩:=bd E
   refine BU O O O Q5 O (λh' o=>Hd (St.all h') ay be an) (CI O (B9 (kp [45,8,7,1,9] O) λb4 M ao=>AY O E (λbf E=>?_) (λbf E=>?_)))
   ·refine AI (AM O (kp [2] O) (A5 (λF G i j=>?_)))
    have ap:=M.sel [] 2 O
    cases E
    exact Em i j O O (e5.trans (t.trans (C.trans (J.trans (K.trans (aj.trans (ak.trans ao))))))) ⟨O,ap⟩
   refine AS (B7 (CL (.inl O) (A9 O (AA O (AN (kp [9,8,7,1] O) (WF.nil (λF G i j=>?_)))))))
   have aq:=M.sel [] 2 O
   exact⟨(Bw (u+1)),_,_,i.sub (kp [8,7,1,9] O),j,aq,(t.trans (C.trans (J.trans (K.trans (aj.trans (ak.trans ao)))))),(B5 _),E⟩
  refine By O (λF G i j=>?_)
  exact⟨_,_,i.sub Py,j,x,t,E⟩
 rintro F G ⟨b5,b6,i,j,ar,bg,E⟩
 refine A6 ?_ i j
 clear i j G F
 rw[Fb] at E
 refine AI (AM O (kp [2] O) (A5 (λF G i j=>?_)))
 cases E
 exact Em i j O O (e5.trans bg) ⟨O,ar⟩
def NS (hs:St S L h) {s:Value}{x:AU}(J:Rd S h C2 s x) {r:Bool}(E:H8 N x=some r):
 DK prog 55 #[s] S h (λv S' h'=>v= .bool r∧St S' (L) h'):=by
 refine B0 (l:=[s]) 80 func55 O ntmps55 O λB=>?_
 rw[H8] at E
 refine WF.sl (C3 O J (λe=>by cases e) O hs λq1 S2 h3 ab e5 k6=>AF 1 (A0 O (AD (AZ (kp [1] O) (AE (AI (A8 O k6 Ll TG O λq7 k8=>BF Bu ab.1 O k8 Xy O λv9 ac=>BE O ac T1 O λbq=>AA O (AN (kp [8,7,6,1] O) (BH (λa w=>IV B S2 h3 (80,[]) a w [] (L) λ_ _=>Fy N=some r) ?_ ?_)))))))))
 ·refine BV (λn1=>λa w=>∃(z:Int),IV B S2 h3 (80,[]) a w [(7,vI (↑x.Av.length:Int)),(6,v9),(1,q1),(8,vI z)] (L) λ_ _=>AH z∧EL N x (Fy N) n1 z=some r) N ?_ ?_ ?_
  ·intro F I t u
   exact⟨0,_,_,t.sub (kp [7,6,1,8] O),u,ab,(C9.refl S2 h3),(iq (n:=0) O),E⟩
  ·rintro F I ⟨_,_,_,_,_,_,_,_,E⟩
   rw[EL] at E;cases E
  rintro n1 F I ⟨z,br,bs,t,u,A,y,bt,E⟩
  refine A6 ?_ t u
  clear t u I F
  rw[EL] at E
  refine AI (BI O (AN (kp [9,7,6,1,8] O) (AE (AY O E (λaz E=>?_) (λaz E=>?_)))))
  ·refine AS (AE (BY (WF.sl (AF 2 ?_))))
   obtain⟨b,ad,E⟩:=bd E
   refine B1 O O (ac.mono' y) T1 ad O λbu a0=>Cq Bu A.1 O a0 SV (λe=>by cases e) O λbv a1=>AD (Di Xo O A λbw bx ae D=>?_)
   obtain⟨rfl,⟨bz,a2,a3,a4,a5,a6,a7⟩⟩:=HN.ex (a1.mono D)
   refine Ek (vs:=[.string b.H,vI b.G,vI b.C,vI b.Br,vI b.Bs,vI b.Bh,vI b.Bj]) O O O O SV O ae .head O λb0 c K=>AZ (kp [4,7,6,1,8] O) (AE (AE (Cn (.inl O) c (AG UW O (AT CQ c O mh O BA O ?_)))))
   have M:=k6.mono (y.trans (D.trans K))
   refine A8 O M Ja O2 O λb1 a8=>BF CQ c.1 O a8 To O λb2 a9=>BE O a9 Qh O λba=>?_
   obtain⟨bb,af,E⟩:=bd E
   refine BU O O O Q5 O (λh' o=>Hd (St.all h') a2 (KY ba) af) (CI O (AA O ?_))
   obtain⟨Q,d,E⟩:=bd E
   refine AW 12 31 (.bool Q) ?_ ?_
   ·cases ag:(!bb)
    ·have d:=Hj ag d
     refine AB O (AG UV O (AB O (AT CQ c O mh O BA O (AB O (A8 O M Ja O2 O λb3 bc=>AB O (BF CQ c.1 O bc To O λb4 be=>AB O (BE O be Qh O λb5=>AB O (A8 O M JI QS O λb6 bf=>AB O (BF CQ c.1 O bf Vr O λb7 bg=>AB O (BE O bg Rr O λb8=>AB O (A9 O (AB O ?_))))))))))))
     obtain⟨b9,ah,d⟩:=bd d
     refine BU O O O Q5 O (λh' o=>Hd (St.all h') a3 (B5 _) ah) (AB O (CI O (AL O ?_)))
     cases d
     exact AV O
    have d:=Hi ag d
    cases d
    exact A4 O O
   refine AA O (AW 6 38 (.bool (Q||(decide (b.G=b.C)))) ?_ ?_)
   ·cases ca:Q
    ·exact AB O (AG UW O (AB O (AT CQ c O mh O BA O (AB O (AG UV O (AB O (AT CQ c O mh O BA O (AB O (B6 O (AL O (AV O)))))))))))
    exact A4 O O
   refine AA O ?_
   obtain⟨ai,g,E⟩:=bd E
   refine AW 5 44 (.bool ai) ?_ ?_
   ·cases aj:(Q||(decide (b.G=b.C)))
    ·have g:=Hj aj g
     refine AB O (AG Y4 O (AB O (AT CQ c O mh O BA O (AB O ?_))))
     obtain⟨cb,ak,g⟩:=bd g
     refine BU O O O Ip O (λh' o=>Cm (St.all h') a4 (iq (n:=1) O) (iq (n:=24) O) ak) (AB O (CI O (AL O ?_)))
     cases g
     exact AV O
    have g:=Hi aj g
    cases g
    exact A4 O O
   refine AA O ?_
   obtain⟨am,i,E⟩:=bd E
   refine AW 5 50 (.bool am) ?_ ?_
   ·cases an:ai
    ·have i:=Hj an i
     refine AB O (AG Y3 O (AB O (AT CQ c O mh O BA O (AB O ?_))))
     obtain⟨cc,ao,i⟩:=bd i
     refine BU O O O Ip O (λh' o=>Cm (St.all h') a5 (iq (n:=0) O) (iq (n:=1073741824) O) ao) (AB O (CI O (AL O ?_)))
     cases i
     exact AV O
    have i:=Hi an i
    cases i
    exact A4 O O
   refine AA O ?_
   obtain⟨bh,j,E⟩:=bd E
   refine AW 5 56 (.bool bh) ?_ ?_
   ·cases ap:am
    ·have j:=Hj ap j
     refine AB O (AG UU O (AB O (AT CQ c O mh O BA O (AB O ?_))))
     obtain⟨cd,aq,j⟩:=bd j
     refine BU O O O Ka O (λh' o=>Cv (St.all h') a7 aq) (AB O (CI O (AL O ?_)))
     cases j
     exact AV O
    have j:=Hi ap j
    cases j
    exact A4 O O
   refine B9 (kp [56,4,7,6,1,8] O) λce p U=>AY O E (λbi E=>?_) (λbi E=>?_)
   ·refine AI (AM O (kp [2] O) (A5 (λF I t u=>?_)))
    have ar:=p.drop .head
    cases E
    exact Em t u O O (e5.trans (y.trans (D.trans (K.trans U)))) ⟨O,ar⟩
   refine AS (AE (Cn (.inl O) p (AG Qz O (AT CQ p O mh O BA O (B6 O (AA O (AW 4 64 (.bool ((decide (b.Bh=(-1)))&&(decide (b.Bj≠0)))) ?_ ?_)))))))
   ·cases cf:(decide (b.Bh=(-1)))
    ·exact A4 O O
    exact AB O (AG UU O (AB O (AT CQ p O mh O BA O (AB O (Cg O (AL O (AV O)))))))
   refine AA O ?_
   obtain⟨bj,k,E⟩:=bd E
   refine AW 13 78 (.bool bj) ?_ ?_
   ·cases au:((decide (b.Bh=(-1)))&&(decide (b.Bj≠0)))
    ·have k:=Hj au k
     refine AB O (AG Qz O (AB O (AT CQ p O mh O BA O (AB O (Cg O (AB O (AA O ?_)))))))
     obtain⟨bk,m,k⟩:=bd k
     refine AW 8 77 (.bool bk) ?_ ?_
     ·cases av:(decide (b.Bh≠(-1)))
      ·have m:=Hj av m
       cases m
       exact A4 O O
      have m:=Hi av m
      refine AB O (AG Qz O (AB O (AT CQ p O mh O BA O (AB O (A8 O (M.mono U) B8 D1 O λcg bl=>AB O (BF CQ p.1 O bl G7 O λch bm=>AB O (BE O bm GL O λbn=>AB O ?_)))))))
      obtain⟨ci,aw,m⟩:=bd m
      refine BU O O O Q5 O (λh' o=>Hd (St.all h') a6 (KY bn) aw) (AB O (CI O (AB O (AL O ?_))))
      cases m
      exact AV O
     refine AL O ?_
     cases k
     exact AV O
    have k:=Hi au k
    cases k
    exact A4 O O
   refine B9 (kp [78,7,6,1,8] O) λcj V W=>AY O E (λax E=>?_) (λax E=>?_)
   ·refine AI (AM O (kp [2] O) (A5 (λF I t u=>?_)))
    have X:=V.drop .head
    cases E
    exact Em t u O O (e5.trans (y.trans (D.trans (K.trans (U.trans W))))) ⟨O,X⟩
   refine AS (B7 (CL (.inl O) (A9 O (AA O (AN (kp [8,7,6,1] O) (WF.nil (λF I t u=>?_)))))))
   have Y:=V.drop .head
   exact⟨(Bw (z+1)),_,_,t.sub (kp [7,6,1,8] O),u,Y,(y.trans (D.trans (K.trans (U.trans W)))),(B5 _),E⟩
  refine By O (λF I t u=>?_)
  exact⟨_,_,t.sub Py,u,A,y,E⟩
 rintro F I ⟨bo,bp,t,u,Z,ay,E⟩
 refine A6 ?_ t u
 clear t u I F
 rw[Fy] at E
 refine AI (AM O (kp [2] O) (A5 (λF I t u=>?_)))
 cases E
 exact Em t u O O (e5.trans ay) ⟨O,Z⟩
def Mr (hs:St S L h) {n:Value}{t:AU}(p:Rd S h C2 n t) {r:Bool}(E:GB N t=some r):
 DK prog 27 #[n] S h (λv S' h'=>v= .bool r∧St S' (L) h'):=by
 refine B0 (l:=[n]) 37 func27 O ntmps27 O λB=>?_
 rw[GB] at E
 refine WF.sl (C3 O p (λe=>by cases e) O hs λq1 S2 h3 a e5 s=>AF 1 (A0 O (AD (AZ (kp [1] O) (AE (Cn (.inl O) a (Cq CQ a.1 O s H2 (λe=>by cases e) O λv7 k8=>?_)))))))
 obtain⟨y9,ad,E⟩:=bd E
 refine BU O O O mZ O (λh' o=>N5 (St.all h') (k8.mono (o.all a.1)) ad) (AA O ?_)
 obtain⟨u,b,E⟩:=bd E
 refine AW 3 8 (.bool u) ?_ ?_
 ·cases w:y9
  ·have b:=Hj w b
   cases b
   exact A4 O O
  have b:=Hi w b
  refine AB O (Cq CQ a.1 O s H2 (λe=>by cases e) O λao ae=>AB O ?_)
  obtain⟨ap,x,b⟩:=bd b
  refine BU O O O mY O (λh' o=>NT (St.all h') (ae.mono (o.all a.1)) x) (AL O ?_)
  cases b
  exact AV O
 refine AA O ?_
 obtain⟨y,c,E⟩:=bd E
 refine AW 3 12 (.bool y) ?_ ?_
 ·cases z:u
  ·have c:=Hj z c
   cases c
   exact A4 O O
  have c:=Hi z c
  refine AB O (Cq CQ a.1 O s H2 (λe=>by cases e) O λaq af=>AB O ?_)
  obtain⟨ar,A,c⟩:=bd c
  refine BU O O O mX O (λh' o=>M0 (St.all h') (af.mono (o.all a.1)) A) (AL O ?_)
  cases c
  exact AV O
 refine AA O ?_
 obtain⟨C,d,E⟩:=bd E
 refine AW 3 16 (.bool C) ?_ ?_
 ·cases D:y
  ·have d:=Hj D d
   cases d
   exact A4 O O
  have d:=Hi D d
  refine AB O (Cq CQ a.1 O s H2 (λe=>by cases e) O λau ag=>AB O ?_)
  obtain⟨av,F,d⟩:=bd d
  refine BU O O O mW O (λh' o=>NU (St.all h') (ag.mono (o.all a.1)) F) (AL O ?_)
  cases d
  exact AV O
 refine AA O ?_
 obtain⟨G,g,E⟩:=bd E
 refine AW 3 20 (.bool G) ?_ ?_
 ·cases H:C
  ·have g:=Hj H g
   cases g
   exact A4 O O
  have g:=Hi H g
  refine AB O (Cq CQ a.1 O s H2 (λe=>by cases e) O λaw ah=>AB O ?_)
  obtain⟨ax,I,g⟩:=bd g
  refine BU O O O mV O (λh' o=>Mk (St.all h') (ah.mono (o.all a.1)) I) (AL O ?_)
  cases g
  exact AV O
 refine AA O ?_
 obtain⟨J,i,E⟩:=bd E
 refine AW 3 24 (.bool J) ?_ ?_
 ·cases K:G
  ·have i:=Hj K i
   cases i
   exact A4 O O
  have i:=Hi K i
  refine AB O (Cq CQ a.1 O s H2 (λe=>by cases e) O λay ai=>AB O ?_)
  obtain⟨az,M,i⟩:=bd i
  refine BU O O O mU O (λh' o=>Mz (St.all h') (ai.mono (o.all a.1)) M) (AL O ?_)
  cases i
  exact AV O
 refine AA O ?_
 obtain⟨Q,j,E⟩:=bd E
 refine AW 3 28 (.bool Q) ?_ ?_
 ·cases U:J
  ·have j:=Hj U j
   cases j
   exact A4 O O
  have j:=Hi U j
  refine AB O (Cq CQ a.1 O s H2 (λe=>by cases e) O λa0 aj=>AB O ?_)
  obtain⟨a1,V,j⟩:=bd j
  refine BU O O O mT O (λh' o=>NR (St.all h') (aj.mono (o.all a.1)) V) (AL O ?_)
  cases j
  exact AV O
 refine AA O ?_
 obtain⟨W,k,E⟩:=bd E
 refine AW 3 32 (.bool W) ?_ ?_
 ·cases X:Q
  ·have k:=Hj X k
   cases k
   exact A4 O O
  have k:=Hi X k
  refine AB O (Cq CQ a.1 O s H2 (λe=>by cases e) O λa2 ak=>AB O ?_)
  obtain⟨a3,Y,k⟩:=bd k
  refine BU O O O mS O (λh' o=>M1 (St.all h') (ak.mono (o.all a.1)) Y) (AL O ?_)
  cases k
  exact AV O
 refine AA O ?_
 obtain⟨al,m,E⟩:=bd E
 refine AW 3 36 (.bool al) ?_ ?_
 ·cases Z:W
  ·have m:=Hj Z m
   cases m
   exact A4 O O
  have m:=Hi Z m
  refine AB O (Cq CQ a.1 O s H2 (λe=>by cases e) O λa4 am=>AB O ?_)
  obtain⟨a5,ab,m⟩:=bd m
  refine BU O O O mR O (λh' o=>NS (St.all h') (am.mono (o.all a.1)) ab) (AL O ?_)
  cases m
  exact AV O
 refine A0 O (B9 (kp [2] O) λa6 ac an=>A5 (λaa ww hf hw=>?_))
 cases E
 exact Em hf hw O O (e5.trans an) ⟨O,ac⟩
def NF (D:St S L h) {b:Value}{g:(List Int)}(i:Sl S h AJ b g) {r:Bool}(E:IR N g=some r):
 DK prog 91 #[b] S h (λv S' h'=>v= .bool r∧St S' (L) h'):=by
 refine B0 (l:=[b]) 24 func91 O ntmps91 O λB=>?_
 rw[IR] at E
 refine AI (AM O (kp [0] O) (AI (AM O (kp [3,0] O) (AE (AI (AA O (BE O i CA O λQ=>AA O (AN (kp [8,7,6,3] O) (BH (λa w=>IV B S h (24,[]) a w [] (L) λ_ _=>Gs N=some r) ?_ ?_)))))))))
 ·refine BV (λC=>λa w=>∃(q:Int) (s:Int),IV B S h (24,[]) a w [(7,vI (↑g.length:Int)),(6,b),(3,vI q),(8,vI s)] (L) λ_ _=>AH q∧AH s∧Eo N g (Gs N) C q s=some r) N ?_ ?_ ?_
  ·intro k m c d
   exact⟨0,0,_,_,c.sub (kp [7,6,3,8] O),d,D,(C9.refl S h),(iq (n:=0) O),(iq (n:=0) O),E⟩
  ·rintro k m ⟨_,_,_,_,_,_,_,_,_,_,E⟩
   rw[Eo] at E;cases E
  rintro C k m ⟨q,s,F,G,c,d,j,o,U,V,E⟩
  refine A6 ?_ c d
  clear c d m k
  rw[Eo] at E
  refine AI (BI O (AN (kp [9,7,6,3,8] O) (AE (AY O E (λx E=>?_) (λx E=>?_)))))
  ·refine AS (AE (BY (AI ?_)))
   obtain⟨p,t,E⟩:=bd E
   refine B1 O O (i.mono' o) CA t O λH y=>BC Bu j.1 O y BA O λI=>AM O (kp [5,7,6,3,8] O) (AE (AI (AA O (BI O (AA O (AW 5 19 (.bool ((decide (p<0))||(decide ((Bw (1125899906842624-q))<p)))) ?_ ?_))))))
   ·cases J:(decide (p<0))
    ·exact AB O (AA O (AB O (AA O (AB O (Dl O (AB O (CV O (AL O (AV O)))))))))
    exact A4 O O
   refine AN (kp [19,5,7,6,3,8] O) (AY O E (λz E=>?_) (λz E=>?_))
   ·refine AI (AM O (kp [2] O) (A5 (λk m c d=>?_)))
    cases E
    exact Em c d O O o ⟨O,j⟩
   refine AS (CL (.inl O) (AA O (AA O (A9 O (AM O (kp [3,7,6,8] O) (B7 (CL (.inl O) (A9 O (AA O (AN (kp [8,3,7,6] O) (WF.nil (λk m c d=>?_))))))))))))
   exact⟨(Bw (q+p)),(Bw (s+1)),_,_,c.sub (kp [7,6,3,8] O),d,j,o,(B5 _),(B5 _),E⟩
  refine By O (λk m c d=>?_)
  exact⟨_,_,c.sub Py,d,j,o,E⟩
 rintro k m ⟨K,M,c,d,u,A,E⟩
 refine A6 ?_ c d
 clear c d m k
 rw[Gs] at E
 refine AI (AM O (kp [2] O) (A5 (λk m c d=>?_)))
 cases E
 exact Em c d O O A ⟨O,u⟩
def NG (n:St S L h) {b:Value}{d:(List Int)}(g:Sl S h AJ b d) {a:Int}(i:AH a) {r:Bool}(E:Je N d a=some r):
 DK prog 67 #[b,vI a] S h (λv S' h'=>v= .bool r∧St S' (L) h'):=by
 refine B0 (l:=[b,vI a]) 21 func67 O ntmps67 O λB=>?_
 rw[Je] at E
 refine AI (AM O (kp [0,1] O) (AE (Cn (.inl O) n (AA O (HY O (AA O (AW 3 10 (.bool ((decide (0≤a))&&(decide (a≤16)))) ?_ ?_)))))))
 ·cases u:(decide (0≤a))
  ·exact A4 O O
  exact AB O (AA O (AB O (HX O (AL O (AV O)))))
 refine AA O (AW 5 16 (.bool (((decide (0≤a))&&(decide (a≤16)))&&(decide ((↑d.length:Int)=a)))) ?_ ?_)
 ·cases w:((decide (0≤a))&&(decide (a≤16)))
  ·exact A4 O O
  exact AB O (AA O (AB O (BE O g CA O λx=>AB O (AA O (AB O (B6 O (AL O (AV O))))))))
 refine AA O ?_
 obtain⟨q,c,E⟩:=bd E
 refine AW 3 20 (.bool q) ?_ ?_
 ·cases p:(((decide (0≤a))&&(decide (a≤16)))&&(decide ((↑d.length:Int)=a)))
  ·have c:=Hj p c
   cases c
   exact A4 O O
  have c:=Hi p c
  refine AB O (AA O (AB O ?_))
  obtain⟨y,j,c⟩:=bd c
  refine BU O O O dP O (λh' o=>NF (St.all h') (g.mono' (o.all n.1)) j) (AL O ?_)
  cases c
  exact AV O
 refine A0 O (B9 (kp [4] O) λz k m=>A5 (λA C s t=>?_))
 cases E
 exact Em s t O O m ⟨O,k⟩
def JE (j:St S L h) {b:Int}(g:AH b) {a:Int}(i:AH a) {r:Int}(E:Gx N b a=some r):
 DK prog 36 #[vI b,vI a] S h (λv S' h'=>v=vI r∧AH r∧St S' (L) h'):=by
 refine B0 (l:=[vI b,vI a]) 24 func36 O ntmps36 O λB=>?_
 rw[Gx] at E
 refine AI (AM O (kp [0,1] O) (AE (AI (AA O (CV O (AA O (AW 5 12 (.bool ((decide (0<a))&&(decide ((Bw (9223372036854775807-a))<b)))) ?_ ?_)))))))
 ·cases q:(decide (0<a))
  ·exact A4 O O
  exact AB O (AA O (AB O (AA O (AB O (Dl O (AB O (CV O (AL O (AV O)))))))))
 refine AN (kp [12,0,1] O) (AY O E (λo E=>?_) (λo E=>?_))
 ·refine AI (AM O (kp [4] O) (A5 (λk m c d=>?_)))
  cases E
  exact Em c d O O (C9.refl S h) ⟨O,(iq (n:=9223372036854775807) O),j⟩
 refine AS (AE (AI (AA O (BI O (AA O (AW 5 20 (.bool ((decide (a<0))&&(decide (b<(Bw ((-9223372036854775808)-a)))))) ?_ ?_))))))
 ·cases s:(decide (a<0))
  ·exact A4 O O
  exact AB O (AA O (AB O (AA O (AB O (Dl O (AB O (BI O (AL O (AV O)))))))))
 refine AN (kp [20,0,1] O) (AY O E (λp E=>?_) (λp E=>?_))
 ·refine AI (AM O (kp [4] O) (A5 (λk m c d=>?_)))
  cases E
  exact Em c d O O (C9.refl S h) ⟨O,(iq (n:=(-9223372036854775808)) O),j⟩
 refine AS (AI (AA O (AA O (A9 O (AM O (kp [4] O) (A5 (λk m c d=>?_)))))))
 cases E
 exact Em c d O O (C9.refl S h) ⟨O,(B5 _),j⟩
def F7 (Q:St S L h) {b:Value}{c:(List Int)}(d:Sl S h AJ b c) {r:Int}(E:Ef N c=some r):
 DK prog 59 #[b] S h (λv S' h'=>v=vI r∧AH r∧St S' (L) h'):=by
 refine B0 (l:=[b]) 17 func59 O ntmps59 O λB=>?_
 rw[Ef] at E
 refine AI (AM O (kp [0] O) (AI (AM O (kp [3,0] O) (AE (AI (AA O (BE O d CA O λb1=>AA O (AN (kp [8,7,6,3] O) (BH (λa w=>∃(z:Int),IV B S h (17,[]) a w [(3,vI z)] (L) λ_ _=>AH z∧IJ N z=some r) ?_ ?_)))))))))
 ·refine BV (λK=>λa w=>∃(s:Int) (j:Int),IV B S h (17,[]) a w [(7,vI (↑c.length:Int)),(6,b),(3,vI s),(8,vI j)] (L) λ_ _=>AH s∧AH j∧Gt N c (IJ N) K s j=some r) N ?_ ?_ ?_
  ·intro m p g i
   exact⟨0,0,_,_,g.sub (kp [7,6,3,8] O),i,Q,(C9.refl S h),(iq (n:=0) O),(iq (n:=0) O),E⟩
  ·rintro m p ⟨_,_,_,_,_,_,_,_,_,_,E⟩
   rw[Gt] at E;cases E
  rintro K m p ⟨s,j,U,V,g,i,k,q,M,W,E⟩
  refine A6 ?_ g i
  clear g i p m
  rw[Gt] at E
  refine AI (BI O (AN (kp [9,7,6,3,8] O) (AE (AY O E (λA E=>?_) (λA E=>?_)))))
  ·refine AS (AE (BY (AI ?_)))
   obtain⟨X,t,E⟩:=bd E
   refine B1 O O (d.mono' q) CA t O λY C=>BC Bu k.1 O C BA O λD=>AM O (kp [5,7,6,3,8] O) (Cn (.inl O) k (AA O (AA O ?_)))
   obtain⟨F,u,E⟩:=bd E
   refine DW O O O SK O (λh' o=>JE (St.all h') M D u) λG=>?_
   have H:=G
   refine A0 O (B9 (kp [3,7,6,8] O) λZ x I=>B7 (CL (.inl O) (A9 O (AA O (AN (kp [8,3,7,6] O) (WF.nil (λm p g i=>?_)))))))
   exact⟨F,(Bw (j+1)),_,_,g.sub (kp [7,6,3,8] O),i,x,(q.trans I),H,(B5 _),E⟩
  refine By O (λm p g i=>?_)
  exact⟨s,_,_,g.sub (kp [3] O),i,k,q,M,E⟩
 rintro m p ⟨z,ab,ac,g,i,y,J,r3,E⟩
 refine A6 ?_ g i
 clear g i p m
 rw[IJ] at E
 refine AI (AA O (AM O (kp [2] O) (A5 (λm p g i=>?_))))
 cases E
 exact Em g i O O J ⟨O,r3,y⟩
def HE (g:St S L h) {b:Int}(d:AH b) {a:Int}(c:AH a) {r:Bool}(E:Gj N b a=some r):
 DK prog 57 #[vI b,vI a] S h (λv S' h'=>v= .bool r∧St S' (L) h'):=by
 refine B0 (l:=[vI b,vI a]) 12 func57 O ntmps57 O λB=>?_
 rw[Gj] at E
 refine AI (AM O (kp [0,1] O) (AI (AA O (HY O (AA O (AW 4 11 (.bool ((decide (0≤b))&&(decide (b<a)))) ?_ ?_))))))
 ·cases k:(decide (0≤b))
  ·exact A4 O O
  exact AB O (AA O (AB O (AA O (AB O (BI O (AL O (AV O)))))))
 refine AM O (kp [4] O) (A5 (λm n i j=>?_))
 cases E
 exact Em i j O O (C9.refl S h) ⟨O,g⟩
def Ps (hs:St S L h) {t:Value}{m:AU}(ae:Rd S h C2 t m) {u:Value}{j:A7}(af:Rd S h DE u j) {r:Int×Bool}(E:Jp N m j=some r):
 DK prog 37 #[t,u] S h (λv S' h'=>v= .tuple #[vI r.1,.bool r.2]∧AH r.1∧St S' (L) h'):=by
 refine B0 (l:=[t,u]) 76 func37 O ntmps37 O λB=>?_
 rw[Jp] at E
 refine WF.sl (C3 O ae (λe=>by cases e) O hs λq1 S2 h3 bs e5 k6=>C3 O (af.mono e5) (λe=>by cases e) O bs λq8 S9 ar ai y a3=>AF 2 (A0 O (A0 O (AD (AZ (kp [3,2] O) (AI (AM O (kp [6,3,2] O) (AE (AI (A8 O a3 I0 EF O λcu bt=>BF Bu ai.1 O bt HO O λbu a4=>BE O a4 Fl O λcv=>AA O (AN (kp [15,14,13,6,3,2] O) (BH (λa w=>∃(V:Int),IV B S9 ar (76,[]) a w [(3,q8),(2,q1),(6,vI V)] (L) λ_ _=>AH V∧FP N m j V=some r) ?_ ?_))))))))))))
 ·refine BV (λn1=>λa w=>∃(K:Int) (W:Int),IV B S9 ar (76,[]) a w [(14,vI (↑j.F.length:Int)),(13,bu),(3,q8),(2,q1),(6,vI K),(15,vI W)] (L) λ_ _=>AH K∧AH W∧FO N m j (FP N m j) n1 K W=some r) N ?_ ?_ ?_
  ·intro p s b i
   exact⟨0,0,_,_,b.sub (kp [14,13,3,2,6,15] O),i,ai,(C9.refl S9 ar),(iq (n:=0) O),(iq (n:=0) O),E⟩
  ·rintro p s ⟨_,_,_,_,_,_,_,_,_,_,E⟩
   rw[FO] at E;cases E
  rintro n1 p s ⟨K,W,cw,cx,b,i,z,Q,bv,cy,E⟩
  refine A6 ?_ b i
  clear b i s p
  rw[FO] at E
  refine AI (BI O (AN (kp [16,14,13,3,2,6,15] O) (AE (AY O E (λbw E=>?_) (λbw E=>?_)))))
  ·refine AS (AE (BY (AI ?_)))
   obtain⟨cz,a5,E⟩:=bd E
   refine B1 O O (a4.mono' Q) Fl a5 O λc0 bx=>BF Bu z.1 O bx CH O λc1 a6=>AM O (kp [8,14,13,3,2,6,15] O) (AE (AE (Cn (.inl O) z (AA O (A8 O (k6.mono (y.trans Q)) Eq Ib O λc2 bz=>BF CQ z.1 O bz LA O λc3 b0=>BE O b0 Ku O λb1=>?_)))))
   obtain⟨c4,a7,E⟩:=bd E
   refine BU O O O dU O (λh' o=>NG (St.all h') (a6.mono' (o.all z.1)) (KY b1) a7) (CI O (B9 (kp [24,8,14,13,3,2,6,15] O) λc5 X ag=>AY O E (λb2 E=>?_) (λb2 E=>?_)))
   ·refine AI (A0 O (AM O (kp [5,4] O) (A5 (λp s b i=>?_))))
    cases E
    exact K5 b O i (JD (Jm b (v:=_) O) (JD (Jm b (v:=_) O) K4)) O (e5.trans (y.trans (Q.trans ag))) ⟨O,(iq (n:=0) O),X⟩
   refine AS (AE (Cn (.inl O) X (AA O (AA O ?_))))
   obtain⟨b3,a8,E⟩:=bd E
   refine DW O O O OC O (λh' o=>F7 (St.all h') ((a6.mono' ag).mono' (o.all X.1)) a8) λb4=>?_
   have c6:=b4
   refine A9 O (A0 O (B9 (kp [6,14,13,3,2,15] O) λc7 aj a9=>AI (AA O (CV O (AN (kp [30,6,14,13,3,2,15] O) (AY O E (λb5 E=>?_) (λb5 E=>?_)))))))
   ·refine AI (A0 O (AM O (kp [5,4] O) (A5 (λp s b i=>?_))))
    cases E
    exact K5 b O i (JD (Jm b (v:=_) O) (JD (Jm b (v:=_) O) K4)) O (e5.trans (y.trans (Q.trans (ag.trans a9)))) ⟨O,(iq (n:=0) O),aj⟩
   refine AS (B7 (CL (.inl O) (A9 O (AA O (AN (kp [15,6,14,13,3,2] O) (WF.nil (λp s b i=>?_)))))))
   exact⟨(Bw (K+b3)),(Bw (W+1)),_,_,b.sub (kp [14,13,3,2,6,15] O),i,aj,(Q.trans (ag.trans a9)),(B5 _),(B5 _),E⟩
  refine By O (λp s b i=>?_)
  exact⟨K,_,_,b.sub (kp [3,2,6] O),i,z,Q,bv,E⟩
 rintro p s ⟨V,au,av,b,i,ak,U,b6,E⟩
 refine A6 ?_ b i
 clear b i s p
 rw[FP] at E
 refine AE (AI ?_)
 have ba:=a3.mono U
 refine A8 O ba JZ Km O λc8 b7=>BF Bu ak.1 O b7 MD O λb8 bb=>BE O bb KZ O λc9=>AA O (AN (kp [35,34,33,3,2,6] O) (BH (λa w=>∃(ah:Int),IV B au av (76,[]) a w [(6,vI ah)] (L) λ_ _=>AH ah∧Hw N ah=some r) ?_ ?_))
 ·refine BV (λn3=>λa w=>∃(G:Int) (Y:Int),IV B au av (76,[]) a w [(34,vI (↑j.M.length:Int)),(33,b8),(3,q8),(2,q1),(6,vI G),(35,vI Y)] (L) λ_ _=>AH G∧AH Y∧GP N m j (Hw N) n3 G Y=some r) N ?_ ?_ ?_
  ·intro p s b i
   exact⟨V,0,_,_,b.sub (kp [34,33,3,2,6,35] O),i,ak,(C9.refl au av),b6,(iq (n:=0) O),E⟩
  ·rintro p s ⟨_,_,_,_,_,_,_,_,_,_,E⟩
   rw[GP] at E;cases E
  rintro n3 p s ⟨G,Y,da,db,b,i,Z,A,b9,dc,E⟩
  refine A6 ?_ b i
  clear b i s p
  rw[GP] at E
  refine AI (BI O (AN (kp [36,34,33,3,2,6,35] O) (AE (AY O E (λca E=>?_) (λca E=>?_)))))
  ·refine AS (AE (BY (WF.sl (AF 2 ?_))))
   obtain⟨ab,bc,E⟩:=bd E
   refine B1 O O (bb.mono' A) KZ bc O λdd cb=>Cq Bu Z.1 O cb Lq (λe=>by cases e) O λde cc=>AD (Di Ri O Z λdf dg be H=>?_)
   obtain⟨am,rfl,ce,bf,ac⟩:=BJ.ex (cc.mono H)
   refine Ht (vs:=[vI ab.Ak,vI ab.C,am]) (cs':=[vI ab.Ak,vI ab.C,am]) O O O (AC O (AC O (AC ac.one Es))) Lq O be .head O O λcf c k=>AZ (kp [10,34,33,3,2,6,35] O) (AE (AE (Cn (.inl O) c (AG O0 O (AT CQ c O mh O BA O (A8 O (ba.mono (A.trans (H.trans k))) A7.f_Hour Jc O λcg bg=>BC CQ c.1 O bg BA O λch=>BI O (AA O ?_)))))))
   obtain⟨an,d,E⟩:=bd E
   refine AW 8 52 (.bool an) ?_ ?_
   ·cases ao:(decide (ab.Ak<j.D))
    ·have d:=Hj ao d
     refine AB O (AG Lw O (AB O (AT CQ c O mh O BA O (AB O (A8 O (k6.mono (y.trans (U.trans (A.trans (H.trans k))))) B8 D1 O λci bh=>AB O (BF CQ c.1 O bh G7 O λcj bi=>AB O (BE O bi GL O λbj=>AB O ?_)))))))
     obtain⟨ck,aw,d⟩:=bd d
     refine BU O O O Pn O (λh' o=>HE (St.all h') bf (KY bj) aw) (AB O (CI O (AL O ?_)))
     cases d
     exact AV O
    have d:=Hi ao d
    cases d
    exact A4 O O
   refine AA O ?_
   obtain⟨bk,g,E⟩:=bd E
   refine AW 8 61 (.bool bk) ?_ ?_
   ·cases ap:an
    ·have g:=Hj ap g
     refine AB O (AG Lv O (AB O (AT CQ c O mh O CH O (AB O (A8 O (k6.mono (y.trans (U.trans (A.trans (H.trans k))))) Eq Ib O λcl bl=>AB O (BF CQ c.1 O bl LA O λcm bm=>AB O (BE O bm Ku O λbn=>AB O ?_)))))))
     obtain⟨cn,ax,g⟩:=bd g
     refine BU O O O dU O (λh' o=>NG (St.all h') ((ac.mono' k).mono' (o.all c.1)) (KY bn) ax) (AB O (CI O (AL O ?_)))
     cases g
     exact AV O
    have g:=Hi ap g
    cases g
    exact A4 O O
   refine B9 (kp [61,10,34,33,3,2,6,35] O) λco x I=>AY O E (λbo E=>?_) (λbo E=>?_)
   ·refine AI (A0 O (AM O (kp [5,4] O) (A5 (λp s b i=>?_))))
    have ay:=x.drop .head
    cases E
    exact K5 b O i (JD (Jm b (v:=_) O) (JD (Jm b (v:=_) O) K4)) O (e5.trans (y.trans (U.trans (A.trans (H.trans (k.trans I)))))) ⟨O,(iq (n:=0) O),ay⟩
   refine AS (AE (Cn (.inl O) x (AG Lv O (AT CQ x O mh O CH O ?_))))
   obtain⟨J,az,E⟩:=bd E
   refine DW O O O OC O (λh' o=>F7 (St.all h') ((ac.mono' (k.trans I)).mono' (o.all x.1)) az) λbp=>?_
   have cp:=bp
   refine A0 O (B9 (kp [11,34,33,3,2,6,35] O) λcq ad aq=>AI (AA O (AA O (A9 O (AM O (kp [6,11,34,33,3,2,35] O) (AI (AA O (HX O (AA O (AW 3 73 (.bool ((decide (J≤0))||(decide (1125899906842624<(Bw (G+J)))))) ?_ ?_))))))))))
   ·cases cr:(decide (J≤0))
    ·exact AB O (AA O (AB O (CV O (AL O (AV O)))))
    exact A4 O O
   refine AN (kp [73,6,34,33,3,2,35] O) (AY O E (λbq E=>?_) (λbq E=>?_))
   ·refine AI (A0 O (AM O (kp [5,4] O) (A5 (λp s b i=>?_))))
    have a0:=ad.drop .head
    cases E
    exact K5 b O i (JD (Jm b (v:=_) O) (JD (Jm b (v:=_) O) K4)) O (e5.trans (y.trans (U.trans (A.trans (H.trans (k.trans (I.trans aq))))))) ⟨O,(iq (n:=0) O),a0⟩
   refine AS (B7 (CL (.inl O) (A9 O (AA O (AN (kp [35,6,34,33,3,2] O) (WF.nil (λp s b i=>?_)))))))
   have a1:=ad.drop .head
   exact⟨(Bw (G+J)),(Bw (Y+1)),_,_,b.sub (kp [34,33,3,2,6,35] O),i,a1,(A.trans (H.trans (k.trans (I.trans aq)))),(B5 _),(B5 _),E⟩
  refine By O (λp s b i=>?_)
  exact⟨G,_,_,b.sub (kp [6] O),i,Z,A,b9,E⟩
 rintro p s ⟨ah,cs,ct,b,i,a2,br,cd,E⟩
 refine A6 ?_ b i
 clear b i s p
 rw[Hw] at E
 refine AI (AA O (A0 O (AM O (kp [5,4] O) (A5 (λp s b i=>?_)))))
 cases E
 exact K5 b O i (JD (Jm b (v:=_) O) (JD (Jm b (v:=_) O) K4)) O (e5.trans (y.trans (U.trans br))) ⟨O,cd,a2⟩
end Go.Proofs.YtblcgjadhemlbaaGreat
