import Derived.Test.YtibidnaedddfdaaGreatDWalk3
namespace Go.Proofs.YtibidnaedddfdaaGreat
set_option linter.all false
open Go.RowKit
open Go.Proofs.Tryz
set_option maxRecDepth 10000
set_option maxHeartbeats 2000000
variable {N:Nat}{S:Nat→Prop}{L:List HP}{h:BB}
def Le (hs:St S L h) {d:Value}{a:A7}(j:Rd S h CI d a) {r:Bool}(E:Eu N a=some r):
 Ct prog 94 #[d] S h (λv S' h'=>v= .bool r∧St S' (L) h'):=by
 refine BO (l:=[d]) 112 func94 O ntmps94 O λB=>?_
 rw[Eu] at E
 refine WF.sl (BM O j (λe=>by cases e) O hs λq1 S2 h3 b k c=>A5 1 (A4 O (A6 (AS (kp [1] O) (AE (AV O c A7.f_Kind E6 O λq7 k8=>AY BX b.1 O k8 AZ O λr9=>CR O (AJ O (kp [3,1] O) (AC (AE (AA O (BT O (AA O (AO 24 33 (.bool ((!(decide (a.C=0)))&&((((decide (0<(↑a.Af.length:Int)))||(decide (0<(↑a.U.B.length:Int))))||(decide (0<(↑a.U.A.length:Int))))||(decide (a.Ad≠0))))) ?_ ?_)))))))))))))
 ·cases ak:(!(decide (a.C=0)))
  ·exact AX O O
  refine AB O (AV O c Jt L3 O λal o=>AB O (BR BX b.1 O o Hs O λam p=>AB O (BJ O p He O λan=>AB O (CN O (AB O (AA O (AO 6 20 (.bool ((decide (0<(↑a.Af.length:Int)))||(decide (0<(↑a.U.B.length:Int))))) ?_ ?_)))))))
  ·cases ao:(decide (0<(↑a.Af.length:Int)))
   ·exact AB O (AV O c G2 IM O λap s=>AB O (AV O s KJ.f_Lo L5 O λaq t=>AB O (BR BX b.1 O t Hs O λar u=>AB O (BJ O u He O λau=>AB O (CN O (AB O (AI O (AN O))))))))
   exact AX O O
  refine AB O (AA O (AO 6 27 (.bool (((decide (0<(↑a.Af.length:Int)))||(decide (0<(↑a.U.B.length:Int))))||(decide (0<(↑a.U.A.length:Int))))) ?_ ?_))
  ·cases av:((decide (0<(↑a.Af.length:Int)))||(decide (0<(↑a.U.B.length:Int))))
   ·exact AB O (AV O c G2 IM O λaw w=>AB O (AV O w KJ.f_Hi L4 O λax x=>AB O (BR BX b.1 O x Hs O λay y=>AB O (BJ O y He O λaz=>AB O (CN O (AB O (AI O (AN O))))))))
   exact AX O O
  refine AB O (AA O (AO 4 32 (.bool ((((decide (0<(↑a.Af.length:Int)))||(decide (0<(↑a.U.B.length:Int))))||(decide (0<(↑a.U.A.length:Int))))||(decide (a.Ad≠0)))) ?_ ?_))
  ·cases a0:(((decide (0<(↑a.Af.length:Int)))||(decide (0<(↑a.U.B.length:Int))))||(decide (0<(↑a.U.A.length:Int))))
   ·exact AB O (AV O c LI Pa O λa1 z=>AB O (AY BX b.1 O z AZ O λa2=>AB O (Cq O (AB O (AI O (AN O))))))
   exact AX O O
  exact AI O (AN O)
 refine AL (kp [33,3,1] O) (AW O E (λD E=>?_) (λD E=>?_))
 ·refine AE (AJ O (kp [2] O) (WF.ret (λm n g i=>?_)))
  cases E
  exact EU g i O O k ⟨O,b⟩
 refine AQ (AC (AE (AA O (BT O (AA O (AO 4 40 (.bool ((!(decide (a.C=0)))&&(decide (a.C≠2)))) ?_ ?_))))))
 ·cases a3:(!(decide (a.C=0)))
  ·exact AX O O
  exact AB O (AV O c A7.f_Kind E6 O λa4 F=>AB O (AY BX b.1 O F AZ O λa5=>AB O (Cq O (AI O (AN O)))))
 refine AA O (AO 9 50 (.bool (((!(decide (a.C=0)))&&(decide (a.C≠2)))&&((decide (a.Q≠0))||(decide (a.Ab≠0))))) ?_ ?_)
 ·cases a6:((!(decide (a.C=0)))&&(decide (a.C≠2)))
  ·exact AX O O
  refine AB O (AV O c DD Hg O λa7 G=>AB O (AY BX b.1 O G AZ O λa8=>AB O (Cq O (AB O (AA O (AO 4 49 (.bool ((decide (a.Q≠0))||(decide (a.Ab≠0)))) ?_ ?_))))))
  ·cases a9:(decide (a.Q≠0))
   ·exact AB O (AV O c G6 J2 O λba I=>AB O (AY BX b.1 O I AZ O λbb=>AB O (Cq O (AB O (AI O (AN O))))))
   exact AX O O
  exact AI O (AN O)
 refine AL (kp [50,3,1] O) (AW O E (λJ E=>?_) (λJ E=>?_))
 ·refine AE (AJ O (kp [2] O) (WF.ret (λm n g i=>?_)))
  cases E
  exact EU g i O O k ⟨O,b⟩
 refine AQ (AC (AE (AV O c A7.f_Kind E6 O λbc K=>AY BX b.1 O K AZ O λbe=>Cq O (AA O (AO 4 58 (.bool ((decide (a.C≠1))&&(decide (a.C≠5)))) ?_ ?_)))))
 ·cases bf:(decide (a.C≠1))
  ·exact AX O O
  exact AB O (AV O c A7.f_Kind E6 O λbg M=>AB O (AY BX b.1 O M AZ O λbh=>AB O (Cq O (AI O (AN O)))))
 refine AA O (AO 4 63 (.bool (((decide (a.C≠1))&&(decide (a.C≠5)))&&(decide (a.O≠0)))) ?_ ?_)
 ·cases bi:((decide (a.C≠1))&&(decide (a.C≠5)))
  ·exact AX O O
  exact AB O (AV O c A7.f_Crest PZ O λbj V=>AB O (AY BX b.1 O V AZ O λbk=>AB O (Cq O (AI O (AN O)))))
 refine AL (kp [63,3,1] O) (AW O E (λW E=>?_) (λW E=>?_))
 ·refine AE (AJ O (kp [2] O) (WF.ret (λm n g i=>?_)))
  cases E
  exact EU g i O O k ⟨O,b⟩
 refine AQ (AC (AE (AA O (AA O (AO 4 69 (.bool ((decide (a.C=0))&&(decide (a.N≠0)))) ?_ ?_)))))
 ·cases bl:(decide (a.C=0))
  ·exact AX O O
  exact AB O (AV O c A7.f_Num HL O λbm X=>AB O (AY BX b.1 O X AZ O λbn=>AB O (Cq O (AI O (AN O)))))
 refine AA O (AO 12 82 (.bool (((decide (a.C=0))&&(decide (a.N≠0)))||(((decide (a.C=0))||(decide (a.C=2)))&&(decide (a.H≠0))))) ?_ ?_)
 ·cases bo:((decide (a.C=0))&&(decide (a.N≠0)))
  ·refine AB O (AA O (AB O (AA O (AO 4 76 (.bool ((decide (a.C=0))||(decide (a.C=2)))) ?_ ?_))))
   ·cases bp:(decide (a.C=0))
    ·exact AB O (AV O c A7.f_Kind E6 O λbq Z=>AB O (AY BX b.1 O Z AZ O λbr=>AB O (CR O (AB O (AI O (AN O))))))
    exact AX O O
   refine AB O (AA O (AO 4 81 (.bool (((decide (a.C=0))||(decide (a.C=2)))&&(decide (a.H≠0)))) ?_ ?_))
   ·cases bs:((decide (a.C=0))||(decide (a.C=2)))
    ·exact AX O O
    exact AB O (AV O c A7.f_Den IE O λbt ab=>AB O (AY BX b.1 O ab AZ O λbu=>AB O (Cq O (AB O (AI O (AN O))))))
   exact AI O (AN O)
  exact AX O O
 refine AL (kp [82,3,1] O) (AW O E (λac E=>?_) (λac E=>?_))
 ·refine AE (AJ O (kp [2] O) (WF.ret (λm n g i=>?_)))
  cases E
  exact EU g i O O k ⟨O,b⟩
 refine AQ (AC (AE (AV O c A7.f_Kind E6 O λbv ad=>AY BX b.1 O ad AZ O λbw=>Cq O (AA O (AO 9 95 (.bool ((decide (a.C≠3))&&((decide (a.Ak≠0))||(decide (a.Ae≠0))))) ?_ ?_)))))
 ·cases bx:(decide (a.C≠3))
  ·exact AX O O
  refine AB O (AV O c JN MX O λbz ae=>AB O (AY BX b.1 O ae AZ O λb0=>AB O (Cq O (AB O (AA O (AO 4 94 (.bool ((decide (a.Ak≠0))||(decide (a.Ae≠0)))) ?_ ?_))))))
  ·cases b1:(decide (a.Ak≠0))
   ·exact AB O (AV O c G7 JA O λb2 af=>AB O (AY BX b.1 O af AZ O λb3=>AB O (Cq O (AB O (AI O (AN O))))))
   exact AX O O
  exact AI O (AN O)
 refine AL (kp [95,3,1] O) (AW O E (λag E=>?_) (λag E=>?_))
 ·refine AE (AJ O (kp [2] O) (WF.ret (λm n g i=>?_)))
  cases E
  exact EU g i O O k ⟨O,b⟩
 refine AQ (AE (AA O (AA O (AO 4 101 (.bool ((decide (a.C=0))||(decide (a.C=4)))) ?_ ?_))))
 ·cases b4:(decide (a.C=0))
  ·exact AB O (AV O c A7.f_Kind E6 O λb5 ah=>AB O (AY BX b.1 O ah AZ O λb6=>AB O (CR O (AI O (AN O)))))
  exact AX O O
 refine AA O (AO 9 111 (.bool (((decide (a.C=0))||(decide (a.C=4)))||((decide (a.Aa=0))&&(decide (a.Y=0))))) ?_ ?_)
 ·cases b7:((decide (a.C=0))||(decide (a.C=4)))
  ·refine AB O (AV O c Hn I9 O λb8 ai=>AB O (AY BX b.1 O ai AZ O λb9=>AB O (CR O (AB O (AA O (AO 4 110 (.bool ((decide (a.Aa=0))&&(decide (a.Y=0)))) ?_ ?_))))))
   ·cases ca:(decide (a.Aa=0))
    ·exact AX O O
    exact AB O (AV O c Gr Il O λcb aj=>AB O (AY BX b.1 O aj AZ O λcc=>AB O (CR O (AB O (AI O (AN O))))))
   exact AI O (AN O)
  exact AX O O
 refine AJ O (kp [2] O) (WF.ret (λm n g i=>?_))
 cases E
 exact EU g i O O k ⟨O,b⟩
def MD (hs:St S L h) {p:Value}{u:AU}(G:Rd S h Ch p u) {r:Bool}(E:EY N u=some r):
 Ct prog 39 #[p] S h (λv S' h'=>v= .bool r∧St S' (L) h'):=by
 refine BO (l:=[p]) 51 func39 O ntmps39 O λB=>?_
 rw[EY] at E
 refine WF.sl (BM O G (λe=>by cases e) O hs λq1 S2 h3 am e5 k6=>A5 1 (A4 O (A6 (AS (kp [1] O) (AC (AE (AV O k6 AU.f_Links Gu O λq7 k8=>BR BX am.1 O k8 JP O λv9 an=>BJ O an Ht O λbx=>AA O (AL (kp [8,7,6,1] O) (BG (λa w=>IV B S2 h3 (51,[]) a w [] (L) λ_ _=>DM N=some r) ?_ ?_)))))))))
 ·refine Bt (λn1=>λa w=>∃(z:Int),IV B S2 h3 (51,[]) a w [(7,vI (↑u.F.length:Int)),(6,v9),(1,q1),(8,vI z)] (L) λ_ _=>AD z∧Cd N u (DM N) n1 z=some r) N ?_ ?_ ?_
  ·intro K M s t
   exact⟨0,_,_,s.sub (kp [7,6,1,8] O),t,am,(Cm.refl S2 h3),(iq (n:=0) O),E⟩
  ·rintro K M ⟨_,_,_,_,_,_,_,_,E⟩
   rw[Cd] at E;cases E
  rintro n1 K M ⟨z,bz,b0,s,t,A,y,b1,E⟩
  refine A8 ?_ s t
  clear s t M K
  rw[Cd] at E
  refine AE (BE O (AL (kp [9,7,6,1,8] O) (AC (AW O E (λbl E=>?_) (λbl E=>?_)))))
  ·refine AQ (AC (BW (WF.sl (A5 2 ?_))))
   obtain⟨b,ao,E⟩:=bd E
   refine B6 O O (an.mono' y) Ht ao O λb2 bm=>BP BX A.1 O bm FC (λe=>by cases e) O λb3 bn=>A6 (CX Mx O A λb4 b5 ap D=>?_)
   obtain⟨U,W,X,rfl,aq,ac,Z,ad,ae,af,ag,ar,au,av,aw,ax,ay,az,a0,a1,a2,ah⟩:=CI.ex (bn.mono D)
   refine IR (vs:=[.string b.J,vI b.C,vI b.I,vI b.E,U,W,X,vI b.Q,vI b.Ab,vI b.Ad,vI b.O,vI b.N,vI b.H,vI b.Ak,vI b.Ae,vI b.Aa,vI b.Y,vI b.V]) (cs':=[.string b.J,vI b.C,vI b.I,vI b.E,U,W,X,vI b.Q,vI b.Ab,vI b.Ad,vI b.O,vI b.N,vI b.H,vI b.Ak,vI b.Ae,vI b.Aa,vI b.Y,vI b.V]) O O O (AG O (AG O (AG O (AG O (AG ae.one (AG af.one (AG ag.one (AG O (AG O (AG O (AG O (AG O (AG O (AG O (AG O (AG O (AG O (AG O GJ)))))))))))))))))) FC O ap .head O O λb6 c m=>AS (kp [4,7,6,1,8] O) (AC (WF.rc (.inl O) c (AF E6 O (AT Bs c O mh O AZ O ?_))))
   obtain⟨bo,a3,E⟩:=bd E
   refine BL O O O HV O (λh' o=>CH (St.all h') ac (iq (n:=0) O) (iq (n:=5) O) a3) (BT O (AA O ?_))
   obtain⟨a4,d,E⟩:=bd E
   refine AO 8 24 (.bool a4) ?_ ?_
   ·cases a5:(!bo)
    ·have d:=GY a5 d
     refine AB O (AF H1 O (AB O (AT Bs c O mh O AZ O (AB O (AV O (k6.mono (y.trans (D.trans m))) CC En O λb7 bp=>AB O (BR Bs c.1 O bp HD O λb8 bq=>AB O (BJ O bq Ga O λbr=>AB O ?_)))))))
     obtain⟨b9,a6,d⟩:=bd d
     refine BL O O O Ph O (λh' o=>GE (St.all h') Z (LW br) a6) (AB O (BT O (AI O ?_)))
     cases d
     exact AN O
    have d:=GX a5 d
    cases d
    exact AX O O
   refine AA O ?_
   obtain⟨a7,g,E⟩:=bd E
   refine AO 8 33 (.bool a7) ?_ ?_
   ·cases a8:a4
    ·have g:=GY a8 g
     refine AB O (BP Bs c.1 O (k6.mono (y.trans (D.trans m))) Hc (λe=>by cases e) O λca bs=>AB O (AF H1 O (AB O (AT Bs c O mh O AZ O (AB O (AF Gb O (AB O (AT Bs c O mh O AZ O (AB O ?_)))))))))
     obtain⟨cb,a9,g⟩:=bd g
     refine BL O O O Y5 O (λh' o=>Kq (St.all h') (bs.mono (o.all c.1)) Z ad a9) (AB O (BT O (AI O ?_)))
     cases g
     exact AN O
    have g:=GX a8 g
    cases g
    exact AX O O
   refine AA O ?_
   obtain⟨ba,i,E⟩:=bd E
   refine AO 5 39 (.bool ba) ?_ ?_
   ·cases bb:a7
    ·have i:=GY bb i
     refine AB O (AF MW O (AB O (AT Bs c O mh O AZ O (AB O ?_))))
     obtain⟨cc,bc,i⟩:=bd i
     refine BL O O O HV O (λh' o=>CH (St.all h') ah (iq (n:=0) O) (iq (n:=240) O) bc) (AB O (BT O (AI O ?_)))
     cases i
     exact AN O
    have i:=GX bb i
    cases i
    exact AX O O
   refine AA O ?_
   obtain⟨be,j,E⟩:=bd E
   refine AO 4 44 (.bool be) ?_ ?_
   ·cases bf:ba
    ·have j:=GY bf j
     refine AB O (Cw (vs:=[.string b.J,vI b.C,vI b.I,vI b.E,U,W,X,vI b.Q,vI b.Ab,vI b.Ad,vI b.O,vI b.N,vI b.H,vI b.Ak,vI b.Ae,vI b.Aa,vI b.Y,vI b.V]) Bs c O mh O O FC O O (AB O ?_))
     obtain⟨cd,bg,j⟩:=bd j
     refine BL O O O eA O (λh' o=>Li (St.all h') (CI.mk (x:=b) aq ac Z ad ((ae.mono' m).mono' (o.all c.1)) ((af.mono' m).mono' (o.all c.1)) ((ag.mono' m).mono' (o.all c.1)) ar au av aw ax ay az a0 a1 a2 ah) bg) (AB O (BT O (AI O ?_)))
     cases j
     exact AN O
    have j:=GX bf j
    cases j
    exact AX O O
   refine AA O ?_
   obtain⟨bt,k,E⟩:=bd E
   refine AO 4 49 (.bool bt) ?_ ?_
   ·cases bh:be
    ·have k:=GY bh k
     refine AB O (Cw (vs:=[.string b.J,vI b.C,vI b.I,vI b.E,U,W,X,vI b.Q,vI b.Ab,vI b.Ad,vI b.O,vI b.N,vI b.H,vI b.Ak,vI b.Ae,vI b.Aa,vI b.Y,vI b.V]) Bs c O mh O O FC O O (AB O ?_))
     obtain⟨ce,bi,k⟩:=bd k
     refine BL O O O dZ O (λh' o=>Le (St.all h') (CI.mk (x:=b) aq ac Z ad ((ae.mono' m).mono' (o.all c.1)) ((af.mono' m).mono' (o.all c.1)) ((ag.mono' m).mono' (o.all c.1)) ar au av aw ax ay az a0 a1 a2 ah) bi) (AB O (BT O (AI O ?_)))
     cases k
     exact AN O
    have k:=GX bh k
    cases k
    exact AX O O
   refine Bu (kp [49,7,6,1,8] O) λcf ab bj=>AW O E (λbu E=>?_) (λbu E=>?_)
   ·refine AE (AJ O (kp [2] O) (WF.ret (λK M s t=>?_)))
    have ai:=ab.drop .head
    cases E
    exact EU s t O O (e5.trans (y.trans (D.trans (m.trans bj)))) ⟨O,ai⟩
   refine AQ (B0 (CL (.inl O) (BD O (AA O (AL (kp [8,7,6,1] O) (WF.nil (λK M s t=>?_)))))))
   have aj:=ab.drop .head
   exact⟨(B8 (z+1)),_,_,s.sub (kp [7,6,1,8] O),t,aj,(y.trans (D.trans (m.trans bj))),(CJ _),E⟩
  refine WF.exit O (λK M s t=>?_)
  exact⟨_,_,s.sub Kv,t,A,y,E⟩
 rintro K M ⟨bv,bw,s,t,ak,bk,E⟩
 refine A8 ?_ s t
 clear s t M K
 rw[DM] at E
 refine AE (AJ O (kp [2] O) (WF.ret (λK M s t=>?_)))
 cases E
 exact EU s t O O (e5.trans bk) ⟨O,ak⟩
def ME (x:St S L h) {b:Value}{j:AU}(d:Rd S h Ch b j) {a:Int}(g:AD a) {c:Int}(m:AD c) {r:Bool}(E:IF N j a c=some r):
 Ct prog 95 #[b,vI a,vI c] S h (λv S' h'=>v= .bool r∧St S' (L) h'):=by
 refine BO (l:=[b,vI a,vI c]) 27 func95 O ntmps95 O λB=>?_
 rw[IF] at E
 refine WF.sl (BM O d (λe=>by cases e) O x λK M Q i w y=>A5 1 (A4 O (A6 (AS (kp [3,1,2] O) (AC (AE (AA O (CR O (AL (kp [9,3,1,2] O) (AW O E (λz E=>?_) (λz E=>?_)))))))))))
 ·refine AE (AA O (CR O (AJ O (kp [6] O) (WF.ret (λA C o p=>?_)))))
  cases E
  exact EU o p O O w ⟨O,i⟩
 refine AQ (AE (AV O y CC En O λU D=>BR BX i.1 O D HD O λF s=>AA O ?_))
 obtain⟨k,n,E⟩:=bd E
 refine B6 O O s Ga n O λG t=>AV O t Hm K4 O λH u=>AY BX i.1 O u AZ O λI=>AJ O (kp [7,1] O) (AE (AA O (AA O (CR O (AA O (AO 5 26 (.bool ((decide (k.Aj=a))||(decide (k.Aj=(B8 (a+1)))))) ?_ ?_))))))
 ·cases J:(decide (k.Aj=a))
  ·exact AB O (AA O (AB O (AA O (AB O (BD O (AB O (CR O (AI O (AN O)))))))))
  exact AX O O
 refine AJ O (kp [6] O) (WF.ret (λA C o p=>?_))
 cases E
 exact EU o p O O w ⟨O,i⟩
def K9 (hs:St S L h) {p:Value}{m:AU}(X:Rd S h Ch p m) {r:Bool}(E:F5 N m=some r):
 Ct prog 40 #[p] S h (λv S' h'=>v= .bool r∧St S' (L) h'):=by
 refine BO (l:=[p]) 60 func40 O ntmps40 O λB=>?_
 rw[F5] at E
 refine WF.sl (BM O X (λe=>by cases e) O hs λq1 S2 h3 ax e5 k6=>A5 1 (A4 O (A6 (AS (kp [1] O) (AC (AE (AV O k6 CC En O λq7 k8=>BR BX ax.1 O k8 HD O λv9 ay=>BJ O ay Ga O λc3=>AA O (AL (kp [11,10,9,1] O) (BG (λa w=>IV B S2 h3 (60,[]) a w [(1,q1)] (L) λ_ _=>DR N m=some r) ?_ ?_)))))))))
 ·refine Bt (λn1=>λa w=>∃(x:Int),IV B S2 h3 (60,[]) a w [(10,vI (↑m.D.length:Int)),(9,v9),(1,q1),(11,vI x)] (L) λ_ _=>AD x∧DQ N m (DR N m) n1 x=some r) N ?_ ?_ ?_
  ·intro s t j k
   exact⟨0,_,_,j.sub (kp [10,9,1,11] O),k,ax,(Cm.refl S2 h3),(iq (n:=0) O),E⟩
  ·rintro s t ⟨_,_,_,_,_,_,_,_,E⟩
   rw[DQ] at E;cases E
  rintro n1 s t ⟨x,c4,c5,j,k,y,z,c6,E⟩
  refine A8 ?_ j k
  clear j k t s
  rw[DQ] at E
  refine AE (BE O (AL (kp [12,10,9,1,11] O) (AC (AW O E (λbv E=>?_) (λbv E=>?_)))))
  ·refine AQ (AC (BW (WF.sl (A5 2 ?_))))
   obtain⟨d,az,E⟩:=bd E
   refine B6 O O (ay.mono' z) Ga az O λc7 bw=>BP BX y.1 O bw KO (λe=>by cases e) O λc8 bx=>A6 (CX QG O y λc9 da a0 Z=>?_)
   obtain⟨a1,a2,a3,rfl,db,dc,bz,dd,b0,b1,de,df,b2,dg,dh,b3⟩:=Cb.ex (bx.mono Z)
   refine IR (vs:=[.string d.J,vI d.C,vI d.Aj,vI d.Ag,a1,a2,vI d.N,vI d.H,vI d.Ao,vI d.V,vI d.Ax,a3]) (cs':=[.string d.J,vI d.C,vI d.Aj,vI d.Ag,a1,a2,vI d.N,vI d.H,vI d.Ao,vI d.V,vI d.Ax,a3]) O O O (AG O (AG O (AG O (AG O (AG b0.one (AG b1.one (AG O (AG O (AG O (AG O (AG O (AG b3.one GJ)))))))))))) KO O a0 .head O O λdi u ak=>AS (kp [4,10,9,1,11] O) (AC (WF.rc (.inl O) u (BP Bs u.1 O (k6.mono (z.trans (Z.trans ak))) Hc (λe=>by cases e) O λdj b4=>AF K4 O (AT Bs u O mh O AZ O (AF O0 O (AT Bs u O mh O AZ O ?_))))))
   obtain⟨dk,a4,E⟩:=bd E
   refine BL O O O Y4 O (λh' o=>ME (St.all h') (b4.mono (o.all u.1)) bz b2 a4) (BT O (Bu (kp [21,10,9,1,11] O) λdl ac a5=>AW O E (λb5 E=>?_) (λb5 E=>?_)))
   ·refine AE (AJ O (kp [2] O) (WF.ret (λs t j k=>?_)))
    have a6:=ac.drop .head
    cases E
    exact EU j k O O (e5.trans (z.trans (Z.trans (ak.trans a5)))) ⟨O,a6⟩
   refine AQ (B0 (CL (.inl O) (BD O (AA O (AL (kp [11,10,9,1] O) (WF.nil (λs t j k=>?_)))))))
   have a7:=ac.drop .head
   exact⟨(B8 (x+1)),_,_,j.sub (kp [10,9,1,11] O),k,a7,(z.trans (Z.trans (ak.trans a5))),(CJ _),E⟩
  refine WF.exit O (λs t j k=>?_)
  exact⟨_,_,j.sub (kp [1] O),k,y,z,E⟩
 rintro s t ⟨am,an,j,k,ad,ao,E⟩
 refine A8 ?_ j k
 clear j k t s
 rw[DR] at E
 refine AC (AE ?_)
 have a8:=k6.mono ao
 refine AV O a8 AU.f_Links Gu O λdm b6=>BR BX ad.1 O b6 JP O λb7 a9=>BJ O a9 Ht O λdn=>AA O (AL (kp [26,25,24,1] O) (BG (λa w=>IV B am an (60,[]) a w [] (L) λ_ _=>ET N=some r) ?_ ?_))
 ·refine Bt (λn3=>λa w=>∃(A:Int),IV B am an (60,[]) a w [(25,vI (↑m.F.length:Int)),(24,b7),(1,q1),(26,vI A)] (L) λ_ _=>AD A∧DP N m (ET N) n3 A=some r) N ?_ ?_ ?_
  ·intro s t j k
   exact⟨0,_,_,j.sub (kp [25,24,1,26] O),k,ad,(Cm.refl am an),(iq (n:=0) O),E⟩
  ·rintro s t ⟨_,_,_,_,_,_,_,_,E⟩
   rw[DP] at E;cases E
  rintro n3 s t ⟨A,dp,dq,j,k,G,K,dr,E⟩
  refine A8 ?_ j k
  clear j k t s
  rw[DP] at E
  refine AE (BE O (AL (kp [27,25,24,1,26] O) (AC (AW O E (λb8 E=>?_) (λb8 E=>?_)))))
  ·refine AQ (AC (BW (WF.sl (A5 2 ?_))))
   obtain⟨b,ba,E⟩:=bd E
   refine B6 O O (a9.mono' K) Ht ba O λds b9=>BP BX G.1 O b9 FC (λe=>by cases e) O λdt ca=>A6 (CX Mx O G λdu dv bb ab=>?_)
   obtain⟨ae,af,ag,rfl,dw,dx,dy,cb,bc,be,bf,cc,cd,ce,cf,cg,ch,ci,cj,ck,cl,cm⟩:=CI.ex (ca.mono ab)
   refine IR (vs:=[.string b.J,vI b.C,vI b.I,vI b.E,ae,af,ag,vI b.Q,vI b.Ab,vI b.Ad,vI b.O,vI b.N,vI b.H,vI b.Ak,vI b.Ae,vI b.Aa,vI b.Y,vI b.V]) (cs':=[.string b.J,vI b.C,vI b.I,vI b.E,ae,af,ag,vI b.Q,vI b.Ab,vI b.Ad,vI b.O,vI b.N,vI b.H,vI b.Ak,vI b.Ae,vI b.Aa,vI b.Y,vI b.V]) O O O (AG O (AG O (AG O (AG O (AG bc.one (AG be.one (AG bf.one (AG O (AG O (AG O (AG O (AG O (AG O (AG O (AG O (AG O (AG O (AG O GJ)))))))))))))))))) FC O bb .head O O λcn c M=>AS (kp [6,25,24,1,26] O) (AE ?_)
   have U:=a8.mono (K.trans (ab.trans M))
   refine AV O U CC En O λco bg=>BR BX c.1 O bg HD O λcp bh=>AF H1 O (AT BX c O mh O AZ O ?_)
   obtain⟨cq,ap,E⟩:=bd E
   refine B6 O O bh Ga ap O λcr bi=>AV O bi Hm K4 O λcs bj=>AY BX c.1 O bj AZ O λbk=>AJ O (kp [7,6,25,24,1,26] O) (AC (WF.rc (.inl O) c (BP Bs c.1 O U Hc (λe=>by cases e) O λct bl=>AA O (AF Gb O (AT Bs c O mh O AZ O ?_)))))
   obtain⟨bm,aq,E⟩:=bd E
   refine BL O O O Y4 O (λh' o=>ME (St.all h') (bl.mono (o.all c.1)) bk cb aq) (BT O (AA O ?_))
   obtain⟨bn,g,E⟩:=bd E
   refine AO 15 58 (.bool bn) ?_ ?_
   ·cases ah:(!bm)
    ·have g:=GY ah g
     refine AB O (AF E6 O (AB O (AT Bs c O mh O AZ O (AB O (CR O (AB O (AA O ?_)))))))
     obtain⟨bo,i,g⟩:=bd g
     refine AO 10 57 (.bool bo) ?_ ?_
     ·cases ai:(decide (b.C=4))
      ·have i:=GY ai i
       cases i
       exact AX O O
      have i:=GX ai i
      refine AB O (AV O U CC En O λcu bp=>AB O (BR Bs c.1 O bp HD O λcv bq=>AB O (AF Gb O (AB O (AT Bs c O mh O AZ O (AB O ?_))))))
      obtain⟨cw,ar,i⟩:=bd i
      refine B6 O O bq Ga ar O λcx br=>AB O (AV O br Hm K4 O λcy bs=>AB O (AY Bs c.1 O bs AZ O λcz=>AB O (AA O (AB O (Cq O (AB O (AI O ?_)))))))
      cases i
      exact AN O
     refine AI O ?_
     cases g
     exact AN O
    have g:=GX ah g
    cases g
    exact AX O O
   refine Bu (kp [58,25,24,1,26] O) λc0 W aj=>AW O E (λbt E=>?_) (λbt E=>?_)
   ·refine AE (AJ O (kp [2] O) (WF.ret (λs t j k=>?_)))
    have au:=W.drop .head
    cases E
    exact EU j k O O (e5.trans (ao.trans (K.trans (ab.trans (M.trans aj))))) ⟨O,au⟩
   refine AQ (B0 (CL (.inl O) (BD O (AA O (AL (kp [26,25,24,1] O) (WF.nil (λs t j k=>?_)))))))
   have av:=W.drop .head
   exact⟨(B8 (A+1)),_,_,j.sub (kp [25,24,1,26] O),k,av,(K.trans (ab.trans (M.trans aj))),(CJ _),E⟩
  refine WF.exit O (λs t j k=>?_)
  exact⟨_,_,j.sub Kv,k,G,K,E⟩
 rintro s t ⟨c1,c2,j,k,aw,bu,E⟩
 refine A8 ?_ j k
 clear j k t s
 rw[ET] at E
 refine AE (AJ O (kp [2] O) (WF.ret (λs t j k=>?_)))
 cases E
 exact EU j k O O (e5.trans (ao.trans bu)) ⟨O,aw⟩
def Gq (A:St S L h) {b:Int}(q:AD b) {c:Int}(s:AD c) {r:Int}(E:Dt N b c=some r):
 Ct prog 96 #[vI b,vI c] S h (λv S' h'=>v=vI r∧AD r∧St S' (L) h'):=by
 refine BO (l:=[vI b,vI c]) 34 func96 O ntmps96 O λB=>?_
 rw[Dt] at E
 refine AE (AJ O (kp [0,1] O) (AC (AE (AA O (CR O (AL (kp [10,0,1] O) (AW O E (λK E=>?_) (λK E=>?_))))))))
 ·refine AE (AJ O (kp [4] O) (WF.ret (λt u g i=>?_)))
  cases E
  exact EU g i O O (Cm.refl S h) ⟨O,(iq (n:=0) O),A⟩
 refine AQ (AC (AE (AA O (AA O (CN O (AL (kp [13,0,1] O) (AW O E (λM E=>?_) (λM E=>?_))))))))
 ·refine AE (AJ O (kp [4] O) (WF.ret (λt u g i=>?_)))
  cases E
  exact EU g i O O (Cm.refl S h) ⟨O,(iq (n:=1099511627777) O),A⟩
 refine AQ (AC (WF.rc (.inl O) A (AA O (GI O Mz KX O ?_))))
 obtain⟨z,C,E⟩:=bd E
 refine Hk (v:= .tuple #[.int .u64 z.1,.int .u64 z.2]) (Ψ:=IntKind.has .u64 z.1∧IntKind.has .u64 z.2) O O O Wt O (λh' o=>(Jl (St.all h') (EN _ _) (show IntKind.has .u64 1099511627776 by first|assumption|exact⟨by decide,by decide⟩) C).mono λ_ _ _ _ p=>⟨p.1,⟨p.2.1,p.2.2.1⟩⟩) λQ=>?_
 obtain⟨U,V⟩:=Q
 refine AA O (De O (De O (A4 O (A4 O (Bu (kp [6,5,1] O) λh7 D W=>AC (WF.rc (.inl O) D (AA O (AA O (AA O (GI O Mz KX O ?_))))))))))
 obtain⟨d,x,E⟩:=bd E
 refine Hk (v:= .tuple #[.int .u64 d.1,.int .u64 d.2]) (Ψ:=IntKind.has .u64 d.1∧IntKind.has .u64 d.2) O O O Ws O (λh' o=>(Jm (St.all h') U V (EN _ _) x).mono λ_ _ _ _ p=>⟨p.1,⟨p.2.1,p.2.2.1⟩⟩) λF=>?_
 obtain⟨G,X⟩:=F
 refine AA O (De O (De O (A4 O (A4 O (Bu (kp [8,7] O) λm k H=>AC (AE (AA O (Cq O (AL (kp [29,7] O) (HW (λa w=>∃(j:Int),IV B S m (34,[]) a w [(7,.int .u64 j)] (L) λ_ _=>IntKind.has .u64 j∧GV N j=some r) ?_ ?_))))))))))
 ·refine AW O E (λI E=>?_) (λI E=>?_)
  ·refine CL (.inl O) (AA O (Id O O O (AJ O (kp [7] O) (WF.nil (λt u g i=>?_)))))
   exact⟨(IntKind.wrap .u64 (d.1+1)),_,_,g.sub (kp [7] O),i,k,(Cm.refl S m),(EN _ _),E⟩
  refine AQ (WF.nil (λt u g i=>?_))
  exact⟨d.1,_,_,g.sub (kp [7] O),i,k,(Cm.refl S m),G,E⟩
 rintro t u ⟨j,Y,Z,g,i,y,J,ab,E⟩
 refine A8 ?_ g i
 clear g i u t
 rw[GV] at E
 refine AE (AA O (GI O KX Mz O (AJ O (kp [4] O) (WF.ret (λt u g i=>?_)))))
 cases E
 exact EU g i O O (W.trans (H.trans J)) ⟨O,(CJ _),y⟩
def NB (hs:St S L h) {c:Value}{b:(List (List BC))}(d:Sl S h (B7.sl CM) c b) {r:Int}(E:Er N b=some r):
 Ct prog 97 #[c] S h (λv S' h'=>v=vI r∧AD r∧St S' (L) h'):=by
 refine BO (l:=[c]) 48 func97 O ntmps97 O λB=>?_
 rw[Er] at E
 refine AE (AJ O (kp [0] O) (AE (AJ O (kp [3,0] O) (AC (AE (AA O (BJ O d Vd O λb1=>AA O (AL (kp [9,8,7,3] O) (BG (λa w=>∃(W:Int),IV B S h (48,[]) a w [(3,vI W)] (L) λ_ _=>AD W∧CP N W=some r) ?_ ?_)))))))))
 ·refine Bt (λX=>λa w=>∃(D:Int) (k:Int),IV B S h (48,[]) a w [(8,vI (↑b.length:Int)),(7,c),(3,vI D),(9,vI k)] (L) λ_ _=>AD D∧AD k∧CB N b (CP N) X D k=some r) N ?_ ?_ ?_
  ·intro m p g i
   exact⟨0,0,_,_,g.sub (kp [8,7,3,9] O),i,hs,(Cm.refl S h),(iq (n:=0) O),(iq (n:=0) O),E⟩
  ·rintro m p ⟨_,_,_,_,_,_,_,_,_,_,E⟩
   rw[CB] at E;cases E
  rintro X m p ⟨D,k,z,A,g,i,t,C,r9,av,E⟩
  refine A8 ?_ g i
  clear g i p m
  rw[CB] at E
  refine AE (BE O (AL (kp [10,8,7,3,9] O) (AC (AW O E (λY E=>?_) (λY E=>?_)))))
  ·refine AQ (AC (BG (λa w=>∃(u:Int),IV B z A (48,[]) a w [(8,vI (↑b.length:Int)),(7,c),(9,vI k),(3,vI u)] (L) λ_ _=>AD u∧Ci N k (CB N b (CP N) X) u=some r) ?_ ?_))
   ·refine AE ?_
    obtain⟨Z,F,E⟩:=bd E
    refine B6 O O (d.mono' C) Vd F O λaw ab=>BR BX t.1 O ab Hs O λac x=>AJ O (kp [5,8,7,3,9] O) (AE (AJ O (kp [6,5,8,7,3,9] O) (BW (Bt (λn3=>λa w=>∃(s:Int) (y:Int),IV B z A (48,[]) a w [(5,ac),(8,vI (↑b.length:Int)),(7,c),(9,vI k),(3,vI s),(6,vI y)] (L) λ_ _=>AD s∧AD y∧CO N Z (Ci N k (CB N b (CP N) X)) n3 s y=some r) N ?_ ?_ ?_))))
    ·intro m p g i
     exact⟨D,1,_,_,g.sub (kp [5,8,7,9,3,6] O),i,t,(Cm.refl z A),r9,(iq (n:=1) O),E⟩
    ·rintro m p ⟨_,_,_,_,_,_,_,_,_,_,E⟩
     rw[CO] at E;cases E
    rintro n3 m p ⟨s,y,ax,ay,g,i,j,q,G,az,E⟩
    refine A8 ?_ g i
    clear g i p m
    rw[CO] at E
    refine AC (AE (AA O (AA O (BJ O (x.mono' q) He O λa0=>BE O (AL (kp [16,5,8,7,9,3,6] O) (AW O E (λad E=>?_) (λad E=>?_)))))))
    ·refine AQ (AC (BW (WF.rc (.inr ⟨mo,by kernel_rfl⟩) j (AA O (AA O (AA O ?_))))))
     obtain⟨a1,H,E⟩:=bd E
     refine B6 O O (x.mono' q) He H O λa2 ae=>AV O ae KF Hu O λa3 af=>AY Bs j.1 O af AZ O λa4=>AA O (AA O (FU O ?_))
     obtain⟨a5,I,E⟩:=bd E
     refine B6 O O (x.mono' q) He I O λa6 ag=>AV O ag KF Hu O λa7 ah=>AY Bs j.1 O ah AZ O λa8=>FU O (AA O (AA O ?_))
     obtain⟨a9,J,E⟩:=bd E
     refine B6 O O (x.mono' q) He J O λba ai=>AV O ai KG IT O λbb aj=>AY Bs j.1 O aj AZ O λbc=>AA O (AA O (FU O ?_))
     obtain⟨be,K,E⟩:=bd E
     refine B6 O O (x.mono' q) He K O λbf ak=>AV O ak KG IT O λbg al=>AY Bs j.1 O al AZ O λbh=>FU O ?_
     obtain⟨am,M,E⟩:=bd E
     refine Bz O O O Qb O (λh' o=>Gq (St.all h') (CJ _) (CJ _) M) λan=>?_
     have ao:=an
     refine Jf O O O (A4 O (Bu (kp [3,5,8,7,9,6] O) λbi Q ap=>B0 (CL (.inl O) (AA O (BD O (AJ O (kp [6,3,5,8,7,9] O) (WF.nil (λm p g i=>?_))))))))
     exact⟨(max s am),(B8 (y+1)),_,_,g.sub (kp [5,8,7,9,3,6] O),i,Q,(q.trans ap),(HI G ao),(CJ _),E⟩
    refine JV O (WF.nil (λm p g i=>?_))
    exact⟨s,_,_,g.sub (kp [8,7,9,3] O),i,j,q,G,E⟩
   rintro m p ⟨u,bj,bk,g,i,U,aq,ar,E⟩
   refine A8 ?_ g i
   clear g i p m
   rw[Ci] at E
   refine CL (.inl O) (BD O (AA O (AL (kp [9,8,7,3] O) (WF.nil (λm p g i=>?_)))))
   exact⟨u,(B8 (k+1)),_,_,g.sub (kp [8,7,3,9] O),i,U,(C.trans aq),ar,(CJ _),E⟩
  refine WF.exit O (λm p g i=>?_)
  exact⟨D,_,_,g.sub (kp [3] O),i,t,C,r9,E⟩
 rintro m p ⟨W,bl,bm,g,i,V,au,r3,E⟩
 refine A8 ?_ g i
 clear g i p m
 rw[CP] at E
 refine AE (AA O (AJ O (kp [2] O) (WF.ret (λm p g i=>?_))))
 cases E
 exact EU g i O O au ⟨O,r3,V⟩
end Go.Proofs.YtibidnaedddfdaaGreat
