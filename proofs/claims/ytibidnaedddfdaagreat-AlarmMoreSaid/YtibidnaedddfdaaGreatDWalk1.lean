import Derived.Test.YtibidnaedddfdaaGreatDWalk0
namespace Go.Proofs.YtibidnaedddfdaaGreat
set_option linter.all false
open Go.RowKit
open Go.Proofs.Tryz
set_option maxRecDepth 10000
set_option maxHeartbeats 2000000
variable {N:Nat}{S:Nat→Prop}{L:List HP}{h:BB}
def CH (j:St S L h) {c:Int}(i:AD c) {b:Int}(g:AD b) {a:Int}(d:AD a) {r:Bool}(E:Cc N c b a=some r):
 Ct prog 85 #[vI c,vI b,vI a] S h (λv S' h'=>v= .bool r∧St S' (L) h'):=by
 refine BO (l:=[vI c,vI b,vI a]) 15 func85 O ntmps85 O λB=>?_
 rw[Cc] at E
 refine AE (AJ O (kp [0,1,2] O) (AE (AA O (AA O (HC O (AA O (AO 4 14 (.bool ((decide (b≤c))&&(decide (c≤a)))) ?_ ?_)))))))
 ·cases n:(decide (b≤c))
  ·exact AX O O
  exact AB O (AA O (AB O (AA O (AB O (HC O (AI O (AN O)))))))
 refine AJ O (kp [6] O) (WF.ret (λo p k m=>?_))
 cases E
 exact EU k m O O (Cm.refl S h) ⟨O,j⟩
def CS (g:St S L h) {a:Int}(b:AD a) {r:Bool}(E:CT N a=some r):
 Ct prog 86 #[vI a] S h (λv S' h'=>v= .bool r∧St S' (L) h'):=by
 refine BO (l:=[vI a]) 5 func86 O ntmps86 O λB=>?_
 rw[CT] at E
 refine AE (AJ O (kp [0] O) (AC (WF.rc (.inl O) g (AA O ?_))))
 obtain⟨m,c,E⟩:=bd E
 refine BL O O O HV O (λh' o=>CH (St.all h') b (iq (n:=0) O) (iq (n:=1125899906842624) O) c) (A4 O (Bu (kp [2] O) λp d i=>WF.ret (λq s j k=>?_)))
 cases E
 exact EU j k O O i ⟨O,d⟩
def Mk (hs:St S L h) {t:Value}{b:AU}(W:Rd S h Ch t b) {r:Bool}(E:G1 N b=some r):
 Ct prog 36 #[t] S h (λv S' h'=>v= .bool r∧St S' (L) h'):=by
 refine BO (l:=[t]) 109 func36 O ntmps36 O λB=>?_
 rw[G1] at E
 refine WF.sl (BM O W (λe=>by cases e) O hs λq1 S2 h3 s e5 D=>A5 1 (A4 O (A6 (AS (kp [1] O) (AC (AC (WF.rc (.inl O) s (AV O D AU.f_Name RE O λq7 k8=>Rb Bs s.1 O k8 P5 O λr9=>Nw O P4 O (CN O (AA O ?_))))))))))
 obtain⟨ah,j,E⟩:=bd E
 refine AO 6 17 (.bool ah) ?_ ?_
 ·cases ai:(decide (500<(↑b.J.size:Int)))
  ·have j:=GY ai j
   refine AB O (AV O D Jh O2 O λb9 a1=>AB O (BR Bs s.1 O a1 Tl O λca a2=>AB O (BJ O a2 Rz O λa3=>AB O ?_)))
   obtain⟨cb,aj,j⟩:=bd j
   refine BL O O O HV O (λh' o=>CH (St.all h') (LW a3) (iq (n:=1) O) (iq (n:=16) O) aj) (AB O (BT O (AI O ?_)))
   cases j
   exact AN O
  have j:=GX ai j
  cases j
  exact AX O O
 refine AA O ?_
 obtain⟨ak,k,E⟩:=bd E
 refine AO 5 23 (.bool ak) ?_ ?_
 ·cases al:ah
  ·have k:=GY al k
   refine AB O (AV O D KI RC O λcc a4=>AB O (AY Bs s.1 O a4 AZ O λa5=>AB O ?_))
   obtain⟨cd,am,k⟩:=bd k
   refine BL O O O HV O (λh' o=>CH (St.all h') a5 (iq (n:=0) O) (iq (n:=64) O) am) (AB O (BT O (AI O ?_)))
   cases k
   exact AN O
  have k:=GX al k
  cases k
  exact AX O O
 refine AA O ?_
 obtain⟨i,m,E⟩:=bd E
 refine AO 6 30 (.bool i) ?_ ?_
 ·cases an:ak
  ·have m:=GY an m
   refine AB O (AV O D CC En O λce a6=>AB O (BR Bs s.1 O a6 HD O λcf a7=>AB O (BJ O a7 Ga O λa8=>AB O ?_)))
   obtain⟨cg,ao,m⟩:=bd m
   refine BL O O O HV O (λh' o=>CH (St.all h') (LW a8) (iq (n:=1) O) (iq (n:=64) O) ao) (AB O (BT O (AI O ?_)))
   cases m
   exact AN O
  have m:=GX an m
  cases m
  exact AX O O
 refine AA O (AO 5 36 (.bool (i||(decide (96<(↑b.F.length:Int))))) ?_ ?_)
 ·cases ch:i
  ·exact AB O (AV O D AU.f_Links Gu O λci a9=>AB O (BR Bs s.1 O a9 JP O λcj ba=>AB O (BJ O ba Ht O λck=>AB O (CN O (AI O (AN O))))))
  exact AX O O
 refine AA O (AO 5 42 (.bool ((i||(decide (96<(↑b.F.length:Int))))||(decide (40<(↑b.Ac.length:Int))))) ?_ ?_)
 ·cases cl:(i||(decide (96<(↑b.F.length:Int))))
  ·exact AB O (AV O D Gg K5 O λcm bb=>AB O (BR Bs s.1 O bb O7 O λcn bc=>AB O (BJ O bc NS O λco=>AB O (CN O (AI O (AN O))))))
  exact AX O O
 refine AA O (AO 5 48 (.bool (((i||(decide (96<(↑b.F.length:Int))))||(decide (40<(↑b.Ac.length:Int))))||(decide (128<(↑b.Am.length:Int))))) ?_ ?_)
 ·cases cp:((i||(decide (96<(↑b.F.length:Int))))||(decide (40<(↑b.Ac.length:Int))))
  ·exact AB O (AV O D Ji RB O λcq be=>AB O (BR Bs s.1 O be VN O λcr bf=>AB O (BJ O bf Ry O λcs=>AB O (CN O (AI O (AN O))))))
  exact AX O O
 refine AA O (AO 5 54 (.bool ((((i||(decide (96<(↑b.F.length:Int))))||(decide (40<(↑b.Ac.length:Int))))||(decide (128<(↑b.Am.length:Int))))||(decide (128<(↑b.An.length:Int))))) ?_ ?_)
 ·cases ct:(((i||(decide (96<(↑b.F.length:Int))))||(decide (40<(↑b.Ac.length:Int))))||(decide (128<(↑b.Am.length:Int))))
  ·exact AB O (AV O D KH RA O λcu bg=>AB O (BR Bs s.1 O bg VM O λcv bh=>AB O (BJ O bh Rx O λcw=>AB O (CN O (AI O (AN O))))))
  exact AX O O
 refine AA O (AO 5 60 (.bool (((((i||(decide (96<(↑b.F.length:Int))))||(decide (40<(↑b.Ac.length:Int))))||(decide (128<(↑b.Am.length:Int))))||(decide (128<(↑b.An.length:Int))))||(decide (40<(↑b.Aq.length:Int))))) ?_ ?_)
 ·cases cx:((((i||(decide (96<(↑b.F.length:Int))))||(decide (40<(↑b.Ac.length:Int))))||(decide (128<(↑b.Am.length:Int))))||(decide (128<(↑b.An.length:Int))))
  ·exact AB O (AV O D Hx O1 O λcy bi=>AB O (BR Bs s.1 O bi Tk O λcz bj=>AB O (BJ O bj QK O λc0=>AB O (CN O (AI O (AN O))))))
  exact AX O O
 refine AA O (AO 5 66 (.bool ((((((i||(decide (96<(↑b.F.length:Int))))||(decide (40<(↑b.Ac.length:Int))))||(decide (128<(↑b.Am.length:Int))))||(decide (128<(↑b.An.length:Int))))||(decide (40<(↑b.Aq.length:Int))))||(decide ((↑b.Ap.length:Int)≠3)))) ?_ ?_)
 ·cases c1:(((((i||(decide (96<(↑b.F.length:Int))))||(decide (40<(↑b.Ac.length:Int))))||(decide (128<(↑b.Am.length:Int))))||(decide (128<(↑b.An.length:Int))))||(decide (40<(↑b.Aq.length:Int))))
  ·exact AB O (AV O D AU.f_Room UI O λc2 bk=>AB O (BR Bs s.1 O bk Ro O λc3 bl=>AB O (BJ O bl Hf O λc4=>AB O (Cq O (AI O (AN O))))))
  exact AX O O
 refine AA O ?_
 obtain⟨bm,p,E⟩:=bd E
 refine AO 5 72 (.bool bm) ?_ ?_
 ·cases ap:((((((i||(decide (96<(↑b.F.length:Int))))||(decide (40<(↑b.Ac.length:Int))))||(decide (128<(↑b.Am.length:Int))))||(decide (128<(↑b.An.length:Int))))||(decide (40<(↑b.Aq.length:Int))))||(decide ((↑b.Ap.length:Int)≠3)))
  ·have p:=GY ap p
   refine AB O (AV O D AU.f_Err WB O λc5 bn=>AB O (AY Bs s.1 O bn AZ O λbo=>AB O ?_))
   obtain⟨c6,aq,p⟩:=bd p
   refine BL O O O HV O (λh' o=>CH (St.all h') bo (iq (n:=0) O) (iq (n:=1099511627776) O) aq) (AB O (BT O (AI O ?_)))
   cases p
   exact AN O
  have p:=GX ap p
  cases p
  exact AX O O
 refine Bu (kp [72,1] O) λac G H=>AW O E (λbp E=>?_) (λbp E=>?_)
 ·refine AE (AJ O (kp [2] O) (WF.ret (λu x c d=>?_)))
  cases E
  exact EU c d O O (e5.trans H) ⟨O,G⟩
 refine AQ (AC (AE ?_))
 have ad:=D.mono H
 refine AV O ad AU.f_Name RE O λc7 bq=>Rb BX G.1 O bq P5 O λc8=>Nw O P4 O (AA O (AL (kp [76,75,1] O) (BG (λa w=>IV B S2 ac (109,[]) a w [(1,q1)] (L) λ_ _=>D0 N b=some r) ?_ ?_)))
 ·refine Bt (λn1=>λa w=>∃(I:Int),IV B S2 ac (109,[]) a w [(75,vI (↑b.J.size:Int)),(1,q1),(76,vI I)] (L) λ_ _=>AD I∧Dz N b (D0 N b) n1 I=some r) N ?_ ?_ ?_
  ·intro u x c d
   exact⟨0,_,_,c.sub (kp [75,1,76] O),d,G,(Cm.refl S2 ac),(iq (n:=0) O),E⟩
  ·rintro u x ⟨_,_,_,_,_,_,_,_,E⟩
   rw[Dz] at E;cases E
  rintro n1 u x ⟨I,c9,da,c,d,A,X,db,E⟩
  refine A8 ?_ c d
  clear c d x u
  rw[Dz] at E
  refine AE (BE O (AL (kp [77,75,1,76] O) (AC (AW O E (λbr E=>?_) (λbr E=>?_)))))
  ·refine AQ (AC (BW (AE (AA O (AJ O (kp [3,75,1,76] O) (AE (AV O (ad.mono X) AU.f_Name RE O λdc bs=>Rb BX A.1 O bs P5 O λdd=>AA O ?_)))))))
   obtain⟨g,Y,E⟩:=bd E
   have bt:=Ns Y
   refine Ny O O P4 Y O (AJ O (kp [4,75,1,76] O) (AE (AA O (BE O (AA O (AO 3 88 (.bool ((decide (g<32))||(decide (126<g)))) ?_ ?_))))))
   ·cases bu:(decide (g<32))
    ·exact AB O (AA O (AB O (CN O (AI O (AN O)))))
    exact AX O O
   refine AA O (AO 3 92 (.bool (((decide (g<32))||(decide (126<g)))||(decide (g=34)))) ?_ ?_)
   ·cases bv:((decide (g<32))||(decide (126<g)))
    ·exact AB O (AA O (AB O (CR O (AI O (AN O)))))
    exact AX O O
   refine AA O (AO 3 96 (.bool ((((decide (g<32))||(decide (126<g)))||(decide (g=34)))||(decide (g=92)))) ?_ ?_)
   ·cases bw:(((decide (g<32))||(decide (126<g)))||(decide (g=34)))
    ·exact AB O (AA O (AB O (CR O (AI O (AN O)))))
    exact AX O O
   refine AL (kp [96,75,1,76] O) (AW O E (λar E=>?_) (λar E=>?_))
   ·refine AE (AJ O (kp [2] O) (WF.ret (λu x c d=>?_)))
    cases E
    exact EU c d O O (e5.trans (H.trans X)) ⟨O,A⟩
   refine AQ (B0 (CL (.inl O) (BD O (AA O (AL (kp [76,75,1] O) (WF.nil (λu x c d=>?_)))))))
   exact⟨(B8 (I+1)),_,_,c.sub (kp [75,1,76] O),d,A,X,(CJ _),E⟩
  refine WF.exit O (λu x c d=>?_)
  exact⟨_,_,c.sub (kp [1] O),d,A,X,E⟩
 rintro u x ⟨K,M,c,d,Q,U,E⟩
 refine A8 ?_ c d
 clear c d x u
 rw[D0] at E
 refine AC (AE (AV O (ad.mono U) AU.f_Room UI O λbx au=>BR BX Q.1 O au Ro O λav Z=>BJ O Z Hf O λbz=>AA O (AL (kp [101,100,99] O) (BG (λa w=>IV B K M (109,[]) a w [] (L) λ_ _=>FQ N=some r) ?_ ?_))))
 ·refine Bt (λn3=>λa w=>∃(y:Int),IV B K M (109,[]) a w [(100,vI (↑b.Ap.length:Int)),(99,av),(101,vI y)] (L) λ_ _=>AD y∧Dy N b (FQ N) n3 y=some r) N ?_ ?_ ?_
  ·intro u x c d
   exact⟨0,_,_,c.sub (kp [100,99,101] O),d,Q,(Cm.refl K M),(iq (n:=0) O),E⟩
  ·rintro u x ⟨_,_,_,_,_,_,_,_,E⟩
   rw[Dy] at E;cases E
  rintro n3 u x ⟨y,b0,b1,c,d,z,C,b2,E⟩
  refine A8 ?_ c d
  clear c d x u
  rw[Dy] at E
  refine AE (BE O (AL (kp [102,100,99,101] O) (AC (AW O E (λaw E=>?_) (λaw E=>?_)))))
  ·refine AQ (AC (BW (AE ?_)))
   obtain⟨b3,ae,E⟩:=bd E
   refine B6 O O (Z.mono' C) Hf ae O λb4 ax=>AY BX z.1 O ax AZ O λay=>AJ O (kp [6,100,99,101] O) (AC (WF.rc (.inl O) z (AA O ?_)))
   obtain⟨b5,af,E⟩:=bd E
   refine BL O O O I3 O (λh' o=>CS (St.all h') ay af) (BT O (Bu (kp [107,100,99,101] O) λb6 V ab=>AW O E (λaz E=>?_) (λaz E=>?_)))
   ·refine AE (AJ O (kp [2] O) (WF.ret (λu x c d=>?_)))
    cases E
    exact EU c d O O (e5.trans (H.trans (U.trans (C.trans ab)))) ⟨O,V⟩
   refine AQ (B0 (CL (.inl O) (BD O (AA O (AL (kp [101,100,99] O) (WF.nil (λu x c d=>?_)))))))
   exact⟨(B8 (y+1)),_,_,c.sub (kp [100,99,101] O),d,V,(C.trans ab),(CJ _),E⟩
  refine WF.exit O (λu x c d=>?_)
  exact⟨_,_,c.sub Kv,d,z,C,E⟩
 rintro u x ⟨b7,b8,c,d,ag,a0,E⟩
 refine A8 ?_ c d
 clear c d x u
 rw[FQ] at E
 refine AE (AJ O (kp [2] O) (WF.ret (λu x c d=>?_)))
 cases E
 exact EU c d O O (e5.trans (H.trans (U.trans a0))) ⟨O,ag⟩
def OH (F:St S L h) {b:ByteArray}(y:b.size≤maxLen) {r:Bool}(E:H8 N b=some r):
 Ct prog 140 #[.string b] S h (λv S' h'=>v= .bool r∧St S' (L) h'):=by
 refine BO (l:=[.string b]) 54 func140 O ntmps140 O λB=>?_
 rw[H8] at E
 refine AE (AJ O (kp [0] O) (AC (AE (AA O (Nw O P4 O (BE O (AA O (AO 4 12 (.bool ((decide ((↑b.size:Int)<1))||(decide (24<(↑b.size:Int))))) ?_ ?_))))))))
 ·cases c1:(decide ((↑b.size:Int)<1))
  ·exact AB O (AA O (AB O (Nw O P4 O (AB O (CN O (AI O (AN O)))))))
  exact AX O O
 refine AA O (AO 3 16 (.bool (((decide ((↑b.size:Int)<1))||(decide (24<(↑b.size:Int))))||(b==(ByteArray.mk #[111,117,116])))) ?_ ?_)
 ·cases c2:((decide ((↑b.size:Int)<1))||(decide (24<(↑b.size:Int))))
  ·exact AB O (AA O (AB O (Su O O O (AI O (AN O)))))
  exact AX O O
 refine AA O ?_
 obtain⟨G,d,E⟩:=bd E
 refine AO 4 21 (.bool G) ?_ ?_
 ·cases H:(((decide ((↑b.size:Int)<1))||(decide (24<(↑b.size:Int))))||(b==(ByteArray.mk #[111,117,116])))
  ·have d:=GY H d
   refine AB O (AA O (AB O ?_))
   obtain⟨z5,t,d⟩:=bd d
   have r6:=Ns t
   refine Ny O O P4 t O (AB O (BE O (AI O ?_)))
   cases d
   exact AN O
  have d:=GX H d
  cases d
  exact AX O O
 refine AA O ?_
 obtain⟨K,g,E⟩:=bd E
 refine AO 4 26 (.bool K) ?_ ?_
 ·cases I:G
  ·have g:=GY I g
   refine AB O (AA O (AB O ?_))
   obtain⟨z9,u,g⟩:=bd g
   have M:=Ns u
   refine Ny O O P4 u O (AB O (CN O (AI O ?_)))
   cases g
   exact AN O
  have g:=GX I g
  cases g
  exact AX O O
 refine AL (kp [26,0] O) (AW O E (λz E=>?_) (λz E=>?_))
 ·refine AE (AJ O (kp [2] O) (WF.ret (λo p i j=>?_)))
  cases E
  exact EU i j O O (Cm.refl S h) ⟨O,F⟩
 refine AQ (AC (AE (AJ O (kp [3,0] O) (BG (λa w=>IV B S h (54,[]) a w [] (L) λ_ _=>GA N=some r) ?_ ?_))))
 ·refine Bt (λJ=>λa w=>∃(k:Int),IV B S h (54,[]) a w [(0,.string b),(3,vI k)] (L) λ_ _=>AD k∧Ey N b (GA N) J k=some r) N ?_ ?_ ?_
  ·intro o p i j
   exact⟨1,_,_,i.sub (kp [0,3] O),j,F,(Cm.refl S h),(iq (n:=1) O),E⟩
  ·rintro o p ⟨_,_,_,_,_,_,_,_,E⟩
   rw[Ey] at E;cases E
  rintro J o p ⟨k,Q,U,i,j,m,s,V,E⟩
  refine A8 ?_ i j
  clear i j p o
  rw[Ey] at E
  refine AC (AE (AA O (AA O (Nw O P4 O (BE O (AL (kp [30,0,3] O) (AW O E (λA E=>?_) (λA E=>?_))))))))
  ·refine AQ (AC (BW (AE (AA O (AA O ?_)))))
   obtain⟨c,q,E⟩:=bd E
   have W:=Ns q
   refine Ny O O P4 q O (AJ O (kp [4,0,3] O) (AE (AA O (BE O (AA O (AO 3 41 (.bool ((decide (c<97))||(decide (122<c)))) ?_ ?_))))))
   ·cases X:(decide (c<97))
    ·exact AB O (AA O (AB O (CN O (AI O (AN O)))))
    exact AX O O
   refine AA O (AO 7 49 (.bool (((decide (c<97))||(decide (122<c)))&&((decide (c<48))||(decide (57<c))))) ?_ ?_)
   ·cases Y:((decide (c<97))||(decide (122<c)))
    ·exact AX O O
    refine AB O (AA O (AB O (BE O (AB O (AA O (AO 3 48 (.bool ((decide (c<48))||(decide (57<c)))) ?_ ?_))))))
    ·cases Z:(decide (c<48))
     ·exact AB O (AA O (AB O (CN O (AB O (AI O (AN O))))))
     exact AX O O
    exact AI O (AN O)
   refine AA O (AO 3 53 (.bool ((((decide (c<97))||(decide (122<c)))&&((decide (c<48))||(decide (57<c))))&&(decide (c≠95)))) ?_ ?_)
   ·cases ab:(((decide (c<97))||(decide (122<c)))&&((decide (c<48))||(decide (57<c))))
    ·exact AX O O
    exact AB O (AA O (AB O (Cq O (AI O (AN O)))))
   refine AL (kp [53,0,3] O) (AW O E (λC E=>?_) (λC E=>?_))
   ·refine AE (AJ O (kp [2] O) (WF.ret (λo p i j=>?_)))
    cases E
    exact EU i j O O s ⟨O,m⟩
   refine AQ (B0 (CL (.inl O) (AA O (BD O (AJ O (kp [3,0] O) (WF.nil (λo p i j=>?_)))))))
   exact⟨(B8 (k+1)),_,_,i.sub (kp [0,3] O),j,m,s,(CJ _),E⟩
  refine WF.exit O (λo p i j=>?_)
  exact⟨_,_,i.sub Kv,j,m,s,E⟩
 rintro o p ⟨ac,ad,i,j,x,D,E⟩
 refine A8 ?_ i j
 clear i j p o
 rw[GA] at E
 refine AE (AJ O (kp [2] O) (WF.ret (λo p i j=>?_)))
 cases E
 exact EU i j O O D ⟨O,x⟩
def Oj {c:Nat}{d:(List (AK×Bool))}(V:St S (MP (λk:AK=>Value.agg (AK.v k).toArray) Value.bool c d::L) h) {g:ByteArray}(i:g.size≤maxLen) {b:ByteArray}(j:b.size≤maxLen) {r:Bool×(List (AK×Bool))}(E:IQ N d g b=some r):
 Ct prog 88 #[.map (some c),.string g,.string b] S h (λv S' h'=>v= .bool r.1∧St S' (MP (λk:AK=>Value.agg (AK.v k).toArray) Value.bool c r.2::L) h'):=by
 refine BO (l:=[.map (some c),.string g,.string b]) 23 func88 O ntmps88 O λB=>?_
 rw[IQ] at E
 refine AE (AJ O (kp [0,1,2] O) (AC (AE (AA O (Su O O O (AL (kp [9,0,1,2] O) (HW (λa w=>∃(m:ByteArray),IV B S h (23,[]) a w [(0,.map (some c)),(2,.string b),(1,.string m)] (MP (λk:AK=>Value.agg (AK.v k).toArray) Value.bool c d::L) λ_ _=>m.size≤maxLen∧GW N d b m=some r) ?_ ?_)))))))
 ·refine AW O E (λX E=>?_) (λX E=>?_)
  ·refine CL (.inl O) (AJ O (kp [1,0,2] O) (WF.nil (λu y s t=>?_)))
   exact⟨(ByteArray.mk #[116,111,119,110]),_,_,s.sub (kp [0,2,1] O),t,V,(Cm.refl S h),(by decide),E⟩
  refine AQ (WF.nil (λu y s t=>?_))
  exact⟨g,_,_,s.sub (kp [0,2,1] O),t,V,(Cm.refl S h),i,E⟩
 rintro u y ⟨m,S4,h5,s,t,M,W,r2,E⟩
 refine A8 ?_ s t
 clear s t y u
 rw[GW] at E
 refine WF.sl (A5 3 (AA O (AA O (DB (cs:=[.string m,.string b]) ZR O O O (A6 (CX Y9 O M λb8 h9 A C=>BU (vs:=[.string m,.string b]) O O O O S7 O A .head O λY n D=>AS (kp [7,0,2] O) (AC (AC (WF.rc (.inl O) n (AA O ?_))))))))))
 obtain⟨F,G,E⟩:=bd E
 refine BL O O O aB O (λh' o=>OH (St.all h') j G) (BT O (AA O (AO 4 20 (.bool ((!F)||((Of (λk:AK=>Value.agg (AK.v k).toArray) d (⟨m,b⟩:AK)).getD false))) ?_ ?_)))
 ·cases Z:(!F)
  ·exact AB O (AA O (AB O (Cw (vs:=[.string m,.string b]) Bs n O mh O O S7 O O (AB O (bB (k0:=(⟨m,b⟩:AK)) (z:=false) Bs n (mt mh) O O VL T9 gA O O (AI O (AN O)))))))
  exact AX O O
 refine Bu (kp [20,7,0] O) λab p H=>AW O E (λQ E=>?_) (λQ E=>?_)
 ·refine AE (AJ O (kp [6] O) (WF.ret (λu y s t=>?_)))
  have I:=p.sel [1] 1 O
  cases E
  exact EU s t O O (W.trans (C.trans (D.trans H))) ⟨O,I⟩
 refine AQ (WF.sl (A5 2 (AA O (Cw (vs:=[.string m,.string b]) BX p O mh O O S7 O O (A6 (bL (k0:=(⟨m,b⟩:AK)) (x:=true) p (.tail .head) O O O VL T9 λac J U=>AS Kv (AE (AJ O (kp [6] O) (WF.ret (λu y s t=>?_))))))))))
 have K:=J.sel [1] 1 O
 cases E
 exact EU s t O O (W.trans (C.trans (D.trans (H.trans U)))) ⟨O,K⟩
def D6 {d:Nat}{c2_:(List (AK×Bool))}{a:Nat}{g:Nat}{c3_:Bool}(x:St S (Bx d 154 [.map (some a)]::MP (λk:AK=>Value.agg (AK.v k).toArray) Value.bool a c2_::Bx g 4 [.bool c3_]::L) h) {b:ByteArray}(i:b.size≤maxLen) {c:ByteArray}(j:c.size≤maxLen) {r:(List (AK×Bool))×Bool}(E:Cx N c2_ c3_ b c=some r):
 Ct prog 87 #[.string b,.string c,vP d 0,vP g 0] S h (λv S' h'=>v= .tuple #[]∧St S' (Bx d 154 [.map (some a)]::MP (λk:AK=>Value.agg (AK.v k).toArray) Value.bool a r.1::Bx g 4 [.bool r.2]::L) h'):=by
 refine BO (l:=[.string b,.string c,vP d 0,vP g 0]) 13 func87 O ntmps87 O λB=>?_
 rw[Cx] at E
 refine Gf (A5 3 (AT BX x O mh O VT O (AA O (AA O (A6 ?_)))))
 have s:=x.pick (.tail .head)
 obtain⟨t,u,E⟩:=bd E
 refine GO O O O eB O (Oj s i j u) λC D F y p=>?_
 obtain⟨rfl,m⟩:=p
 refine A5 3 (AA O (AO 2 12 (.bool (t.1&&c3_)) ?_ ?_))
 ·cases G:t.1
  ·exact AX O O
  exact AB O (AT BX m O (mt (mt mh)) O N7 O (AI O (AN O)))
 refine A6 (BU (vs:=[.bool (t.1&&c3_)]) O O O O N7 O m (.tail (.tail .head)) O λH n w=>AS Kv (WF.nil (λI J z A=>?_)))
 have o:=n.sel [1,0,0] 0 O
 cases E
 exact I1 z O A Io O (y.trans w) ⟨O,o⟩
def MC (hs:St S L h) {y:Value}{c:AU}(b2:Rd S h Ch y c) {r:Bool}(E:Hb N c=some r):
 Ct prog 37 #[y] S h (λv S' h'=>v= .bool r∧St S' (L) h'):=by
 refine BO (l:=[y]) 106 func37 O ntmps37 O λB=>?_
 rw[Hb] at E
 refine WF.sl (BM O b2 (λe=>by cases e) O hs λq1 S2 h3 gh e5 k6=>A5 1 (A4 O (A6 (AS (kp [1] O) (WF.sl (bM (K:=0) (E:=0) O gh (λk:AK=>Value.agg (AK.v k).toArray) Value.bool λt h8 gi ec=>CX ZH O gi λo j7 ed ee=>BU (vs:=[.map (some t)]) O O O O VT O ed .head O λj8 ef eg=>AS (kp [3,1] O) (WF.sl (CX bX O ef λi j9 eh ei=>BU (vs:=[.bool true]) O O O O N7 O eh .head O λc6 b8 ej=>AS (kp [4,3,1] O) (AE (KD O O O (AJ O (kp [5,4,1] O) (AC (AE ?_)))))))))))))
 have ek:=k6.mono (ec.trans (ee.trans (eg.trans (ei.trans ej))))
 refine AV O ek Jh O2 O λka gj=>BR BX b8.1 O gj Tl O λgk el=>BJ O el Rz O λkb=>AA O (AL (kp [25,24,23,5,4,1] O) (BG (λa w=>∃(b3:Bool) (b4:(List (AK×Bool))),IV B S2 c6 (106,[]) a w [(5,.func (.func 87) #[] #[vP o 0,vP i 0]),(4,vP i 0),(1,q1)] (Bx i 4 [.bool b3]::Bx o 154 [.map (some t)]::MP (λk:AK=>Value.agg (AK.v k).toArray) Value.bool t b4::L) λ_ _=>EL N c b3 b4=some r) ?_ ?_))
 ·refine Bt (λn1=>λa w=>∃(a0:Int) (a1:Bool) (a2:(List (AK×Bool))),IV B S2 c6 (106,[]) a w [(24,vI (↑c.Ar.length:Int)),(23,gk),(5,.func (.func 87) #[] #[vP o 0,vP i 0]),(4,vP i 0),(1,q1),(25,vI a0)] (Bx i 4 [.bool a1]::Bx o 154 [.map (some t)]::MP (λk:AK=>Value.agg (AK.v k).toArray) Value.bool t a2::L) λ_ _=>AD a0∧DL N c (EL N c) n1 a0 a1 a2=some r) N ?_ ?_ ?_
  ·intro j m d g
   exact⟨0,true,([]:(List (AK×Bool))),_,_,d.sub (kp [24,23,5,4,1,25] O),g,b8,(Cm.refl S2 c6),(iq (n:=0) O),E⟩
  ·rintro j m ⟨_,_,_,_,_,_,_,_,_,_,E⟩
   rw[DL] at E;cases E
  rintro n1 j m ⟨a0,a1,a2,kc,kd,d,g,a3,c7,ke,E⟩
  refine A8 ?_ d g
  clear d g m j
  rw[DL] at E
  refine AE (BE O (AL (kp [26,24,23,5,4,1,25] O) (AC (AW O E (λgl E=>?_) (λgl E=>?_)))))
  ·refine AQ (AC (BW (AE ?_)))
   obtain⟨kf,em,E⟩:=bd E
   refine B6 O O (el.mono' c7) Rz em O λkg gm=>Rb BX a3.1 O gm P5 O λgn=>AJ O (kp [7,24,23,5,4,1,25] O) (Gf (A5 2 (AA O (AA O (A6 ?_)))))
   have en:=a3.sel [1,1,0] 0 O
   obtain⟨eo,ep,E⟩:=bd E
   refine GO O O O Pj O (D6 (c2_:=a2) (c3_:=a1) en (by decide) gn ep) λkh ki kj gp p=>?_
   obtain⟨rfl,eq⟩:=p
   refine AS (kp [24,23,5,4,1,25] O) (B0 (CL (.inl O) (BD O (AA O (AL (kp [25,24,23,5,4,1] O) (WF.nil (λj m d g=>?_)))))))
   have er:=eq.sel [2,0,0] 0 O
   exact⟨(B8 (a0+1)),eo.2,eo.1,_,_,d.sub (kp [24,23,5,4,1,25] O),g,er,(c7.trans gp),(CJ _),E⟩
  refine WF.exit O (λj m d g=>?_)
  exact⟨a1,a2,_,_,d.sub (kp [5,4,1] O),g,a3,c7,E⟩
 rintro j m ⟨b3,b4,c8,c9,d,g,b9,es,E⟩
 refine A8 ?_ d g
 clear d g m j
 rw[EL] at E
 refine AC (AE ?_)
 have et:=ek.mono es
 refine AV O et CC En O λkk gq=>BR BX b9.1 O gq HD O λgr eu=>BJ O eu Ga O λkl=>AA O (AL (kp [36,35,34,5,4,1] O) (BG (λa w=>∃(b5:Bool) (b6:(List (AK×Bool))),IV B c8 c9 (106,[]) a w [(5,.func (.func 87) #[] #[vP o 0,vP i 0]),(4,vP i 0),(1,q1)] (Bx i 4 [.bool b5]::Bx o 154 [.map (some t)]::MP (λk:AK=>Value.agg (AK.v k).toArray) Value.bool t b6::L) λ_ _=>EK N c b5 b6=some r) ?_ ?_))
 ·refine Bt (λn3=>λa w=>∃(a4:Int) (a5:Bool) (a6:(List (AK×Bool))),IV B c8 c9 (106,[]) a w [(35,vI (↑c.D.length:Int)),(34,gr),(5,.func (.func 87) #[] #[vP o 0,vP i 0]),(4,vP i 0),(1,q1),(36,vI a4)] (Bx i 4 [.bool a5]::Bx o 154 [.map (some t)]::MP (λk:AK=>Value.agg (AK.v k).toArray) Value.bool t a6::L) λ_ _=>AD a4∧DK N c (EK N c) n3 a4 a5 a6=some r) N ?_ ?_ ?_
  ·intro j m d g
   exact⟨0,b3,b4,_,_,d.sub (kp [35,34,5,4,1,36] O),g,b9,(Cm.refl c8 c9),(iq (n:=0) O),E⟩
  ·rintro j m ⟨_,_,_,_,_,_,_,_,_,_,E⟩
   rw[DK] at E;cases E
  rintro n3 j m ⟨a4,a5,a6,km,kn,d,g,a7,da,ko,E⟩
  refine A8 ?_ d g
  clear d g m j
  rw[DK] at E
  refine AE (BE O (AL (kp [37,35,34,5,4,1,36] O) (AC (AW O E (λgs E=>?_) (λgs E=>?_)))))
  ·refine AQ (AC (BW (WF.sl (A5 2 ?_))))
   obtain⟨s,ev,E⟩:=bd E
   refine B6 O O (eu.mono' da) Ga ev O λkq gu=>BP BX a7.1 O gu KO (λe=>by cases e) O λkr gv=>A6 (CX QG O a7 λks kt ew ey=>?_)
   obtain⟨ca,cb,cc,rfl,gw,ku,kv,gx,ez,e0,gy,gz,g0,g1,g2,e1⟩:=Cb.ex (gv.mono ey)
   refine IR (vs:=[.string s.J,vI s.C,vI s.Aj,vI s.Ag,ca,cb,vI s.N,vI s.H,vI s.Ao,vI s.V,vI s.Ax,cc]) (cs':=[.string s.J,vI s.C,vI s.Aj,vI s.Ag,ca,cb,vI s.N,vI s.H,vI s.Ao,vI s.V,vI s.Ax,cc]) O O O (AG O (AG O (AG O (AG O (AG ez.one (AG e0.one (AG O (AG O (AG O (AG O (AG O (AG e1.one GJ)))))))))))) KO O ew .head O O λg3 a8 e2=>AS (kp [9,35,34,5,4,1,36] O) (Gf (A5 3 (AA O (AF YF O (AT BX a8 O mh O P5 O (A6 ?_))))))
   have db:=a8.sel [2,2,1,0] 0 O
   obtain⟨cd,dc,E⟩:=bd E
   refine GO O O O Pj O (D6 (c2_:=a6) (c3_:=a5) db (by decide) gw dc) λg4 g5 g6 e3 p=>?_
   obtain⟨rfl,dd⟩:=p
   refine AS (kp [35,34,5,4,1,36] O) (B0 (CL (.inl O) (BD O (AA O (AL (kp [36,35,34,5,4,1] O) (WF.nil (λj m d g=>?_)))))))
   have de:=dd.sel [2,0,0] 1 O
   exact⟨(B8 (a4+1)),cd.2,cd.1,_,_,d.sub (kp [35,34,5,4,1,36] O),g,de,(da.trans (ey.trans (e2.trans e3))),(CJ _),E⟩
  refine WF.exit O (λj m d g=>?_)
  exact⟨a5,a6,_,_,d.sub (kp [5,4,1] O),g,a7,da,E⟩
 rintro j m ⟨b5,b6,a9,ba,d,g,bb,ce,E⟩
 refine A8 ?_ d g
 clear d g m j
 rw[EK] at E
 refine AC (AE ?_)
 have cf:=et.mono ce
 refine AV O cf AU.f_Links Gu O λg7 e4=>BR BX bb.1 O e4 JP O λe6 cg=>BJ O cg Ht O λg8=>AA O (AL (kp [48,47,46,5,4,1] O) (BG (λa w=>∃(ap:Bool) (aq:(List (AK×Bool))),IV B a9 ba (106,[]) a w [(5,.func (.func 87) #[] #[vP o 0,vP i 0]),(4,vP i 0),(1,q1)] (Bx i 4 [.bool ap]::Bx o 154 [.map (some t)]::MP (λk:AK=>Value.agg (AK.v k).toArray) Value.bool t aq::L) λ_ _=>EJ N c ap aq=some r) ?_ ?_))
 ·refine Bt (λn5=>λa w=>∃(z:Int) (A:Bool) (G:(List (AK×Bool))),IV B a9 ba (106,[]) a w [(47,vI (↑c.F.length:Int)),(46,e6),(5,.func (.func 87) #[] #[vP o 0,vP i 0]),(4,vP i 0),(1,q1),(48,vI z)] (Bx i 4 [.bool A]::Bx o 154 [.map (some t)]::MP (λk:AK=>Value.agg (AK.v k).toArray) Value.bool t G::L) λ_ _=>AD z∧DJ N c (EJ N c) n5 z A G=some r) N ?_ ?_ ?_
  ·intro j m d g
   exact⟨0,b5,b6,_,_,d.sub (kp [47,46,5,4,1,48] O),g,bb,(Cm.refl a9 ba),(iq (n:=0) O),E⟩
  ·rintro j m ⟨_,_,_,_,_,_,_,_,_,_,E⟩
   rw[DJ] at E;cases E
  rintro n5 j m ⟨z,A,G,g9,ha,d,g,aj,bc,hb,E⟩
  refine A8 ?_ d g
  clear d g m j
  rw[DJ] at E
  refine AE (BE O (AL (kp [49,47,46,5,4,1,48] O) (AC (AW O E (λe7 E=>?_) (λe7 E=>?_)))))
  ·refine AQ (AC (BW (WF.sl (A5 2 ?_))))
   obtain⟨b,df,E⟩:=bd E
   refine B6 O O (cg.mono' bc) Ht df O λhc e8=>BP BX aj.1 O e8 FC (λe=>by cases e) O λhd e9=>A6 (CX Mx O aj λhe hg dg ch=>?_)
   obtain⟨ci,cj,ck,rfl,fb,hh,hi,hj,fc,fd,fe,hk,hl,hm,hn,ho,hp,hq,hr,ht,hu,hv⟩:=CI.ex (e9.mono ch)
   refine IR (vs:=[.string b.J,vI b.C,vI b.I,vI b.E,ci,cj,ck,vI b.Q,vI b.Ab,vI b.Ad,vI b.O,vI b.N,vI b.H,vI b.Ak,vI b.Ae,vI b.Aa,vI b.Y,vI b.V]) (cs':=[.string b.J,vI b.C,vI b.I,vI b.E,ci,cj,ck,vI b.Q,vI b.Ab,vI b.Ad,vI b.O,vI b.N,vI b.H,vI b.Ak,vI b.Ae,vI b.Aa,vI b.Y,vI b.V]) O O O (AG O (AG O (AG O (AG O (AG fc.one (AG fd.one (AG fe.one (AG O (AG O (AG O (AG O (AG O (AG O (AG O (AG O (AG O (AG O (AG O GJ)))))))))))))))))) FC O dg .head O O λhx be ff=>AS (kp [11,47,46,5,4,1,48] O) (Gf (A5 3 (AA O (AF WY O (AT BX be O mh O P5 O (A6 ?_))))))
   have dh:=be.sel [2,2,1,0] 0 O
   obtain⟨cl,di,E⟩:=bd E
   refine GO O O O Pj O (D6 (c2_:=G) (c3_:=A) dh (by decide) fb di) λhy hz h0 fg p=>?_
   obtain⟨rfl,dj⟩:=p
   refine AS (kp [47,46,5,4,1,48] O) (B0 (CL (.inl O) (BD O (AA O (AL (kp [48,47,46,5,4,1] O) (WF.nil (λj m d g=>?_)))))))
   have dk:=dj.sel [2,0,0] 1 O
   exact⟨(B8 (z+1)),cl.2,cl.1,_,_,d.sub (kp [47,46,5,4,1,48] O),g,dk,(bc.trans (ch.trans (ff.trans fg))),(CJ _),E⟩
  refine WF.exit O (λj m d g=>?_)
  exact⟨A,G,_,_,d.sub (kp [5,4,1] O),g,aj,bc,E⟩
 rintro j m ⟨ap,aq,bf,bg,d,g,bh,cm,E⟩
 refine A8 ?_ d g
 clear d g m j
 rw[EJ] at E
 refine AC (AE ?_)
 have cn:=cf.mono cm
 refine AV O cn Gg K5 O λh1 fh=>BR BX bh.1 O fh O7 O λfi co=>BJ O co NS O λh2=>AA O (AL (kp [60,59,58,5,4,1] O) (BG (λa w=>∃(ar:Bool) (au:(List (AK×Bool))),IV B bf bg (106,[]) a w [(5,.func (.func 87) #[] #[vP o 0,vP i 0]),(4,vP i 0),(1,q1)] (Bx i 4 [.bool ar]::Bx o 154 [.map (some t)]::MP (λk:AK=>Value.agg (AK.v k).toArray) Value.bool t au::L) λ_ _=>EI N c ar au=some r) ?_ ?_))
 ·refine Bt (λn7=>λa w=>∃(M:Int) (U:Bool) (W:(List (AK×Bool))),IV B bf bg (106,[]) a w [(59,vI (↑c.Ac.length:Int)),(58,fi),(5,.func (.func 87) #[] #[vP o 0,vP i 0]),(4,vP i 0),(1,q1),(60,vI M)] (Bx i 4 [.bool U]::Bx o 154 [.map (some t)]::MP (λk:AK=>Value.agg (AK.v k).toArray) Value.bool t W::L) λ_ _=>AD M∧DI N c (EI N c) n7 M U W=some r) N ?_ ?_ ?_
  ·intro j m d g
   exact⟨0,ap,aq,_,_,d.sub (kp [59,58,5,4,1,60] O),g,bh,(Cm.refl bf bg),(iq (n:=0) O),E⟩
  ·rintro j m ⟨_,_,_,_,_,_,_,_,_,_,E⟩
   rw[DI] at E;cases E
  rintro n7 j m ⟨M,U,W,h4,h5,d,g,ak,bi,h6,E⟩
  refine A8 ?_ d g
  clear d g m j
  rw[DI] at E
  refine AE (BE O (AL (kp [61,59,58,5,4,1,60] O) (AC (AW O E (λfj E=>?_) (λfj E=>?_)))))
  ·refine AQ (AC (BW (WF.sl (A5 2 ?_))))
   obtain⟨u,dl,E⟩:=bd E
   refine B6 O O (co.mono' bi) NS dl O λh7 fk=>BP BX ak.1 O fk KY (λe=>by cases e) O λh9 fl=>A6 (CX Ql O ak λia ib dm cp=>?_)
   obtain⟨rfl,⟨fm,ic,id,ie,ig,ih,ii⟩⟩:=Fi.ex (fl.mono cp)
   refine BU (vs:=[.string u.J,vI u.Ah,vI u.Bc,vI u.Az,vI u.Bh,vI u.Bd,vI u.Aw]) O O O O KY O dm .head O λij bj fn=>AS (kp [13,59,58,5,4,1,60] O) (Gf (A5 3 (AA O (AF WX O (AT BX bj O mh O P5 O (A6 ?_))))))
   have dn:=bj.sel [2,2,1,0] 0 O
   obtain⟨cq,dp,E⟩:=bd E
   refine GO O O O Pj O (D6 (c2_:=W) (c3_:=U) dn (by decide) fm dp) λik il im fo p=>?_
   obtain⟨rfl,dq⟩:=p
   refine AS (kp [59,58,5,4,1,60] O) (B0 (CL (.inl O) (BD O (AA O (AL (kp [60,59,58,5,4,1] O) (WF.nil (λj m d g=>?_)))))))
   have dr:=dq.sel [2,0,0] 1 O
   exact⟨(B8 (M+1)),cq.2,cq.1,_,_,d.sub (kp [59,58,5,4,1,60] O),g,dr,(bi.trans (cp.trans (fn.trans fo))),(CJ _),E⟩
  refine WF.exit O (λj m d g=>?_)
  exact⟨U,W,_,_,d.sub (kp [5,4,1] O),g,ak,bi,E⟩
 rintro j m ⟨ar,au,bk,bl,d,g,bm,cr,E⟩
 refine A8 ?_ d g
 clear d g m j
 rw[EI] at E
 refine AC (AE ?_)
 have cs:=cn.mono cr
 refine AV O cs Hx O1 O λio fp=>BR BX bm.1 O fp Tk O λfq ct=>BJ O ct QK O λip=>AA O (AL (kp [72,71,70,5,4,1] O) (BG (λa w=>∃(av:Bool) (aw:(List (AK×Bool))),IV B bk bl (106,[]) a w [(5,.func (.func 87) #[] #[vP o 0,vP i 0]),(4,vP i 0),(1,q1)] (Bx i 4 [.bool av]::Bx o 154 [.map (some t)]::MP (λk:AK=>Value.agg (AK.v k).toArray) Value.bool t aw::L) λ_ _=>EH N c av aw=some r) ?_ ?_))
 ·refine Bt (λn9=>λa w=>∃(X:Int) (ab:Bool) (ac:(List (AK×Bool))),IV B bk bl (106,[]) a w [(71,vI (↑c.Aq.length:Int)),(70,fq),(5,.func (.func 87) #[] #[vP o 0,vP i 0]),(4,vP i 0),(1,q1),(72,vI X)] (Bx i 4 [.bool ab]::Bx o 154 [.map (some t)]::MP (λk:AK=>Value.agg (AK.v k).toArray) Value.bool t ac::L) λ_ _=>AD X∧DH N c (EH N c) n9 X ab ac=some r) N ?_ ?_ ?_
  ·intro j m d g
   exact⟨0,ar,au,_,_,d.sub (kp [71,70,5,4,1,72] O),g,bm,(Cm.refl bk bl),(iq (n:=0) O),E⟩
  ·rintro j m ⟨_,_,_,_,_,_,_,_,_,_,E⟩
   rw[DH] at E;cases E
  rintro n9 j m ⟨X,ab,ac,ir,it,d,g,am,bn,iu,E⟩
  refine A8 ?_ d g
  clear d g m j
  rw[DH] at E
  refine AE (BE O (AL (kp [73,71,70,5,4,1,72] O) (AC (AW O E (λfr E=>?_) (λfr E=>?_)))))
  ·refine AQ (AC (BW (WF.sl (A5 2 ?_))))
   obtain⟨cu,ds,E⟩:=bd E
   refine B6 O O (ct.mono' bn) QK ds O λiv fs=>BP BX am.1 O fs Qo (λe=>by cases e) O λiw ft=>A6 (CX VD O am λiy iz dt cv=>?_)
   obtain⟨rfl,⟨fu,i0⟩⟩:=Dr.ex (ft.mono cv)
   refine BU (vs:=[.string cu.J,vI cu.Ap]) O O O O Qo O dt .head O λi1 bo fv=>AS (kp [15,71,70,5,4,1,72] O) (Gf (A5 3 (AA O (AF WO O (AT BX bo O mh O P5 O (A6 ?_))))))
   have du:=bo.sel [2,2,1,0] 0 O
   obtain⟨cw,dv,E⟩:=bd E
   refine GO O O O Pj O (D6 (c2_:=ac) (c3_:=ab) du (by decide) fu dv) λi2 i3 i4 fw p=>?_
   obtain⟨rfl,dw⟩:=p
   refine AS (kp [71,70,5,4,1,72] O) (B0 (CL (.inl O) (BD O (AA O (AL (kp [72,71,70,5,4,1] O) (WF.nil (λj m d g=>?_)))))))
   have dx:=dw.sel [2,0,0] 1 O
   exact⟨(B8 (X+1)),cw.2,cw.1,_,_,d.sub (kp [71,70,5,4,1,72] O),g,dx,(bn.trans (cv.trans (fv.trans fw))),(CJ _),E⟩
  refine WF.exit O (λj m d g=>?_)
  exact⟨ab,ac,_,_,d.sub (kp [5,4,1] O),g,am,bn,E⟩
 rintro j m ⟨av,aw,bp,bq,d,g,br,cx,E⟩
 refine A8 ?_ d g
 clear d g m j
 rw[EH] at E
 refine AC (AE ?_)
 have cy:=cs.mono cx
 refine AV O cy Ji RB O λi5 fx=>BR BX br.1 O fx VN O λfy cz=>BJ O cz Ry O λi6=>AA O (AL (kp [84,83,82,5,4,1] O) (BG (λa w=>∃(ax:Bool) (ay:(List (AK×Bool))),IV B bp bq (106,[]) a w [(5,.func (.func 87) #[] #[vP o 0,vP i 0]),(4,vP i 0),(1,q1)] (Bx i 4 [.bool ax]::Bx o 154 [.map (some t)]::MP (λk:AK=>Value.agg (AK.v k).toArray) Value.bool t ay::L) λ_ _=>D5 N c ax ay=some r) ?_ ?_))
 ·refine Bt (λfz=>λa w=>∃(ad:Int) (ae:Bool) (af:(List (AK×Bool))),IV B bp bq (106,[]) a w [(83,vI (↑c.Am.length:Int)),(82,fy),(5,.func (.func 87) #[] #[vP o 0,vP i 0]),(4,vP i 0),(1,q1),(84,vI ad)] (Bx i 4 [.bool ae]::Bx o 154 [.map (some t)]::MP (λk:AK=>Value.agg (AK.v k).toArray) Value.bool t af::L) λ_ _=>AD ad∧C6 N c (D5 N c) fz ad ae af=some r) N ?_ ?_ ?_
  ·intro j m d g
   exact⟨0,av,aw,_,_,d.sub (kp [83,82,5,4,1,84] O),g,br,(Cm.refl bp bq),(iq (n:=0) O),E⟩
  ·rintro j m ⟨_,_,_,_,_,_,_,_,_,_,E⟩
   rw[C6] at E;cases E
  rintro fz j m ⟨ad,ae,af,i7,i8,d,g,an,bs,i9,E⟩
  refine A8 ?_ d g
  clear d g m j
  rw[C6] at E
  refine AE (BE O (AL (kp [85,83,82,5,4,1,84] O) (AC (AW O E (λf0 E=>?_) (λf0 E=>?_)))))
  ·refine AQ (AC (BW (WF.sl (A5 2 ?_))))
   obtain⟨ag,dy,E⟩:=bd E
   refine B6 O O (cz.mono' bs) Ry dy O λja f1=>BP BX an.1 O f1 Qp (λe=>by cases e) O λjb f2=>A6 (CX VE O an λjc jd dz c0=>?_)
   obtain⟨rfl,⟨f3,je,jf,jg,jh⟩⟩:=Ez.ex (f2.mono c0)
   refine BU (vs:=[.string ag.J,vI ag.C,vI ag.T,vI ag.Z,vI ag.Bl]) O O O O Qp O dz .head O λji bt f4=>AS (kp [17,83,82,5,4,1,84] O) (Gf (A5 3 (AA O (AF WS O (AT BX bt O mh O P5 O (A6 ?_))))))
   have d0:=bt.sel [2,2,1,0] 0 O
   obtain⟨c1,d1,E⟩:=bd E
   refine GO O O O Pj O (D6 (c2_:=af) (c3_:=ae) d0 (by decide) f3 d1) λjj jk jl f5 p=>?_
   obtain⟨rfl,d2⟩:=p
   refine AS (kp [83,82,5,4,1,84] O) (B0 (CL (.inl O) (BD O (AA O (AL (kp [84,83,82,5,4,1] O) (WF.nil (λj m d g=>?_)))))))
   have d3:=d2.sel [2,0,0] 1 O
   exact⟨(B8 (ad+1)),c1.2,c1.1,_,_,d.sub (kp [83,82,5,4,1,84] O),g,d3,(bs.trans (c0.trans (f4.trans f5))),(CJ _),E⟩
  refine WF.exit O (λj m d g=>?_)
  exact⟨ae,af,_,_,d.sub (kp [5,4,1] O),g,an,bs,E⟩
 rintro j m ⟨ax,ay,bu,bv,d,g,bw,c2,E⟩
 refine A8 ?_ d g
 clear d g m j
 rw[D5] at E
 refine AC (AE (AV O (cy.mono c2) KH RA O λjm f6=>BR BX bw.1 O f6 VM O λf7 c3=>BJ O c3 Rx O λjn=>AA O (AL (kp [96,95,94,5,4] O) (BG (λa w=>∃(bx:Bool),IV B bu bv (106,[]) a w [(4,vP i 0)] (Bx i 4 [.bool bx]::L) λ_ _=>D4 N bx=some r) ?_ ?_))))
 ·refine Bt (λf8=>λa w=>∃(ah:Int) (ai:Bool) (az:(List (AK×Bool))),IV B bu bv (106,[]) a w [(95,vI (↑c.An.length:Int)),(94,f7),(5,.func (.func 87) #[] #[vP o 0,vP i 0]),(4,vP i 0),(96,vI ah)] (Bx i 4 [.bool ai]::Bx o 154 [.map (some t)]::MP (λk:AK=>Value.agg (AK.v k).toArray) Value.bool t az::L) λ_ _=>AD ah∧C5 N c (D4 N) f8 ah ai az=some r) N ?_ ?_ ?_
  ·intro j m d g
   exact⟨0,ax,ay,_,_,d.sub (kp [95,94,5,4,96] O),g,bw,(Cm.refl bu bv),(iq (n:=0) O),E⟩
  ·rintro j m ⟨_,_,_,_,_,_,_,_,_,_,E⟩
   rw[C5] at E;cases E
  rintro f8 j m ⟨ah,ai,az,jo,jp,d,g,ao,bz,jq,E⟩
  refine A8 ?_ d g
  clear d g m j
  rw[C5] at E
  refine AE (BE O (AL (kp [97,95,94,5,4,96] O) (AC (AW O E (λf9 E=>?_) (λf9 E=>?_)))))
  ·refine AQ (AC (BW (WF.sl (A5 2 ?_))))
   obtain⟨x,d4,E⟩:=bd E
   refine B6 O O (c3.mono' bz) Rx d4 O λjr ga=>BP BX ao.1 O ga Qn (λe=>by cases e) O λjs gb=>A6 (CX VC O ao λjt ju d5 c4=>?_)
   obtain⟨rfl,⟨gc,jv,jw,jx,jy,jz,j0⟩⟩:=GN.ex (gb.mono c4)
   refine BU (vs:=[.string x.J,vI x.I,vI x.E,vI x.Bp,vI x.Bq,vI x.Bi,vI x.Bk]) O O O O Qn O d5 .head O λj1 b0 ge=>AS (kp [19,95,94,5,4,96] O) (Gf (A5 3 (AA O (AF WM O (AT BX b0 O mh O P5 O (A6 ?_))))))
   have d6:=b0.sel [2,2,1,0] 0 O
   obtain⟨c5,d7,E⟩:=bd E
   refine GO O O O Pj O (D6 (c2_:=az) (c3_:=ai) d6 (by decide) gc d7) λj2 j3 j4 gf p=>?_
   obtain⟨rfl,d8⟩:=p
   refine AS (kp [95,94,5,4,96] O) (B0 (CL (.inl O) (BD O (AA O (AL (kp [96,95,94,5,4] O) (WF.nil (λj m d g=>?_)))))))
   have d9:=d8.sel [2,0,0] 1 O
   exact⟨(B8 (ah+1)),c5.2,c5.1,_,_,d.sub (kp [95,94,5,4,96] O),g,d9,(bz.trans (c4.trans (ge.trans gf))),(CJ _),E⟩
  refine WF.exit O (λj m d g=>?_)
  have ea:=ao.sel [0] 2 O
  exact⟨ai,_,_,d.sub (kp [4] O),g,ea,bz,E⟩
 rintro j m ⟨bx,j5,j6,d,g,b1,gg,E⟩
 refine A8 ?_ d g
 clear d g m j
 rw[D4] at E
 refine AE (AT BX b1 O mh O N7 O (AJ O (kp [2] O) (WF.ret (λj m d g=>?_))))
 have eb:=b1.drop .head
 cases E
 exact EU d g O O (e5.trans (ec.trans (ee.trans (eg.trans (ei.trans (ej.trans (es.trans (ce.trans (cm.trans (cr.trans (cx.trans (c2.trans gg)))))))))))) ⟨O,eb⟩
end Go.Proofs.YtibidnaedddfdaaGreat
