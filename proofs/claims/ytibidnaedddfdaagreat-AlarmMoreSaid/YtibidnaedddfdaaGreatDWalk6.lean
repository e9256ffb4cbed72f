import Derived.Test.YtibidnaedddfdaaGreatDWalk5
namespace Go.Proofs.YtibidnaedddfdaaGreat
set_option linter.all false
open Go.RowKit
open Go.Proofs.Tryz
set_option maxRecDepth 10000
set_option maxHeartbeats 2000000
variable {N:Nat}{S:Nat→Prop}{L:List HP}{h:BB}
def MB (hs:St S L h) {s:Value}{x:AU}(G:Rd S h Ch s x) {r:Bool}(E:Ge N x=some r):
 Ct prog 44 #[s] S h (λv S' h'=>v= .bool r∧St S' (L) h'):=by
 refine BO (l:=[s]) 80 func44 O ntmps44 O λB=>?_
 rw[Ge] at E
 refine WF.sl (BM O G (λe=>by cases e) O hs λq1 S2 h3 Z e5 k6=>A5 1 (A4 O (A6 (AS (kp [1] O) (AC (AE (AV O k6 KH RA O λq7 k8=>BR BX Z.1 O k8 VM O λv9 ab=>BJ O ab Rx O λbp=>AA O (AL (kp [8,7,6,1] O) (BG (λa w=>IV B S2 h3 (80,[]) a w [] (L) λ_ _=>E5 N=some r) ?_ ?_)))))))))
 ·refine Bt (λn1=>λa w=>∃(z:Int),IV B S2 h3 (80,[]) a w [(7,vI (↑x.An.length:Int)),(6,v9),(1,q1),(8,vI z)] (L) λ_ _=>AD z∧Dl N x (E5 N) n1 z=some r) N ?_ ?_ ?_
  ·intro D F t u
   exact⟨0,_,_,t.sub (kp [7,6,1,8] O),u,Z,(Cm.refl S2 h3),(iq (n:=0) O),E⟩
  ·rintro D F ⟨_,_,_,_,_,_,_,_,E⟩
   rw[Dl] at E;cases E
  rintro n1 D F ⟨z,bq,br,t,u,A,y,bs,E⟩
  refine A8 ?_ t u
  clear t u F D
  rw[Dl] at E
  refine AE (BE O (AL (kp [9,7,6,1,8] O) (AC (AW O E (λay E=>?_) (λay E=>?_)))))
  ·refine AQ (AC (BW (WF.sl (A5 2 ?_))))
   obtain⟨b,ac,E⟩:=bd E
   refine B6 O O (ab.mono' y) Rx ac O λbt az=>BP BX A.1 O az Qn (λe=>by cases e) O λbu a0=>A6 (CX VC O A λbv bw ad C=>?_)
   obtain⟨rfl,⟨bx,a1,a2,a3,a4,a5,a6⟩⟩:=GN.ex (a0.mono C)
   refine BU (vs:=[.string b.J,vI b.I,vI b.E,vI b.Bp,vI b.Bq,vI b.Bi,vI b.Bk]) O O O O Qn O ad .head O λbz c H=>AS (kp [4,7,6,1,8] O) (AC (AC (WF.rc (.inl O) c (AF SQ O (AT Bs c O mh O AZ O ?_)))))
   have K:=k6.mono (y.trans (C.trans H))
   refine AV O K Gg K5 O λb0 a7=>BR Bs c.1 O a7 O7 O λb1 a8=>BJ O a8 NS O λa9=>?_
   obtain⟨ba,ae,E⟩:=bd E
   refine BL O O O Ph O (λh' o=>GE (St.all h') a1 (LW a9) ae) (BT O (AA O ?_))
   obtain⟨M,d,E⟩:=bd E
   refine AO 12 31 (.bool M) ?_ ?_
   ·cases af:(!ba)
    ·have d:=GY af d
     refine AB O (AF SP O (AB O (AT Bs c O mh O AZ O (AB O (AV O K Gg K5 O λb2 bb=>AB O (BR Bs c.1 O bb O7 O λb3 bc=>AB O (BJ O bc NS O λb4=>AB O (AV O K Hx O1 O λb5 be=>AB O (BR Bs c.1 O be Tk O λb6 bf=>AB O (BJ O bf QK O λb7=>AB O (BD O (AB O ?_))))))))))))
     obtain⟨b8,ag,d⟩:=bd d
     refine BL O O O Ph O (λh' o=>GE (St.all h') a2 (CJ _) ag) (AB O (BT O (AI O ?_)))
     cases d
     exact AN O
    have d:=GX af d
    cases d
    exact AX O O
   refine AA O (AO 6 38 (.bool (M||(decide (b.I=b.E)))) ?_ ?_)
   ·cases b9:M
    ·exact AB O (AF SQ O (AB O (AT Bs c O mh O AZ O (AB O (AF SP O (AB O (AT Bs c O mh O AZ O (AB O (CR O (AI O (AN O)))))))))))
    exact AX O O
   refine AA O ?_
   obtain⟨ah,g,E⟩:=bd E
   refine AO 5 44 (.bool ah) ?_ ?_
   ·cases ai:(M||(decide (b.I=b.E)))
    ·have g:=GY ai g
     refine AB O (AF WL O (AB O (AT Bs c O mh O AZ O (AB O ?_))))
     obtain⟨ca,aj,g⟩:=bd g
     refine BL O O O HV O (λh' o=>CH (St.all h') a3 (iq (n:=1) O) (iq (n:=24) O) aj) (AB O (BT O (AI O ?_)))
     cases g
     exact AN O
    have g:=GX ai g
    cases g
    exact AX O O
   refine AA O ?_
   obtain⟨ak,i,E⟩:=bd E
   refine AO 5 50 (.bool ak) ?_ ?_
   ·cases am:ah
    ·have i:=GY am i
     refine AB O (AF WK O (AB O (AT Bs c O mh O AZ O (AB O ?_))))
     obtain⟨cb,an,i⟩:=bd i
     refine BL O O O HV O (λh' o=>CH (St.all h') a4 (iq (n:=0) O) (iq (n:=1073741824) O) an) (AB O (BT O (AI O ?_)))
     cases i
     exact AN O
    have i:=GX am i
    cases i
    exact AX O O
   refine AA O ?_
   obtain⟨bg,j,E⟩:=bd E
   refine AO 5 56 (.bool bg) ?_ ?_
   ·cases ao:ak
    ·have j:=GY ao j
     refine AB O (AF SO O (AB O (AT Bs c O mh O AZ O (AB O ?_))))
     obtain⟨cc,ap,j⟩:=bd j
     refine BL O O O I3 O (λh' o=>CS (St.all h') a6 ap) (AB O (BT O (AI O ?_)))
     cases j
     exact AN O
    have j:=GX ao j
    cases j
    exact AX O O
   refine Bu (kp [56,4,7,6,1,8] O) λcd p Q=>AW O E (λbh E=>?_) (λbh E=>?_)
   ·refine AE (AJ O (kp [2] O) (WF.ret (λD F t u=>?_)))
    have aq:=p.drop .head
    cases E
    exact EU t u O O (e5.trans (y.trans (C.trans (H.trans Q)))) ⟨O,aq⟩
   refine AQ (AC (WF.rc (.inl O) p (AF PW O (AT Bs p O mh O AZ O (CR O (AA O (AO 4 64 (.bool ((decide (b.Bi=(-1)))&&(decide (b.Bk≠0)))) ?_ ?_)))))))
   ·cases ce:(decide (b.Bi=(-1)))
    ·exact AX O O
    exact AB O (AF SO O (AB O (AT Bs p O mh O AZ O (AB O (Cq O (AI O (AN O)))))))
   refine AA O ?_
   obtain⟨bi,k,E⟩:=bd E
   refine AO 13 78 (.bool bi) ?_ ?_
   ·cases ar:((decide (b.Bi=(-1)))&&(decide (b.Bk≠0)))
    ·have k:=GY ar k
     refine AB O (AF PW O (AB O (AT Bs p O mh O AZ O (AB O (Cq O (AB O (AA O ?_)))))))
     obtain⟨bj,m,k⟩:=bd k
     refine AO 8 77 (.bool bj) ?_ ?_
     ·cases au:(decide (b.Bi≠(-1)))
      ·have m:=GY au m
       cases m
       exact AX O O
      have m:=GX au m
      refine AB O (AF PW O (AB O (AT Bs p O mh O AZ O (AB O (AV O (K.mono Q) CC En O λcf bk=>AB O (BR Bs p.1 O bk HD O λcg bl=>AB O (BJ O bl Ga O λbm=>AB O ?_)))))))
      obtain⟨ch,av,m⟩:=bd m
      refine BL O O O Ph O (λh' o=>GE (St.all h') a5 (LW bm) av) (AB O (BT O (AB O (AI O ?_))))
      cases m
      exact AN O
     refine AI O ?_
     cases k
     exact AN O
    have k:=GX ar k
    cases k
    exact AX O O
   refine Bu (kp [78,7,6,1,8] O) λci U V=>AW O E (λaw E=>?_) (λaw E=>?_)
   ·refine AE (AJ O (kp [2] O) (WF.ret (λD F t u=>?_)))
    have W:=U.drop .head
    cases E
    exact EU t u O O (e5.trans (y.trans (C.trans (H.trans (Q.trans V))))) ⟨O,W⟩
   refine AQ (B0 (CL (.inl O) (BD O (AA O (AL (kp [8,7,6,1] O) (WF.nil (λD F t u=>?_)))))))
   have X:=U.drop .head
   exact⟨(B8 (z+1)),_,_,t.sub (kp [7,6,1,8] O),u,X,(y.trans (C.trans (H.trans (Q.trans V)))),(CJ _),E⟩
  refine WF.exit O (λD F t u=>?_)
  exact⟨_,_,t.sub Kv,u,A,y,E⟩
 rintro D F ⟨bn,bo,t,u,Y,ax,E⟩
 refine A8 ?_ t u
 clear t u F D
 rw[E5] at E
 refine AE (AJ O (kp [2] O) (WF.ret (λD F t u=>?_)))
 cases E
 exact EU t u O O (e5.trans ax) ⟨O,Y⟩
def Ok (hs:St S L h) {n:Value}{t:AU}(p:Rd S h Ch n t) {r:Bool}(E:G5 N t=some r):
 Ct prog 10 #[n] S h (λv S' h'=>v= .bool r∧St S' (L) h'):=by
 refine BO (l:=[n]) 37 func10 O ntmps10 O λB=>?_
 rw[G5] at E
 refine WF.sl (BM O p (λe=>by cases e) O hs λq1 S2 h3 a e5 s=>A5 1 (A4 O (A6 (AS (kp [1] O) (AC (WF.rc (.inl O) a (BP Bs a.1 O s Hc (λe=>by cases e) O λv7 k8=>?_)))))))
 obtain⟨y9,ad,E⟩:=bd E
 refine BL O O O eX O (λh' o=>Mk (St.all h') (k8.mono (o.all a.1)) ad) (AA O ?_)
 obtain⟨u,b,E⟩:=bd E
 refine AO 3 8 (.bool u) ?_ ?_
 ·cases w:y9
  ·have b:=GY w b
   cases b
   exact AX O O
  have b:=GX w b
  refine AB O (BP Bs a.1 O s Hc (λe=>by cases e) O λao ae=>AB O ?_)
  obtain⟨ap,x,b⟩:=bd b
  refine BL O O O eW O (λh' o=>MC (St.all h') (ae.mono (o.all a.1)) x) (AI O ?_)
  cases b
  exact AN O
 refine AA O ?_
 obtain⟨y,c,E⟩:=bd E
 refine AO 3 12 (.bool y) ?_ ?_
 ·cases z:u
  ·have c:=GY z c
   cases c
   exact AX O O
  have c:=GX z c
  refine AB O (BP Bs a.1 O s Hc (λe=>by cases e) O λaq af=>AB O ?_)
  obtain⟨ar,A,c⟩:=bd c
  refine BL O O O eV O (λh' o=>Lg (St.all h') (af.mono (o.all a.1)) A) (AI O ?_)
  cases c
  exact AN O
 refine AA O ?_
 obtain⟨C,d,E⟩:=bd E
 refine AO 3 16 (.bool C) ?_ ?_
 ·cases D:y
  ·have d:=GY D d
   cases d
   exact AX O O
  have d:=GX D d
  refine AB O (BP Bs a.1 O s Hc (λe=>by cases e) O λau ag=>AB O ?_)
  obtain⟨av,F,d⟩:=bd d
  refine BL O O O eU O (λh' o=>MD (St.all h') (ag.mono (o.all a.1)) F) (AI O ?_)
  cases d
  exact AN O
 refine AA O ?_
 obtain⟨G,g,E⟩:=bd E
 refine AO 3 20 (.bool G) ?_ ?_
 ·cases H:C
  ·have g:=GY H g
   cases g
   exact AX O O
  have g:=GX H g
  refine AB O (BP Bs a.1 O s Hc (λe=>by cases e) O λaw ah=>AB O ?_)
  obtain⟨ax,I,g⟩:=bd g
  refine BL O O O eS O (λh' o=>K9 (St.all h') (ah.mono (o.all a.1)) I) (AI O ?_)
  cases g
  exact AN O
 refine AA O ?_
 obtain⟨J,i,E⟩:=bd E
 refine AO 3 24 (.bool J) ?_ ?_
 ·cases K:G
  ·have i:=GY K i
   cases i
   exact AX O O
  have i:=GX K i
  refine AB O (BP Bs a.1 O s Hc (λe=>by cases e) O λay ai=>AB O ?_)
  obtain⟨az,M,i⟩:=bd i
  refine BL O O O eR O (λh' o=>Lf (St.all h') (ai.mono (o.all a.1)) M) (AI O ?_)
  cases i
  exact AN O
 refine AA O ?_
 obtain⟨Q,j,E⟩:=bd E
 refine AO 3 28 (.bool Q) ?_ ?_
 ·cases U:J
  ·have j:=GY U j
   cases j
   exact AX O O
  have j:=GX U j
  refine AB O (BP Bs a.1 O s Hc (λe=>by cases e) O λa0 aj=>AB O ?_)
  obtain⟨a1,V,j⟩:=bd j
  refine BL O O O eQ O (λh' o=>MA (St.all h') (aj.mono (o.all a.1)) V) (AI O ?_)
  cases j
  exact AN O
 refine AA O ?_
 obtain⟨W,k,E⟩:=bd E
 refine AO 3 32 (.bool W) ?_ ?_
 ·cases X:Q
  ·have k:=GY X k
   cases k
   exact AX O O
  have k:=GX X k
  refine AB O (BP Bs a.1 O s Hc (λe=>by cases e) O λa2 ak=>AB O ?_)
  obtain⟨a3,Y,k⟩:=bd k
  refine BL O O O eP O (λh' o=>Lh (St.all h') (ak.mono (o.all a.1)) Y) (AI O ?_)
  cases k
  exact AN O
 refine AA O ?_
 obtain⟨al,m,E⟩:=bd E
 refine AO 3 36 (.bool al) ?_ ?_
 ·cases Z:W
  ·have m:=GY Z m
   cases m
   exact AX O O
  have m:=GX Z m
  refine AB O (BP Bs a.1 O s Hc (λe=>by cases e) O λa4 am=>AB O ?_)
  obtain⟨a5,ab,m⟩:=bd m
  refine BL O O O eO O (λh' o=>MB (St.all h') (am.mono (o.all a.1)) ab) (AI O ?_)
  cases m
  exact AN O
 refine A4 O (Bu (kp [2] O) λa6 ac an=>WF.ret (λaa ww hf hw=>?_))
 cases E
 exact EU hf hw O O (e5.trans an) ⟨O,ac⟩
def KZ (Q:St S L h) {c:Value}{a:AH}(i:Rd S h AM c a) {d:Value}{b:AH}(j:Rd S h AM d b) {r:AH}(E:H2 N a b=some r):
 Ct prog 54 #[c,d] S h (λv S' h'=>v= .agg #[vI r.B,vI r.A]∧AH.ok r∧St S' (L) h'):=by
 refine BO (l:=[c,d]) 16 func54 O ntmps54 O λB=>?_
 rw[H2] at E
 refine WF.sl (BM O i (λe=>by cases e) O Q λq1 S2 h3 u J U=>BM O (j.mono J) (λe=>by cases e) O u λq8 S9 V n o w=>CX F7 O n λW X g m=>AS (kp [4,3,2] O) (WF.sl (A5 11 ?_)))
 have p:=U.mono (o.trans m)
 refine AV O p AH.f_Lo EV O λY x=>AY BX g.1 O x AZ O λy=>?_
 have s:=w.mono m
 refine AV O s AH.f_Lo EV O λZ z=>AY BX g.1 O z AZ O λC=>LE O O O (AV O p AH.f_Hi D2 O λab D=>AY BX g.1 O D AZ O λF=>AV O s AH.f_Hi D2 O λac G=>AY BX g.1 O G AZ O λH=>Jf O O O (DB (cs:=[vI (min a.B b.B),vI (max a.A b.A)]) Ip O O O (A6 (BU (vs:=[vI (min a.B b.B),vI (max a.A b.A)]) O O O O BY O g .head O λad k I=>AS (kp [4] O) (WF.ret (λaa ww K M=>?_))))))
 have t:=k.drop .head
 cases E
 exact I1 K O M (IH (M2 K M k O mh BY O) Io) O (J.trans (o.trans (m.trans I))) ⟨O,⟨(ID y C),(HI F H)⟩,t⟩
def JY (A:St S L h) {b:Value}{i:AH}(d:Rd S h AM b i) {c:Value}{j:AH}(g:Rd S h AM c j) {r:Bool}(E:G4 N i j=some r):
 Ct prog 14 #[b,c] S h (λv S' h'=>v= .bool r∧St S' (L) h'):=by
 refine BO (l:=[b,c]) 10 func14 O ntmps14 O λB=>?_
 rw[G4] at E
 refine WF.sl (BM O d (λe=>by cases e) O A λX Y Z s z C=>BM O (g.mono z) (λe=>by cases e) O s λq8 S9 D a k m=>A5 1 (A4 O (A6 (AS (kp [3,2] O) (AC (WF.rc (.inr ⟨mo,by kernel_rfl⟩) a (BP Bs a.1 O (C.mono k) BY (λe=>by cases e) O λF t=>BP Bs a.1 O m BY (λe=>by cases e) O λG u=>?_)))))))
 obtain⟨H,n,E⟩:=bd E
 refine Bz O O O Wm O (λh' o=>KZ (St.all h') (t.mono (o.all a.1)) (u.mono (o.all a.1)) n) λw=>?_
 obtain⟨I,J⟩:=w
 refine BP Bs a.1 O m BY (λe=>by cases e) O λK x=>?_
 obtain⟨rfl,⟨M,Q⟩⟩:=AM.ex x
 refine Pq O O SG O O O O (A4 O (Bu (kp [4] O) λU p y=>WF.ret (λaa ww V W=>?_)))
 cases E
 exact EU V W O O (z.trans (k.trans y)) ⟨O,p⟩
def H0 (g:St S L h) {b:Int}(d:AD b) {a:Int}(c:AD a) {r:Bool}(E:GK N b a=some r):
 Ct prog 45 #[vI b,vI a] S h (λv S' h'=>v= .bool r∧St S' (L) h'):=by
 refine BO (l:=[vI b,vI a]) 12 func45 O ntmps45 O λB=>?_
 rw[GK] at E
 refine AE (AJ O (kp [0,1] O) (AE (AA O (EQ O (AA O (AO 4 11 (.bool ((decide (0≤b))&&(decide (b<a)))) ?_ ?_))))))
 ·cases k:(decide (0≤b))
  ·exact AX O O
  exact AB O (AA O (AB O (AA O (AB O (BE O (AI O (AN O)))))))
 refine AJ O (kp [4] O) (WF.ret (λm n i j=>?_))
 cases E
 exact EU i j O O (Cm.refl S h) ⟨O,g⟩
def KV (c:St S L h) {a:Int}(b:AD a) {r:Bool}(E:Hi N a=some r):
 Ct prog 144 #[vI a] S h (λv S' h'=>v= .bool r∧St S' (L) h'):=by
 refine BO (l:=[vI a]) 6 func144 O ntmps144 O λB=>?_
 rw[Hi] at E
 refine AE (AJ O (kp [0] O) (AE (AA O (AA O (Cq O (AJ O (kp [2] O) (WF.ret (λi j d g=>?_))))))))
 cases E
 exact EU d g O O (Cm.refl S h) ⟨O,c⟩
def Jn (C:St S L h) {a:Int}(j:AD a) {b:Int}(k:AD b) {r:Int}(E:F9 N a b=some r):
 Ct prog 99 #[vI a,vI b] S h (λv S' h'=>v=vI r∧AD r∧St S' (L) h'):=by
 refine BO (l:=[vI a,vI b]) 20 func99 O ntmps99 O λB=>?_
 rw[F9] at E
 refine AE (AJ O (kp [0,1] O) (AC (WF.rc (.inl O) C (AA O ?_))))
 obtain⟨D,s,E⟩:=bd E
 refine BL O O O Wr O (λh' o=>KV (St.all h') j s) (A4 O (Bu (kp [5,0,1] O) λF t m=>AC (WF.rc (.inl O) t (AA O ?_))))
 obtain⟨G,u,E⟩:=bd E
 refine BL O O O Wr O (λh' o=>KV (St.all h') k u) (A4 O (Bu (kp [6,5,0,1] O) λH c d=>AC (AE (AA O (AL (kp [11,6,0,1] O) (AW O E (λw E=>?_) (λw E=>?_)))))))
 ·refine AC (AE (AA O (AL (kp [12] O) (AW O E (λx E=>?_) (λx E=>?_)))))
  ·refine AE (AJ O (kp [4] O) (WF.ret (λp q g i=>?_)))
   cases E
   exact EU g i O O (m.trans d) ⟨O,(iq (n:=0) O),c⟩
  refine AQ (AE (AJ O (kp [4] O) (WF.ret (λp q g i=>?_))))
  cases E
  exact EU g i O O (m.trans d) ⟨O,(iq (n:=(-1)) O),c⟩
 refine AQ (AC (AE (AA O (AL (kp [13,0,1] O) (AW O E (λy E=>?_) (λy E=>?_))))))
 ·refine AE (AJ O (kp [4] O) (WF.ret (λp q g i=>?_)))
  cases E
  exact EU g i O O (m.trans d) ⟨O,(iq (n:=1) O),c⟩
 refine AQ (AC (AE (AA O (AA O (BE O (AL (kp [16,0,1] O) (AW O E (λz E=>?_) (λz E=>?_))))))))
 ·refine AE (AJ O (kp [4] O) (WF.ret (λp q g i=>?_)))
  cases E
  exact EU g i O O (m.trans d) ⟨O,(iq (n:=(-1)) O),c⟩
 refine AQ (AC (AE (AA O (AA O (CN O (AL (kp [19] O) (AW O E (λA E=>?_) (λA E=>?_))))))))
 ·refine AE (AJ O (kp [4] O) (WF.ret (λp q g i=>?_)))
  cases E
  exact EU g i O O (m.trans d) ⟨O,(iq (n:=1) O),c⟩
 refine AQ (AE (AJ O (kp [4] O) (WF.ret (λp q g i=>?_))))
 cases E
 exact EU g i O O (m.trans d) ⟨O,(iq (n:=0) O),c⟩
def Pe (C:St S L h) {b:Value}{c:(List Int)}(d:Sl S h BQ b c) {r:Int}(E:Iw N c=some r):
 Ct prog 98 #[b] S h (λv S' h'=>v=vI r∧AD r∧St S' (L) h'):=by
 refine BO (l:=[b]) 18 func98 O ntmps98 O λB=>?_
 rw[Iw] at E
 refine AE (AJ O (kp [0] O) (AE (AJ O (kp [3,0] O) (AC (AE (AA O (BJ O d Hf O λI=>AA O (AL (kp [8,7,6,3] O) (BG (λa w=>IV B S h (18,[]) a w [(3,vI 0)] (L) λ_ _=>Hj N=some r) ?_ ?_)))))))))
 ·refine Bt (λA=>λa w=>∃(o:Int),IV B S h (18,[]) a w [(7,vI (↑c.length:Int)),(6,b),(3,vI 0),(8,vI o)] (L) λ_ _=>AD o∧Gn N c (Hj N) A o=some r) N ?_ ?_ ?_
  ·intro j k g i
   exact⟨0,_,_,g.sub (kp [7,6,3,8] O),i,C,(Cm.refl S h),(iq (n:=0) O),E⟩
  ·rintro j k ⟨_,_,_,_,_,_,_,_,E⟩
   rw[Gn] at E;cases E
  rintro A j k ⟨o,J,K,g,i,m,s,M,E⟩
  refine A8 ?_ g i
  clear g i k j
  rw[Gn] at E
  refine AE (BE O (AL (kp [9,7,6,3,8] O) (AC (AW O E (λt E=>?_) (λt E=>?_)))))
  ·refine AQ (AC (BW (AE ?_)))
   obtain⟨D,p,E⟩:=bd E
   refine B6 O O (d.mono' s) Hf p O λF u=>AY BX m.1 O u AZ O λx=>AJ O (kp [5,7,6,3,8] O) (AE (AA O (AA O (Cq O (AL (kp [14,5,7,6,3,8] O) (AW O E (λy E=>?_) (λy E=>?_)))))))
   ·refine AE (AA O (AJ O (kp [2] O) (WF.ret (λj k g i=>?_))))
    cases E
    exact EU g i O O s ⟨O,x,m⟩
   refine AQ (B0 (CL (.inl O) (BD O (AA O (AL (kp [8,7,6,3] O) (WF.nil (λj k g i=>?_)))))))
   exact⟨(B8 (o+1)),_,_,g.sub (kp [7,6,3,8] O),i,m,s,(CJ _),E⟩
  refine WF.exit O (λj k g i=>?_)
  exact⟨_,_,g.sub (kp [3] O),i,m,s,E⟩
 rintro j k ⟨G,H,g,i,q,z,E⟩
 refine A8 ?_ g i
 clear g i k j
 rw[Hj] at E
 refine AE (AA O (AJ O (kp [2] O) (WF.ret (λj k g i=>?_))))
 cases E
 exact EU g i O O z ⟨O,(iq (n:=0) O),q⟩
def Lv (hs:St S L h) {j:Value}{c:B9}(y:Rd S h Ce j c) {k:Value}{d:B9}(z:Rd S h Ce k d) {r:Int}(E:Eo N c d=some r):
 Ct prog 46 #[j,k] S h (λv S' h'=>v=vI r∧AD r∧St S' (L) h'):=by
 refine BO (l:=[j,k]) 17 func46 O ntmps46 O λB=>?_
 rw[Eo] at E
 refine WF.sl (BM O y (λe=>by cases e) O hs λq1 S2 h3 ar e5 k6=>BM O (z.mono e5) (λe=>by cases e) O ar λq8 W au a G Y=>A5 1 (A4 O (A6 (AS (kp [3,2] O) (AC ?_)))))
 obtain⟨s,Z,E⟩:=bd E
 obtain⟨t,ab,E⟩:=bd E
 obtain⟨A,ac,E⟩:=bd E
 refine Sm (m:=[(3,q8),(2,q1)]) 13 (λi v x=>match i with|0=>Pt W x BQ v c.X|1=>v=vI c.X∧AD c.X|2=>Pt W x BQ v d.X|3=>v=vI d.X∧AD d.X|4=>v=vI s∧AD s|5=>Pt W x BQ v c.E|6=>v=vI c.E∧AD c.E|7=>Pt W x BQ v d.E|8=>v=vI d.E∧AD d.E|9=>v=vI t∧AD t|10=>Sl (SN W au x) x BQ v ([s,t]:List Int)∧∃ad,v= .slice (some ad) 2 2|11=>v=vI A∧AD A|12=>v=vI A∧AD A|_=>False) [[],[(0,5)],[],[(2,7)],[(1,6),(3,8)],[],[(5,10)],[],[(7,12)],[(6,11),(8,13)],[(4,9),(9,14)],[(10,15)],[(11,16)]] [(12,4)] mo (by kernel_rfl) [3,2] O (by kernel_rfl) (by kernel_rfl) (by kernel_rfl) (kp [3,2] O) (λi v h1 h2 o1 o2 g=>?_) ?_ ?_
 ·match i,g with
   |0,g|2,g|5,g|7,g=>exact N0.mono g (o2.ext λb C=>iY (a.1 b C) o1.siz)
   |1,g|3,g|4,g|6,g|8,g|9,g|11,g|12,g=>exact g
   |10,g=>exact⟨Sl.mono' g.1 (SN.mono a.1 o1 o2),g.2⟩
   |_+13,g=>exact g.elim
 ·refine DU.cons O (λ_ _ o=>A5 1 (AV O (k6.mono (G.trans (o.ext a.1))) Qg Oz O λb2 av=>BF av)) (DU.cons O (λ_ _ o aw H=>by have H:Pt _ _ BQ aw c.X:=H;exact A5 1 (AY BX (o.st a).1 O H AZ O λax=>BF ⟨O,ax⟩)) (DU.cons O (λ_ _ o=>A5 1 (AV O (Y.mono (o.ext a.1)) Qg Oz O λb3 ay=>BF ay)) (DU.cons O (λ_ _ o az I=>by have I:Pt _ _ BQ az d.X:=I;exact A5 1 (AY BX (o.st a).1 O I AZ O λa0=>BF ⟨O,a0⟩)) ?_)))
  refine DU.cons O ?_ ?_
  ·intro mq x o
   intro b4 a1 b5 a2
   have n:=SN.st a o
   obtain⟨rfl,a3⟩:=a1
   obtain⟨rfl,a4⟩:=a2
   refine Ea O O O Y3 O n (Jn (St.all _) a3 a4 Z) λb6 b7 b8 bn b9 ae p=>?_
   obtain⟨rfl,a5,bo⟩:=p
   exact GB ⟨ae.siz,λb C=>ae.same b C⟩ ⟨O,a5⟩
  refine DU.cons O (λ_ _ o=>A5 1 (AV O (k6.mono (G.trans (o.ext a.1))) B9.f_To Ni O λca a6=>BF a6)) (DU.cons O (λ_ _ o a7 J=>by have J:Pt _ _ BQ a7 c.E:=J;exact A5 1 (AY BX (o.st a).1 O J AZ O λa8=>BF ⟨O,a8⟩)) (DU.cons O (λ_ _ o=>A5 1 (AV O (Y.mono (o.ext a.1)) B9.f_To Ni O λcb a9=>BF a9)) (DU.cons O (λ_ _ o ba K=>by have K:Pt _ _ BQ ba d.E:=K;exact A5 1 (AY BX (o.st a).1 O K AZ O λbb=>BF ⟨O,bb⟩)) ?_)))
  refine DU.cons O ?_ ?_
  ·intro mq x o
   intro cc bc cd be
   have n:=SN.st a o
   obtain⟨rfl,bf⟩:=bc
   obtain⟨rfl,bg⟩:=be
   refine Ea O O O Y3 O n (Jn (St.all _) bf bg ab) λce cf cg bp ch af p=>?_
   obtain⟨rfl,bh,bq⟩:=p
   exact GB ⟨af.siz,λb C=>af.same b C⟩ ⟨O,bh⟩
  refine DU.cons O ?_ ?_
  ·intro mq x o
   intro ci bi cj ag
   have n:=SN.st a o
   obtain⟨rfl,ah⟩:=bi
   obtain⟨rfl,ai⟩:=ag
   have bj:=n.fz
   refine JF (cs:=[vI s,vI t]) Wb O O O O O O O bj λbr bs M aj=>?_
   have Q:=M.bxos (r:=BQ) (l:=([s,t]:List Int)) .head ⟨_,_,O,⟨O,ah⟩,⟨_,_,O,⟨O,ai⟩,O⟩⟩ (by simp [maxLen])
   obtain⟨bt,U,ak,al⟩:=Q.pubs .head
   have u:=Fz.done o (aj.trans ak) U
   exact GB u.1 ⟨Sl.mono' al u.2,_,O⟩
  refine DU.cons O ?_ ?_
  ·intro mq x o
   intro bu w
   have n:=SN.st a o
   obtain⟨w,bk,rfl⟩:=w
   refine Ea O O O dX O n (Pe (St.all _) (w.mono (λb C=>n.1 b C) (λ_ _=>rfl)) ac) λbv bw bx bl bz D p=>?_
   obtain⟨rfl,am,bm⟩:=p
   exact GB ⟨D.siz,λb C=>D.same b C⟩ ⟨O,am⟩
  exact DU.cons O (λ_ _ _ _ an=>by obtain⟨rfl,ao⟩:=an;exact A5 1 (A4 O (BF ⟨O,ao⟩))) trivial
 intro b0 F b1 ap
 have V:=SN.st a F
 obtain⟨rfl,aq⟩:=ap
 refine AS (kp [4] O) (WF.ret (λaa ww hf hw=>?_))
 cases E
 exact EU hf hw O O (e5.trans (G.trans (SN.ext a.1 F))) ⟨O,aq,V⟩
def Ky (m:St S L h) {b:Value}{c:AH}(d:Rd S h AM b c) {a:Int}(i:AD a) {r:Bool}(E:H3 N c a=some r):
 Ct prog 73 #[b,vI a] S h (λv S' h'=>v= .bool r∧St S' (L) h'):=by
 refine BO (l:=[b,vI a]) 15 func73 O ntmps73 O λB=>?_
 rw[H3] at E
 refine WF.sl (BM O d (λe=>by cases e) O m λx y z g n k=>A5 1 (A4 O (A6 (AS (kp [2,1] O) (AE (AV O k AH.f_Lo EV O λC o=>AY BX g.1 O o AZ O λD=>AA O (HC O (AA O (AO 5 14 (.bool ((decide (c.B≤a))&&(decide (a≤c.A)))) ?_ ?_)))))))))
 ·cases p:(decide (c.B≤a))
  ·exact AX O O
  exact AB O (AA O (AB O (AV O k AH.f_Hi D2 O λs j=>AB O (AY BX g.1 O j AZ O λt=>AB O (HC O (AI O (AN O)))))))
 refine AJ O (kp [4] O) (WF.ret (λF G u w=>?_))
 cases E
 exact EU u w O O n ⟨O,g⟩
def GP (k:St S L h) {a:Int}(b:AD a) {r:AH}(E:E2 N a=some r):
 Ct prog 66 #[vI a] S h (λv S' h'=>v= .agg #[vI r.B,vI r.A]∧AH.ok r∧St S' (L) h'):=by
 refine BO (l:=[vI a]) 6 func66 O ntmps66 O λB=>?_
 rw[E2] at E
 refine WF.sl (CX F7 O k λo p d m=>AS (kp [2,0] O) (WF.sl (A5 3 (AA O (AA O (DB (cs:=[vI a,vI a]) Ip O O O (A6 (BU (vs:=[vI a,vI a]) O O O O BY O d .head O λs c n=>AS (kp [2] O) (WF.ret (λt u i j=>?_))))))))))
 have g:=c.drop .head
 cases E
 exact I1 i O j (IH (M2 i j c O mh BY O) Io) O (m.trans n) ⟨O,⟨b,b⟩,g⟩
def M6 (hs:St S L h) {m:Value}{b:A7}(M:Rd S h CI m b) {s:Value}{k:BA}(U:Rd S h BK s k) {r:Bool}(E:GT N b k=some r):
 Ct prog 47 #[m,s] S h (λv S' h'=>v= .bool r∧St S' (L) h'):=by
 refine BO (l:=[m,s]) 61 func47 O ntmps47 O λB=>?_
 rw[GT] at E
 refine WF.sl (BM O M (λe=>by cases e) O hs λq1 S2 h3 ba e5 k6=>BM O (U.mono e5) (λe=>by cases e) O ba λq8 S9 ch W V bb=>A5 1 (A4 O (A6 (AS (kp [3,2] O) (WF.sl (A5 3 ?_))))))
 have ae:=k6.mono V
 refine AV O ae DD Hg O λci bc=>AY BX W.1 O bc AZ O λaf=>DB (cs:=[vI 0,vI b.Q]) Ip O O O (A6 (CX F7 O W λcj ck ag w=>BU (vs:=[vI 0,vI b.Q]) O O O O BY O ag .head O λcl d y=>AS (kp [5,3,2] O) (AC (AC (WF.rc (.inl O) d ?_)))))
 have z:=bb.mono (w.trans y)
 refine AV O z BA.f_Pos JJ O λcm be=>BP Bs d.1 O be BY (λe=>by cases e) O λcn bf=>?_
 obtain⟨bg,ah,E⟩:=bd E
 refine BL O O O Qc O (λh' o=>HE (St.all h') (bf.mono (o.all d.1)) ah) (BT O (AA O ?_))
 obtain⟨ai,g,E⟩:=bd E
 refine AO 6 21 (.bool ai) ?_ ?_
 ·cases aj:(!bg)
  ·have g:=GY aj g
   refine AB O (AV O z BA.f_Pos JJ O λco bh=>AB O (BP Bs d.1 O bh BY (λe=>by cases e) O λcp bi=>AB O (Cw (vs:=[vI 0,vI b.Q]) Bs d O mh O O BY O O (AB O ?_))))
   obtain⟨cq,ak,g⟩:=bd g
   refine BL O O O Wv O (λh' o=>JY (St.all h') (bi.mono (o.all d.1)) (AM.mk (x:=(⟨0,b.Q⟩:AH)) ⟨(iq (n:=0) O),af⟩) ak) (AB O (BT O (AI O ?_)))
   cases g
   exact AN O
  have g:=GX aj g
  cases g
  exact AX O O
 refine AA O ?_
 obtain⟨bj,i,E⟩:=bd E
 refine AO 6 28 (.bool bj) ?_ ?_
 ·cases am:ai
  ·have i:=GY am i
   refine AB O (Cw (vs:=[vI 0,vI b.Q]) Bs d O mh O O BY O O (AB O (AV O z BA.f_Target Oy O λcr bk=>AB O (AY Bs d.1 O bk AZ O λbl=>AB O ?_))))
   obtain⟨ct,an,i⟩:=bd i
   refine BL O O O Wl O (λh' o=>Ky (St.all h') (AM.mk (x:=(⟨0,b.Q⟩:AH)) ⟨(iq (n:=0) O),af⟩) bl an) (AB O (BT O (AI O ?_)))
   cases i
   exact AN O
  have i:=GX am i
  cases i
  exact AX O O
 refine Bu (kp [28,3,2] O) λcu X u=>AW O E (λbm E=>?_) (λbm E=>?_)
 ·refine AE (AJ O (kp [4] O) (WF.ret (λaa ww hf hw=>?_)))
  have ao:=X.drop .head
  cases E
  exact EU hf hw O O (e5.trans (V.trans (w.trans (y.trans u)))) ⟨O,ao⟩
 refine AQ (WF.sl ?_)
 obtain⟨j,ap,E⟩:=bd E
 refine Ea O O O Mr O X (GP (St.all _) (iq (n:=0) O) ap) λcv cw cx aq D cy p=>?_
 obtain⟨rfl,⟨bn,bo⟩,bu⟩:=p
 obtain⟨t,ar,E⟩:=bd E
 refine Ea O O O Mr O aq (GP (St.all _) (iq (n:=1) O) ar) λcz c0 c1 au F c2 p=>?_
 obtain⟨rfl,⟨bp,bq⟩,bv⟩:=p
 refine CX F7 O au λc3 c4 av G=>CX F7 O av λc5 c6 aw H=>BU (vs:=[vI j.B,vI j.A]) O O O O BY O aw (.tail .head) O λc7 ax I=>BU (vs:=[vI t.B,vI t.A]) O O O O BY O ax .head O λc8 a J=>AS (kp [7,6,3,2] O) (AC (AE ?_))
 have ay:=ae.mono (w.trans (y.trans (u.trans (D.trans (F.trans (G.trans (H.trans (I.trans J))))))))
 refine AV O ay A7.f_Kind E6 O λc9 br=>AY BX a.1 O br AZ O λda=>Cq O (AA O (AO 4 38 (.bool ((decide (b.C≠5))&&(decide (b.C≠3)))) ?_ ?_))
 ·cases db:(decide (b.C≠5))
  ·exact AX O O
  exact AB O (AV O ay A7.f_Kind E6 O λdc bs=>AB O (AY BX a.1 O bs AZ O λdd=>AB O (Cq O (AI O (AN O)))))
 refine AL (kp [38,7,6,3] O) (AW O E (λbt E=>?_) (λbt E=>?_))
 ·refine AE (AV O (z.mono (u.trans (D.trans (F.trans (G.trans (H.trans (I.trans J))))))) BA.f_Open JI O λde az=>BP BX a.1 O az BY (λe=>by cases e) O λbw a0=>Cw (vs:=[vI j.B,vI j.A]) BX a O (mt mh) O O BY O O ?_)
  obtain⟨rfl,⟨bx,bz⟩⟩:=AM.ex a0
  refine Pq O O SG O O O O (AJ O (kp [4] O) (WF.ret (λaa ww hf hw=>?_)))
  have Z:=a.sel [] 3 O
  cases E
  exact EU hf hw O O (e5.trans (V.trans (w.trans (y.trans (u.trans (D.trans (F.trans (G.trans (H.trans (I.trans J)))))))))) ⟨O,Z⟩
 refine AQ (AC (WF.rc (.inr ⟨mo,by kernel_rfl⟩) a ?_))
 have K:=z.mono (u.trans (D.trans (F.trans (G.trans (H.trans (I.trans J))))))
 refine AV O K BA.f_Open JI O λb0 a1=>BP Bs a.1 O a1 BY (λe=>by cases e) O λb1 a2=>Cw (vs:=[vI j.B,vI j.A]) Bs a O (mt mh) O O BY O O ?_
 obtain⟨rfl,⟨b2,b3⟩⟩:=AM.ex a2
 refine Pq O O SG O O O O (AA O (AO 5 52 (.bool ((P3 k.R.v j.v)||(P3 k.R.v t.v))) ?_ ?_))
 ·cases b4:(P3 k.R.v j.v)
  ·refine AB O (AV O K BA.f_Open JI O λb5 a3=>AB O (BP Bs a.1 O a3 BY (λe=>by cases e) O λb6 a4=>AB O (Cw (vs:=[vI t.B,vI t.A]) Bs a O mh O O BY O O (AB O ?_))))
   obtain⟨rfl,⟨b7,b8⟩⟩:=AM.ex a4
   exact Pq O O SG O O O O (AI O (AN O))
  exact AX O O
 refine AA O ?_
 obtain⟨a5,c,E⟩:=bd E
 refine AO 7 60 (.bool a5) ?_ ?_
 ·cases Y:((P3 k.R.v j.v)||(P3 k.R.v t.v))
  ·have c:=GY Y c
   refine AB O (AV O K BA.f_Open JI O λb9 a6=>AB O (BP Bs a.1 O a6 BY (λe=>by cases e) O λca a7=>AB O (Cw (vs:=[vI j.B,vI j.A]) Bs a O (mt mh) O O BY O O (AB O (Cw (vs:=[vI t.B,vI t.A]) Bs a O mh O O BY O O (AB O ?_))))))
   obtain⟨cb,ab,c⟩:=bd c
   refine Bz O O O Wm O (λh' o=>KZ (St.all h') (AM.mk (x:=j) ⟨bn,bo⟩) (AM.mk (x:=t) ⟨bp,bq⟩) ab) λa8=>?_
   obtain⟨cc,cd⟩:=a8
   refine AB O ?_
   obtain⟨rfl,⟨ce,cf⟩⟩:=AM.ex a7
   refine Pq O O SG O O O O (AI O ?_)
   cases c
   exact AN O
  have c:=GX Y c
  cases c
  exact AX O O
 refine A4 O (Bu (kp [4] O) λcg ac a9=>WF.ret (λaa ww hf hw=>?_))
 have ad:=ac.sel [] 3 O
 cases E
 exact EU hf hw O O (e5.trans (V.trans (w.trans (y.trans (u.trans (D.trans (F.trans (G.trans (H.trans (I.trans (J.trans a9))))))))))) ⟨O,ad⟩
def PQ (hs:St S L h) {Y:Value}{k:AU}(a4:Rd S h Ch Y k) {Z:Value}{b:Cf}(a5:Rd S h EZ Z b) {r:Bool}(E:It N k b=some r):
 Ct prog 11 #[Y,Z] S h (λv S' h'=>v= .bool r∧St S' (L) h'):=by
 refine BO (l:=[Y,Z]) 128 func11 O ntmps11 O λB=>?_
 rw[It] at E
 refine WF.sl (BM O a4 (λe=>by cases e) O hs λq1 S2 h3 dj e5 k6=>BM O (a5.mono e5) (λe=>by cases e) O dj λq8 S9 fh z Q ap=>A5 1 (A4 O (A6 (AS (kp [3,2] O) (AC (AE (AV O ap LJ KT O λfi dk=>AY BX z.1 O dk AZ O λfj=>BE O (AA O (AO 4 19 (.bool ((decide (b.K<0))||(decide (16777216<b.K)))) ?_ ?_)))))))))
 ·cases fk:(decide (b.K<0))
  ·exact AB O (AV O ap LJ KT O λfl dl=>AB O (AY BX z.1 O dl AZ O λfm=>AB O (CN O (AI O (AN O)))))
  exact AX O O
 refine AA O (AO 8 28 (.bool (((decide (b.K<0))||(decide (16777216<b.K)))||(decide ((↑b.M.length:Int)≠(↑k.D.length:Int))))) ?_ ?_)
 ·cases fn:((decide (b.K<0))||(decide (16777216<b.K)))
  ·exact AB O (AV O ap Cf.f_Vol MV O λfo dm=>AB O (BR BX z.1 O dm IK O λfp dn=>AB O (BJ O dn Gs O λfq=>AB O (AV O (k6.mono Q) CC En O λfr dp=>AB O (BR BX z.1 O dp HD O λfs dq=>AB O (BJ O dq Ga O λft=>AB O (Cq O (AI O (AN O)))))))))
  exact AX O O
 refine AA O (AO 8 37 (.bool ((((decide (b.K<0))||(decide (16777216<b.K)))||(decide ((↑b.M.length:Int)≠(↑k.D.length:Int))))||(decide ((↑b.F.length:Int)≠(↑k.F.length:Int))))) ?_ ?_)
 ·cases fu:(((decide (b.K<0))||(decide (16777216<b.K)))||(decide ((↑b.M.length:Int)≠(↑k.D.length:Int))))
  ·exact AB O (AV O ap Cf.f_Links IU O λfv dr=>AB O (BR BX z.1 O dr LK O λfw ds=>AB O (BJ O ds Lo O λfx=>AB O (AV O (k6.mono Q) AU.f_Links Gu O λfy dt=>AB O (BR BX z.1 O dt JP O λfz du=>AB O (BJ O du Ht O λf0=>AB O (Cq O (AI O (AN O)))))))))
  exact AX O O
 refine AL (kp [37,3,2] O) (AW O E (λdv E=>?_) (λdv E=>?_))
 ·refine AE (AJ O (kp [4] O) (WF.ret (λt u d g=>?_)))
  cases E
  exact EU d g O O (e5.trans Q) ⟨O,z⟩
 refine AQ (WF.sl (A5 1 (DB (cs:=[vI 0,vI 1125899906842624]) Ip O O O (A6 (CX F7 O z λao f1 b4 ab=>BU (vs:=[vI 0,vI 1125899906842624]) O O O O BY O b4 .head O λbi a7 ac=>AS (kp [5,3,2] O) (AC (AE ?_)))))))
 have b5:=ap.mono (ab.trans ac)
 refine AV O b5 Cf.f_Vol MV O λf2 dw=>BR BX a7.1 O dw IK O λdx b6=>BJ O b6 Gs O λf3=>AA O (AL (kp [42,41,40,5,3,2] O) (BG (λa w=>IV B S9 bi (128,[]) a w [(5,vP ao 0),(3,q8),(2,q1)] (Bx ao 51 [vI 0,vI 1125899906842624]::L) λ_ _=>Ef N k b=some r) ?_ ?_))
 ·refine Bt (λn1=>λa w=>∃(aq:Int),IV B S9 bi (128,[]) a w [(41,vI (↑b.M.length:Int)),(40,dx),(5,vP ao 0),(3,q8),(2,q1),(42,vI aq)] (Bx ao 51 [vI 0,vI 1125899906842624]::L) λ_ _=>AD aq∧Ed N b (Ef N k b) n1 aq=some r) N ?_ ?_ ?_
  ·intro t u d g
   exact⟨0,_,_,d.sub (kp [41,40,5,3,2,42] O),g,a7,(Cm.refl S9 bi),(iq (n:=0) O),E⟩
  ·rintro t u ⟨_,_,_,_,_,_,_,_,E⟩
   rw[Ed] at E;cases E
  rintro n1 t u ⟨aq,f4,f5,d,g,ar,a6,f6,E⟩
  refine A8 ?_ d g
  clear d g u t
  rw[Ed] at E
  refine AE (BE O (AL (kp [43,41,40,5,3,2,42] O) (AC (AW O E (λdy E=>?_) (λdy E=>?_)))))
  ·refine AQ (AC (BW (WF.sl (A5 2 ?_))))
   obtain⟨ad,b7,E⟩:=bd E
   refine B6 O O (b6.mono' a6) Gs b7 O λf7 dz=>BP BX ar.1 O dz BY (λe=>by cases e) O λf8 d0=>A6 (CX F7 O ar λf9 ga b8 bj=>?_)
   obtain⟨rfl,⟨b9,ca⟩⟩:=AM.ex (d0.mono bj)
   refine BU (vs:=[vI ad.B,vI ad.A]) O O O O BY O b8 .head O λgb ai cb=>AS (kp [7,41,40,5,3,2,42] O) (AC (WF.rc (.inl O) ai (Cw (vs:=[vI ad.B,vI ad.A]) Bs ai O mh O O BY O O ?_)))
   obtain⟨d1,cc,E⟩:=bd E
   refine BL O O O Qc O (λh' o=>HE (St.all h') (AM.mk (x:=ad) ⟨b9,ca⟩) cc) (BT O (AA O ?_))
   obtain⟨d2,C,E⟩:=bd E
   refine AO 5 54 (.bool d2) ?_ ?_
   ·cases cd:(!d1)
    ·have C:=GY cd C
     refine AB O (Cw (vs:=[vI ad.B,vI ad.A]) Bs ai O mh O O BY O O (AB O (Cw (vs:=[vI 0,vI 1125899906842624]) Bs ai O (mt mh) O O BY O O (AB O ?_))))
     obtain⟨gc,ce,C⟩:=bd C
     refine BL O O O Wv O (λh' o=>JY (St.all h') (AM.mk (x:=ad) ⟨b9,ca⟩) (AM.mk (x:=(⟨0,1125899906842624⟩:AH)) ⟨(iq (n:=0) O),(iq (n:=1125899906842624) O)⟩) ce) (AB O (BT O (AI O ?_)))
     cases C
     exact AN O
    have C:=GX cd C
    cases C
    exact AX O O
   refine Bu (kp [54,41,40,5,3,2,42] O) λge a8 cf=>AW O E (λd3 E=>?_) (λd3 E=>?_)
   ·refine AE (AJ O (kp [4] O) (WF.ret (λt u d g=>?_)))
    have cg:=a8.sel [] 2 O
    cases E
    exact EU d g O O (e5.trans (Q.trans (ab.trans (ac.trans (a6.trans (bj.trans (cb.trans cf))))))) ⟨O,cg⟩
   refine AQ (B0 (CL (.inl O) (BD O (AA O (AL (kp [42,41,40,5,3,2] O) (WF.nil (λt u d g=>?_)))))))
   have ch:=a8.sel [1] 1 O
   exact⟨(B8 (aq+1)),_,_,d.sub (kp [41,40,5,3,2,42] O),g,ch,(a6.trans (bj.trans (cb.trans cf))),(CJ _),E⟩
  refine WF.exit O (λt u d g=>?_)
  exact⟨_,_,d.sub (kp [5,3,2] O),g,ar,a6,E⟩
 rintro t u ⟨bk,au,d,g,av,H,E⟩
 refine A8 ?_ d g
 clear d g u t
 rw[Ef] at E
 refine AC (AE ?_)
 have aj:=b5.mono H
 refine AV O aj Mt MU O λd4 ci=>BR BX av.1 O ci QJ O λcj a9=>BJ O a9 G8 O λd5=>AA O (AL (kp [59,58,57,5,3,2] O) (BG (λa w=>IV B bk au (128,[]) a w [(3,q8),(2,q1)] (L) λ_ _=>Ee N k b=some r) ?_ ?_))
 ·refine Bt (λn3=>λa w=>∃(U:Int),IV B bk au (128,[]) a w [(58,vI (↑b.S.length:Int)),(57,cj),(5,vP ao 0),(3,q8),(2,q1),(59,vI U)] (Bx ao 51 [vI 0,vI 1125899906842624]::L) λ_ _=>AD U∧Ec N k b (Ee N k b) n3 U=some r) N ?_ ?_ ?_
  ·intro t u d g
   exact⟨0,_,_,d.sub (kp [58,57,5,3,2,59] O),g,av,(Cm.refl bk au),(iq (n:=0) O),E⟩
  ·rintro t u ⟨_,_,_,_,_,_,_,_,E⟩
   rw[Ec] at E;cases E
  rintro n3 t u ⟨U,d6,d7,d,g,ag,G,d8,E⟩
  refine A8 ?_ d g
  clear d g u t
  rw[Ec] at E
  refine AE (BE O (AL (kp [60,58,57,5,3,2,59] O) (AC (AW O E (λck E=>?_) (λck E=>?_)))))
  ·refine AQ (AC (BW (WF.sl (A5 3 (AA O ?_)))))
   obtain⟨c,bl,E⟩:=bd E
   refine B6 O O (a9.mono' G) G8 bl O λd9 cl=>BP BX ag.1 O cl Ll (λe=>by cases e) O λea cm=>A6 (CX Ym O ag λeb ec bm I=>A5 1 (A4 O (A6 ?_)))
   obtain⟨rfl,⟨cn,ba,aw,ax⟩⟩:=Ce.ex (cm.mono I)
   refine BU (vs:=[vI c.X,vI c.E,vI c.M.B,vI c.M.A]) O O O O Ll O bm .head O λed j V=>AS (kp [8,9,58,57,5,3,2,59] O) (AC (AC (WF.rc (.inl O) j (AF MS O (Cw (vs:=[vI c.M.B,vI c.M.A]) Bs j O mh O O BY O O ?_)))))
   obtain⟨co,bn,E⟩:=bd E
   refine BL O O O Qc O (λh' o=>HE (St.all h') (AM.mk (x:=c.M) ⟨aw,ax⟩) bn) (BT O (AA O ?_))
   obtain⟨W,m,E⟩:=bd E
   refine AO 6 74 (.bool W) ?_ ?_
   ·cases bb:(!co)
    ·have m:=GY bb m
     refine AB O (AF MS O (AB O (Cw (vs:=[vI c.M.B,vI c.M.A]) Bs j O mh O O BY O O (AB O (Cw (vs:=[vI 0,vI 1125899906842624]) Bs j O (mt mh) O O BY O O (AB O ?_))))))
     obtain⟨ee,bo,m⟩:=bd m
     refine BL O O O Wv O (λh' o=>JY (St.all h') (AM.mk (x:=c.M) ⟨aw,ax⟩) (AM.mk (x:=(⟨0,1125899906842624⟩:AH)) ⟨(iq (n:=0) O),(iq (n:=1125899906842624) O)⟩) bo) (AB O (BT O (AI O ?_)))
     cases m
     exact AN O
    have m:=GX bb m
    cases m
    exact AX O O
   refine AA O (AO 5 80 (.bool (W||(decide (c.M.A≤0)))) ?_ ?_)
   ·cases ef:W
    ·exact AB O (AF MS O (AB O (AF D2 O (AB O (AT Bs j O mh O AZ O (AB O (HC O (AI O (AN O)))))))))
    exact AX O O
   refine AA O (AO 6 87 (.bool ((W||(decide (c.M.A≤0)))||(decide (c.X<b.K)))) ?_ ?_)
   ·cases eg:(W||(decide (c.M.A≤0)))
    ·exact AB O (AF Oz O (AB O (AT Bs j O mh O AZ O (AB O (AV O (aj.mono (G.trans (I.trans V))) LJ KT O λeh cp=>AB O (AY Bs j.1 O cp AZ O λei=>AB O (BE O (AI O (AN O)))))))))
    exact AX O O
   refine AA O ?_
   obtain⟨cq,p,E⟩:=bd E
   refine AO 8 96 (.bool cq) ?_ ?_
   ·cases bc:((W||(decide (c.M.A≤0)))||(decide (c.X<b.K)))
    ·have p:=GY bc p
     refine AB O (AF Ni O (AB O (AT Bs j O mh O AZ O (AB O (AV O (k6.mono (Q.trans (ab.trans (ac.trans (H.trans (G.trans (I.trans V))))))) CC En O λej cr=>AB O (BR Bs j.1 O cr HD O λek ct=>AB O (BJ O ct Ga O λcu=>AB O ?_)))))))
     obtain⟨el,bp,p⟩:=bd p
     refine BL O O O Sf O (λh' o=>H0 (St.all h') ba (LW cu) bp) (AB O (BT O (AI O ?_)))
     cases p
     exact AN O
    have p:=GX bc p
    cases p
    exact AX O O
   refine Bu (kp [96,8,9,58,57,5,3,2,59] O) λem y ak=>AW O E (λcv E=>?_) (λcv E=>?_)
   ·refine AE (AJ O (kp [4] O) (WF.ret (λt u d g=>?_)))
    have bq:=y.sel [] 2 O
    cases E
    exact EU d g O O (e5.trans (Q.trans (ab.trans (ac.trans (H.trans (G.trans (I.trans (V.trans ak)))))))) ⟨O,bq⟩
   refine AQ (AC (WF.rc (.inr ⟨mo,by kernel_rfl⟩) y (AA O (CN O (AA O ?_)))))
   obtain⟨cw,i,E⟩:=bd E
   refine AO 10 109 (.bool cw) ?_ ?_
   ·cases be:(decide (0<U))
    ·have i:=GY be i
     cases i
     exact AX O O
    have i:=GX be i
    refine AB O (AV O (aj.mono (G.trans (I.trans (V.trans ak)))) Mt MU O λen cx=>AB O (BR Bs y.1 O cx QJ O λeo cy=>AB O (AA O (AB O (FU O (AB O ?_))))))
    obtain⟨ep,br,i⟩:=bd i
    refine B6 O O cy G8 br O λeq cz=>AB O (BP Bs y.1 O cz Ll (λe=>by cases e) O λer c0=>AB O (Cw (vs:=[vI c.X,vI c.E,vI c.M.B,vI c.M.A]) Bs y O mh O O Ll O O (AB O ?_)))
    obtain⟨es,bs,i⟩:=bd i
    refine Bz O O O Y6 O (λh' o=>Lv (St.all h') (c0.mono (o.all y.1)) (Ce.mk (x:=c) ⟨cn,ba,aw,ax⟩) bs) λc1=>?_
    have et:=c1
    refine AB O (EQ O (AI O ?_))
    cases i
    exact AN O
   refine Bu (kp [109,58,57,5,3,2,59] O) λeu ay bf=>AW O E (λc2 E=>?_) (λc2 E=>?_)
   ·refine AE (AJ O (kp [4] O) (WF.ret (λt u d g=>?_)))
    have bt:=ay.sel [] 2 O
    cases E
    exact EU d g O O (e5.trans (Q.trans (ab.trans (ac.trans (H.trans (G.trans (I.trans (V.trans (ak.trans bf))))))))) ⟨O,bt⟩
   refine AQ (B0 (CL (.inl O) (BD O (AA O (AL (kp [59,58,57,5,3,2] O) (WF.nil (λt u d g=>?_)))))))
   have bu:=ay.sel [1] 1 O
   exact⟨(B8 (U+1)),_,_,d.sub (kp [58,57,5,3,2,59] O),g,bu,(G.trans (I.trans (V.trans (ak.trans bf)))),(CJ _),E⟩
  refine WF.exit O (λt u d g=>?_)
  have bv:=ag.drop .head
  exact⟨_,_,d.sub (kp [3,2] O),g,bv,G,E⟩
 rintro t u ⟨az,a0,d,g,a1,am,E⟩
 refine A8 ?_ d g
 clear d g u t
 rw[Ee] at E
 refine AC (AE (AV O (aj.mono am) Cf.f_Links IU O λev c3=>BR BX a1.1 O c3 LK O λc4 bg=>BJ O bg Lo O λew=>AA O (AL (kp [114,113,112,2] O) (BG (λa w=>IV B az a0 (128,[]) a w [] (L) λ_ _=>E9 N=some r) ?_ ?_))))
 ·refine Bt (λn5=>λa w=>∃(ae:Int),IV B az a0 (128,[]) a w [(113,vI (↑b.F.length:Int)),(112,c4),(2,q1),(114,vI ae)] (L) λ_ _=>AD ae∧Eb N k b (E9 N) n5 ae=some r) N ?_ ?_ ?_
  ·intro t u d g
   exact⟨0,_,_,d.sub (kp [113,112,2,114] O),g,a1,(Cm.refl az a0),(iq (n:=0) O),E⟩
  ·rintro t u ⟨_,_,_,_,_,_,_,_,E⟩
   rw[Eb] at E;cases E
  rintro n5 t u ⟨ae,ey,ez,d,g,ah,af,e0,E⟩
  refine A8 ?_ d g
  clear d g u t
  rw[Eb] at E
  refine AE (BE O (AL (kp [115,113,112,2,114] O) (AC (AW O E (λc5 E=>?_) (λc5 E=>?_)))))
  ·refine AQ (AC (BW (WF.sl (A5 3 (AA O ?_)))))
   obtain⟨s,bw,E⟩:=bd E
   refine B6 O O (bg.mono' af) Lo bw O λe1 c6=>BP BX ah.1 O c6 IG (λe=>by cases e) O λe2 c7=>A6 (CX Th O ah λe3 e4 bx an=>A5 1 (A4 O (A6 ?_)))
   obtain⟨rfl,⟨c8,c9,da,db,dc⟩⟩:=BK.ex (c7.mono an)
   refine BU (vs:=[vI s.P.B,vI s.P.A,vI s.T,vI s.R.B,vI s.R.A]) O O O O IG O bx .head O λe6 J a2=>AS (kp [10,11,113,112,2,114] O) (AC (WF.rc (.inr ⟨mo,by kernel_rfl⟩) J (AV O (k6.mono (Q.trans (ab.trans (ac.trans (H.trans (am.trans (af.trans (an.trans a2)))))))) AU.f_Links Gu O λe7 dd=>BR Bs J.1 O dd JP O λe8 de=>AA O ?_)))
   obtain⟨e9,bz,E⟩:=bd E
   refine B6 O O de Ht bz O λfb df=>BP Bs J.1 O df FC (λe=>by cases e) O λfc dg=>Cw (vs:=[vI s.P.B,vI s.P.A,vI s.T,vI s.R.B,vI s.R.A]) Bs J O mh O O IG O O ?_
   obtain⟨fd,b0,E⟩:=bd E
   refine BL O O O eN O (λh' o=>M6 (St.all h') (dg.mono (o.all J.1)) (BK.mk (x:=s) ⟨c8,c9,da,db,dc⟩) b0) (BT O (Bu (kp [126,113,112,2,114] O) λfe a3 bh=>AW O E (λdh E=>?_) (λdh E=>?_)))
   ·refine AE (AJ O (kp [4] O) (WF.ret (λt u d g=>?_)))
    have b1:=a3.drop .head
    cases E
    exact EU d g O O (e5.trans (Q.trans (ab.trans (ac.trans (H.trans (am.trans (af.trans (an.trans (a2.trans bh))))))))) ⟨O,b1⟩
   refine AQ (B0 (CL (.inl O) (BD O (AA O (AL (kp [114,113,112,2] O) (WF.nil (λt u d g=>?_)))))))
   have b2:=a3.drop .head
   exact⟨(B8 (ae+1)),_,_,d.sub (kp [113,112,2,114] O),g,b2,(af.trans (an.trans (a2.trans bh))),(CJ _),E⟩
  refine WF.exit O (λt u d g=>?_)
  exact⟨_,_,d.sub Kv,g,ah,af,E⟩
 rintro t u ⟨ff,fg,d,g,b3,di,E⟩
 refine A8 ?_ d g
 clear d g u t
 rw[E9] at E
 refine AE (AJ O (kp [4] O) (WF.ret (λt u d g=>?_)))
 cases E
 exact EU d g O O (e5.trans (Q.trans (ab.trans (ac.trans (H.trans (am.trans di)))))) ⟨O,b3⟩
end Go.Proofs.YtibidnaedddfdaaGreat
