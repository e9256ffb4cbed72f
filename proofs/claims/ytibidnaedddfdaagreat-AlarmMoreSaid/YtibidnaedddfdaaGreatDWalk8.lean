import Derived.Test.YtibidnaedddfdaaGreatDWalk7
namespace Go.Proofs.YtibidnaedddfdaaGreat
set_option linter.all false
open Go.RowKit
open Go.Proofs.Tryz
set_option maxRecDepth 10000
set_option maxHeartbeats 2000000
variable {N:Nat}{S:Nat→Prop}{L:List HP}{h:BB}
def Kz (hs:St S L h) {a:Value}{i:AH}(d:Rd S h AM a i) {b:Value}{j:AH}(g:Rd S h AM b j) {r:AH}(E:Ha N i j=some r):
 Ct prog 102 #[a,b] S h (λv S' h'=>v= .agg #[vI r.B,vI r.A]∧AH.ok r∧St S' (L) h'):=by
 refine BO (l:=[a,b]) 16 func102 O ntmps102 O λB=>?_
 rw[Ha] at E
 refine WF.sl (BM O d (λe=>by cases e) O hs λq1 S2 h3 C e5 k6=>BM O (g.mono e5) (λe=>by cases e) O C λq8 S9 ab n p D=>CX F7 O n λac ad c m=>AS (kp [4,3,2] O) (AC (F6 11 mo (by kernel_rfl) O c ?_)))
 have q:=k6.mono (p.trans m)
 refine AV O q AH.f_Lo EV O λae F=>AY Bs c.1 O F AZ O λG=>?_
 have s:=D.mono m
 refine AV O s AH.f_Lo EV O λaf H=>AY Bs c.1 O H AZ O λI=>?_
 obtain⟨t,u,E⟩:=bd E
 refine Bz O O O OY O (λh' o=>GR (St.all h') G I u) λJ=>?_
 have K:=J
 refine AV O q AH.f_Hi D2 O λag M=>AY Bs c.1 O M AZ O λQ=>AV O s AH.f_Hi D2 O λah U=>AY Bs c.1 O U AZ O λV=>?_
 obtain⟨w,x,E⟩:=bd E
 refine Bz O O O OY O (λh' o=>GR (St.all h') Q V x) λW=>?_
 have X:=W
 refine DB (cs:=[vI t,vI w]) Ip O O O (E0 λai y Y=>BU (vs:=[vI t,vI w]) O O O O BY O y .head O λaj k Z=>AS (kp [4] O) (WF.ret (λaa ww hf hw=>?_)))
 have z:=k.drop .head
 cases E
 exact I1 hf O hw (IH (M2 hf hw k O mh BY O) Io) O (e5.trans (p.trans (m.trans (Y.trans Z)))) ⟨O,⟨K,X⟩,z⟩
def I8 (y:St S L h) {b:Value}{a:AH}(c:Rd S h AM b a) {r:AH}(E:HQ N a=some r):
 Ct prog 103 #[b] S h (λv S' h'=>v= .agg #[vI r.B,vI r.A]∧AH.ok r∧St S' (L) h'):=by
 refine BO (l:=[b]) 10 func103 O ntmps103 O λB=>?_
 rw[HQ] at E
 refine WF.sl (BM O c (λe=>by cases e) O y λH I J m z C=>CX F7 O m λK M g i=>AS (kp [2,1] O) (WF.sl (A5 7 ?_)))
 have j:=C.mono i
 refine AV O j AH.f_Lo EV O λD o=>AY BX g.1 O o AZ O λp=>LE O O O (AV O j AH.f_Hi D2 O λF s=>AY BX g.1 O s AZ O λt=>LE O O O (DB (cs:=[vI (min a.B 1125899906842624),vI (min a.A 1125899906842624)]) Ip O O O (A6 (BU (vs:=[vI (min a.B 1125899906842624),vI (min a.A 1125899906842624)]) O O O O BY O g .head O λG d u=>AS (kp [2] O) (WF.ret (λQ U w x=>?_))))))
 have k:=d.drop .head
 cases E
 exact I1 w O x (IH (M2 w x d O mh BY O) Io) O (z.trans (i.trans u)) ⟨O,⟨(ID p (iq (n:=1125899906842624) O)),(ID t (iq (n:=1125899906842624) O))⟩,k⟩
def N9 (t:St S L h) {a:Value}{g:A7}(c:Rd S h CI a g) {b:Value}{i:AH}(d:Rd S h AM b i) {r:AH×A7}(E:Ir N g i=some r):
 Ct prog 148 #[a,b] S h (λv S' h'=>∃j k:Value,v= .func (.func 172) #[] #[j,k]∧Pt S' h' AM j r.1∧Pt S' h' CI k r.2∧St S' (L) h'):=by
 refine BO (l:=[a,b]) 6 func148 O ntmps148 O λB=>?_
 rw[Ir] at E
 refine WF.sl (BM O c (λe=>by cases e) O t λz A C o s u=>BM O (d.mono s) (λe=>by cases e) O o λD F w m n p=>A5 1 (A4 O (A6 (AS (kp [3,2] O) (AE (KD O O O (AJ O (kp [4] O) (WF.ret (λG H x y=>?_)))))))))
 cases E
 exact EU x y O O (s.trans n) ⟨_,_,O,p,(u.mono n),m⟩
def M1 {σ:Type}{yv:Value}{Y:Bool→σ→HP}{H:Int→σ→Option (Bool×σ)}{S0:Nat→Prop}{h0:BB}(yc:YC prog yv Y Yl H S0 h0) (e0:Cm S0 h0 S h) {s:σ}(hs:St S (Y true s::L) h) {i:Value}{I:AH}(m:Pt S h AM i I) {j:Value}{c2_:A7}(y:Pt S h CI j c2_) {r:Bool×σ}(E:HN N I c2_ H s=some r):
 Ct prog 172 #[yv,i,j] S h (λv S' h'=>v= .tuple #[]∧St S' (Y r.1 r.2::L) h'):=by
 refine BO (l:=[yv,i,j]) 36 func172 O ntmps172 O λB=>?_
 rw[HN] at E
 refine AC (AC (XA (J8 1 Me (BP BX hs.1 O m BY (λe=>by cases e) O λv1 k2=>KC (fH 1 Me ?_)))))
 obtain⟨y3,ab,E⟩:=bd E
 refine Ea O O O Qc O hs (HE (St.all _) (k2.mono ⟨λb hb=>hs.1 b hb,λ_ _=>rfl,jB _⟩) ab) λv4 S5 h6 z n au p=>?_
 obtain⟨rfl,av⟩:=p
 refine fN (J8 2 Me (BT O (AA O (KC ?_))))
 cases J:(!y3)
 ·have E:=GY J E
  refine J8 3 Me (AB O (AA O (AB O ?_)))
  have K:=m.mono n
  refine AV O K AH.f_Lo EV O λaw ac=>AB O (AY BX z.1 O ac AZ O λad=>KC (YL.gy O O O ?_))
  obtain⟨ax,M,E⟩:=bd E
  refine UU yc O O M (e0.trans n) z ⟨O,ad⟩ O (λA ae af d k=>?_) (λA ae af d k=>?_)
  ·have E:=GX A E
   refine J8 3 Me (AB O (BT O (AI O (AA O (KC (J8 3 Me (AB O (AA O (AB O ?_)))))))))
   have Q:=K.mono d
   refine AV O Q AH.f_Hi D2 O λay ag=>AB O (AY BX k.1 O ag AZ O λah=>KC (YL.gy O O O ?_))
   obtain⟨az,U,E⟩:=bd E
   refine UU yc O O U (e0.trans (n.trans d)) k ⟨O,ah⟩ O (λC ai aj g c=>?_) (λC ai aj g c=>?_)
   ·have E:=GX C E
    refine J8 2 Me (AB O (BT O (AI O (KC (YL.nil (kp [20,0,1,2] O) (RS O (AQ (AC (WF.rc (.inl O) c ?_)))))))))
    have D:=y.mono (n.trans (d.trans g))
    refine AV O D G7 JA O λa0 ak=>AY Bs c.1 O ak AZ O λa1=>BE O (AA O ?_)
    obtain⟨al,a,E⟩:=bd E
    refine AO 6 30 (.bool al) ?_ ?_
    ·cases V:(decide (c2_.Ae<9223372036854775807))
     ·have a:=GY V a
      cases a
      exact AX O O
     have a:=GX V a
     refine AB O (BP Bs c.1 O (Q.mono g) BY (λe=>by cases e) O λa2 am=>AB O (AV O D G7 JA O λa3 an=>AB O (AY Bs c.1 O an AZ O λa4=>AB O (BD O (AB O ?_)))))
     obtain⟨a5,W,a⟩:=bd a
     refine BL O O O Wl O (λh' o=>Ky (St.all h') (am.mono (o.all c.1)) (CJ _) W) (AI O ?_)
     cases a
     exact AN O
    refine Bu (kp [30,0,2] O) λa6 q t=>AW O E (λao E=>?_) (λao E=>?_)
    ·refine XA (J8 4 Me (AA O (AV O (D.mono t) G7 JA O λa7 ap=>AY BX q.1 O ap AZ O λa8=>BD O (KC ?_))))
     obtain⟨a9,X,E⟩:=bd E
     refine UU yc O O X (e0.trans (n.trans (d.trans (g.trans t)))) q ⟨O,(CJ _)⟩ O (λF aq ar G u=>?_) (λF aq ar G u=>?_)
     ·have E:=GX F E
      refine YL.nil Kv (WF.nil (λZ ww w x=>?_))
      cases E
      exact I1 w O x Io O (n.trans (d.trans (g.trans (t.trans G)))) ⟨O,u⟩
     have E:=GY F E
     refine YL.nil Kv (WF.nil (λZ ww w x=>?_))
     cases E
     exact I1 w O x Io O (n.trans (d.trans (g.trans (t.trans G)))) ⟨O,u⟩
    refine AQ (WF.nil (λZ ww w x=>?_))
    cases E
    exact I1 w O x Io O (n.trans (d.trans (g.trans t))) ⟨O,q⟩
   have E:=GY C E
   refine J8 2 Me (AB O (BT O (AI O (KC (YL.nil (kp [20,0,1,2] O) (ND O (WF.ret (λZ ww w x=>?_))))))))
   cases E
   exact I1 w O x Io O (n.trans (d.trans g)) ⟨O,c⟩
  have E:=GY A E
  refine J8 3 Me (AB O (BT O (AI O (AA O (KC (J8 6 Me (Ig O O O O O (Ig O O O O O (Ig O O O O O (Ig O O O O O (Ig O O O O O (AI O (KC (YL.nil (kp [20,0,1,2] O) (ND O (WF.ret (λZ ww w x=>?_)))))))))))))))))
  cases E
  exact I1 w O x Io O (n.trans d) ⟨O,k⟩
 have E:=GX J E
 refine J8 7 Me (Ig O O O O O (Ig O O O O O (Ig O O O O O (Ig O O O O O (Ig O O O O O (AI O (AA O (KC (J8 6 Me (Ig O O O O O (Ig O O O O O (Ig O O O O O (Ig O O O O O (Ig O O O O O (AI O (KC (YL.nil (kp [20,0,1,2] O) (ND O (WF.ret (λZ ww w x=>?_))))))))))))))))))))
 cases E
 exact I1 w O x Io O n ⟨O,z⟩
def Oc (hs:St S L h) {d:Value}{p:A7}(n:Rd S h CI d p) {g:Value}{b:Et}(o:Rd S h Hr g b) {i:Int}(W:AD i) {r:Et}(E:IN N p b i=some r):
 Ct prog 149 #[d,g,vI i] S h (λv S' h'=>v= .agg #[vI r.P,vI r.T,.bool r.Ay,.bool r.R]∧Et.ok r∧St S' (L) h'):=by
 refine BO (l:=[d,g,vI i]) 24 func149 O ntmps149 O λB=>?_
 rw[IN] at E
 refine WF.sl (BM O n (λe=>by cases e) O hs λq1 S2 h3 X Y k6=>?_)
 obtain⟨rfl,⟨r9,D⟩⟩:=Hr.ex (o.mono Y)
 refine OL O O O X λF am G x=>CX VA O G λH I c y=>AS (kp [6,4,3,2] O) (AC (AE ?_))
 have z:=k6.mono (x.trans y)
 refine AV O z A7.f_Kind E6 O λan Z=>AY BX c.1 O Z AZ O λao=>Cq O (AL (kp [9,6,4,3,2] O) (AW O E (λab E=>?_) (λab E=>?_)))
 ·refine WF.sl (A5 1 (Cw (vs:=[vI b.P,vI b.T,.bool b.Ay,.bool b.R]) BX c O (mt mh) O O Jw O O (A6 (BU (vs:=[vI b.P,vI b.T,.bool b.Ay,.bool b.R]) O O O O Jw O c .head O λap J ac=>AS (kp [6] O) (WF.ret (λA C j k=>?_))))))
  have s:=J.drop (.tail .head)
  have K:=s.drop .head
  cases E
  exact I1 j O k (IH (M2 j k s O mh Jw O) Io) O (Y.trans (x.trans (y.trans ac))) ⟨O,⟨r9,D⟩,K⟩
 refine AQ (AC (BG (λa w=>∃(m:Bool),IV B S2 I (24,[]) a w [(6,vP H 0),(4,vP F 0)] (Bx H 81 [vI 0,vI 0,.bool false,.bool false]::Bx F 81 [vI b.P,vI b.T,.bool b.Ay,.bool m]::L) λ_ _=>GS N b m=some r) ?_ ?_))
 ·refine AE (AA O (AV O z JN MX O λaq ad=>AY BX c.1 O ad AZ O λar=>EQ O (AJ O (kp [11,6,4,3,2] O) (AW O E (λae E=>?_) (λae E=>?_)))))
  ·refine Gf (A5 1 (AF UC O (A6 (Jg (vs:=[.bool true]) (cs':=[vI b.P,vI b.T,.bool b.Ay,.bool true]) O O O O N7 O c (.tail .head) O O λau M af=>AS (kp [6,4] O) (WF.nil (λA C j k=>?_))))))
   exact⟨true,_,_,j.sub (kp [6,4] O),k,M,af,E⟩
  refine AE (AA O (AV O z G7 JA O λav ag=>AY BX c.1 O ag AZ O λaw=>HC O (AJ O (kp [17,6,4] O) (AW O E (λah E=>?_) (λah E=>?_)))))
  ·refine Gf (A5 1 (AF UC O (A6 (Jg (vs:=[.bool false]) (cs':=[vI b.P,vI b.T,.bool b.Ay,.bool false]) O O O O N7 O c (.tail .head) O O λax Q ai=>AS (kp [6,4] O) (WF.nil (λA C j k=>?_))))))
   exact⟨false,_,_,j.sub (kp [6,4] O),k,Q,ai,E⟩
  refine AQ (WF.nil (λA C j k=>?_))
  exact⟨b.R,_,_,j.sub (kp [6,4] O),k,c,(Cm.refl S2 I),E⟩
 rintro A C ⟨m,ay,az,j,k,t,aj,E⟩
 refine A8 ?_ j k
 clear j k C A
 rw[GS] at E
 refine WF.sl (A5 1 (Cw (vs:=[vI b.P,vI b.T,.bool b.Ay,.bool m]) BX t O (mt mh) O O Jw O O (A6 (BU (vs:=[vI b.P,vI b.T,.bool b.Ay,.bool m]) O O O O Jw O t .head O λa0 U ak=>AS (kp [6] O) (WF.ret (λA C j k=>?_))))))
 have u:=U.drop (.tail .head)
 have V:=u.drop .head
 cases E
 exact I1 j O k (IH (M2 j k u O mh Jw O) Io) O (Y.trans (x.trans (y.trans (aj.trans ak)))) ⟨O,⟨r9,D⟩,V⟩
def PG (hs:St S L h) {I:Value}{u:A7}(aw:Rd S h CI I u) {J:Value}{b:BA}(ax:Rd S h BK J b) {K:Value}{a5:AH}(ay:Rd S h AM K a5) {r:BA}(E:Is N u b a5=some r):
 Ct prog 104 #[I,J,K] S h (λv S' h'=>v= .agg #[vI r.P.B,vI r.P.A,vI r.T,vI r.R.B,vI r.R.A]∧BA.ok r∧St S' (L) h'):=by
 refine BO (l:=[I,J,K]) 47 func104 O ntmps104 O λB=>?_
 rw[Is] at E
 have dr:=XD hs
 refine WF.sl (BM O aw (λe=>by cases e) O dr λq1 S2 h3 ds e5 k6=>?_)
 obtain⟨rfl,⟨r9,b4,b5,ba,bb⟩⟩:=BK.ex (ax.mono e5)
 refine OL O O O ds λt e2 b6 az=>BM O (ay.mono (e5.trans az)) (λe=>by cases e) O b6 λe3 e4 e6 b7 bc dt=>CX Th O b7 λbe e7 Z a0=>AS (kp [6,5,4,3] O) (AC (AE ?_))
 have b8:=k6.mono (az.trans (bc.trans a0))
 refine AV O b8 A7.f_Kind E6 O λe8 du=>AY BX Z.1 O du AZ O λe9=>Cq O (AL (kp [14,6,5,4,3] O) (AW O E (λdv E=>?_) (λdv E=>?_)))
 ·refine WF.sl (A5 1 (Cw (vs:=[vI b.P.B,vI b.P.A,vI b.T,vI b.R.B,vI b.R.A]) BX Z O (mt mh) O O IG O O (A6 (BU (vs:=[vI b.P.B,vI b.P.A,vI b.T,vI b.R.B,vI b.R.A]) O O O O IG O Z .head O λfb b9 dw=>AS (kp [6] O) (WF.ret (λD F c d=>?_))))))
  have ca:=b9.sel [2,0] 1 O
  refine Xo (vs:=[.agg #[vI b.P.B,vI b.P.A,vI b.T,vI b.R.B,vI b.R.A]]) c O d ca O (e5.trans (az.trans (bc.trans (a0.trans dw)))) λw9 fc bf a6 fd=>?_
  have cb:=a6.drop .head
  cases E
  exact⟨(IH (M2 c bf a6 O mh IG O) Io),⟨O,⟨r9,b4,b5,ba,bb⟩,cb⟩⟩
 refine AQ (WF.sl (CX bX O Z λG fe cc bg=>BU (vs:=[.bool false]) O O O O N7 O cc .head O λff cd bh=>AS (kp [7,6,5,4,3] O) (WF.sl (CX F7 O cd λH fg ah bi=>AS (kp [8,7,6,5,4,3] O) (AC (WF.sl (A5 2 ?_)))))))
 have ce:=b8.mono (bg.trans (bh.trans bi))
 refine BP BX ah.1 O ce FC (λe=>by cases e) O λfh dx=>BP BX ah.1 O (dt.mono (a0.trans (bg.trans (bh.trans bi)))) BY (λe=>by cases e) O λfi dy=>A6 ?_
 obtain⟨fj,cf,E⟩:=bd E
 refine GO O O O Z9 O (N9 ah dx dy cf) λfk fl fm cg p=>?_
 obtain⟨ch,ci,rfl,dz,d0,cj⟩:=p
 refine AS (kp [18,8,7,6,4,3] O) (BW ?_)
 have ck:=cj.sel [0,0,1,1,0] 0 O
 obtain⟨j,cl,E⟩:=bd E
 refine XB (Ds:=([])) 0 (λ(ss:Int×Int×Bool)=>[Pu (AD ss.1∧AD ss.2.1),Bx H 51 [vI ss.1,vI ss.2.1],Bx G 4 [.bool ss.2.2],Bx t 97 [vI b.P.B,vI b.P.A,vI b.T,vI b.R.B,vI b.R.A]]) (0,0,false) Yl (λxx ss=>GC N u b xx ss.1 ss.2.1 ss.2.2) j (λvs=>[(9,vs.getD 0 undef),(8,vP H 0),(7,vP G 0),(4,vP t 0),(3,q1)]) O Z4 (by kernel_rfl) (Nu ck ⟨(iq (n:=0) O),(iq (n:=0) O)⟩) (λk=>Yl.len k) (λk e=>Yl.mono k e) ?_ ?_ ?_ ?_ ?_
 ·intro yv Y S1 h1 L1 e1 yc d1
  rw[show ((#[yv]:Array Value)++ #[ch,ci])= #[yv,ch,ci] from fG _ _]
  exact(M1 yc (Cm.refl _ _) d1 (dz.mono e1) (d0.mono e1) cl).mono λ_ _ _ _ p=>p.2
 ·intro vs B h1 hl
  match vs,hl with
  |[v0],_=>
   refine CL (.inl O) ?_
   refine AJ O (kp [9,19,8,7,4,3] O) ?_
   refine WF.nil (λD F c d=>?_)
   exact⟨c.sub (kp [9,8,7,4,3] O),d⟩
 ·rintro W ⟨a1,a2,bj⟩ a3 vs bk bl a4 B cm d2 cn co
  have E:GC N u b W a1 a2 bj=some a3:=cm
  rw[GC] at E
  obtain⟨rfl,d3⟩:=cn
  have ai:St bk (Pu (AD a1∧AD a2)::Bx H 51 [vI a1,vI a2]::Bx G 4 [.bool bj]::Bx t 97 [vI b.P.B,vI b.P.A,vI b.T,vI b.R.B,vI b.R.A]::a4) bl:=co
  obtain⟨⟨d4,d5⟩,ai⟩:=Sn ai
  refine BW (AE (AA O (AL (kp [20,9,8,7,4,3] O) (BW (Bt (λn1=>λa w=>∃(g:Int) (m:Int) (s:Int) (y:Bool),IV B bk bl (47,[]) a w [(9,vI W),(8,vP H 0),(7,vP G 0),(4,vP t 0),(3,q1),(20,vI g)] (Bx H 51 [vI m,vI s]::Bx G 4 [.bool y]::Bx t 97 [vI b.P.B,vI b.P.A,vI b.T,vI b.R.B,vI b.R.A]::a4) λ_ _=>AD g∧AD m∧AD s∧DC N u b W n1 g m s y=some a3) N ?_ ?_ ?_)))))
  ·intro D F c d
   exact⟨0,a1,a2,bj,_,_,c.sub (kp [9,8,7,4,3,20] O),d,ai,(Cm.refl bk bl),(iq (n:=0) O),d4,d5,E⟩
  ·rintro D F ⟨_,_,_,_,_,_,_,_,_,_,_,_,_,E⟩
   rw[DC] at E;cases E
  rintro n1 D F ⟨g,m,s,y,ab,cp,c,d,X,aj,cq,ak,am,E⟩
  refine A8 ?_ c d
  clear c d F D
  rw[DC] at E
  refine AE (BE O (AL (kp [21,9,8,7,4,3,20] O) (AC (AW O E (λcr E=>?_) (λcr E=>?_)))))
  ·refine AQ (AC (BG (λa w=>∃(U:Int) (V:Int) (ac:Bool),IV B ab cp (47,[]) a w [(9,vI W),(8,vP H 0),(7,vP G 0),(4,vP t 0),(3,q1),(20,vI g)] (Bx H 51 [vI U,vI V]::Bx G 4 [.bool ac]::Bx t 97 [vI b.P.B,vI b.P.A,vI b.T,vI b.R.B,vI b.R.A]::a4) λ_ _=>AD U∧AD V∧D8 N g (DC N u b W n1) U V ac=some a3) ?_ ?_))
   ·refine AE (AA O (AJ O (kp [10,9,8,7,4,3,20] O) (AC (AC (WF.rc (.inl O) X (AF JI O (Cw (vs:=[vI b.R.B,vI b.R.A]) Bs X O (mt (mt mh)) O O BY O O (AA O ?_))))))))
    obtain⟨d8,bm,E⟩:=bd E
    refine BL O O O Wl O (λh' o=>Ky (St.all h') (AM.mk (x:=b.R) ⟨ba,bb⟩) cq bm) (BT O (Bu (kp [27,10,9,8,7,4,3,20] O) λd9 M ad=>AW O E (λct E=>?_) (λct E=>?_)))
    ·refine WF.exit O (λD F c d=>?_)
     exact⟨m,s,y,_,_,c.sub (kp [9,8,7,4,3,20] O),d,M,ad,ak,am,E⟩
    refine AQ (AE (AJ O (kp [11,10,9,8,7,4,3,20] O) (AC (AC (WF.rc (.inl O) M (BP Bs M.1 O (ce.mono (cg.trans (d2.trans (aj.trans ad)))) FC (λe=>by cases e) O λea cu=>AA O (CR O (DB (cs:=[vI 0,vI 0,.bool false,.bool (decide (g=1))]) VZ O O O (AA O ?_)))))))))
    obtain⟨eb,bn,E⟩:=bd E
    refine Bz O O O Z8 O (λh' o=>Oc (St.all h') (cu.mono (o.all M.1)) (Hr.mk (x:=(⟨0,0,false,(decide (g=1))⟩:Et)) ⟨(iq (n:=0) O),(iq (n:=0) O)⟩) d3 bn) λcv=>?_
    obtain⟨ec,ed⟩:=cv
    refine NF O X7 O O (Bu (kp [34,11,9,8,7,4,3,20] O) λan ao a7=>HW (λa w=>∃(ae:Int),IV B ab an (47,[]) a w [(9,vI W),(8,vP H 0),(7,vP G 0),(4,vP t 0),(3,q1),(20,vI g),(11,vI ae)] (Bx H 51 [vI m,vI s]::Bx G 4 [.bool y]::Bx t 97 [vI b.P.B,vI b.P.A,vI b.T,vI b.R.B,vI b.R.A]::a4) λ_ _=>AD ae∧Gl N m s y (D8 N g (DC N u b W n1)) ae=some a3) ?_ ?_)
    ·refine AW O E (λcw E=>?_) (λcw E=>?_)
     ·refine CL (.inl O) (AJ O (kp [11,9,8,7,4,3,20] O) (WF.nil (λD F c d=>?_)))
      exact⟨1,_,_,c.sub (kp [9,8,7,4,3,20,11] O),d,ao,(Cm.refl ab an),(iq (n:=1) O),E⟩
     refine AQ (WF.nil (λD F c d=>?_))
     exact⟨0,_,_,c.sub (kp [9,8,7,4,3,20,11] O),d,ao,(Cm.refl ab an),(iq (n:=0) O),E⟩
    rintro D F ⟨ae,ee,ef,c,d,Q,a8,a9,E⟩
    refine A8 ?_ c d
    clear c d F D
    rw[Gl] at E
    refine AE (AT BX Q O (mt mh) O N7 O (AL (kp [35,9,8,7,4,3,20,11] O) (AW O E (λcx E=>?_) (λcx E=>?_))))
    ·refine F6 4 mo (by kernel_rfl) O Q (Cw (vs:=[vI m,vI s]) Bs Q O mh O O BY O O (AA O ?_))
     obtain⟨cy,bo,E⟩:=bd E
     refine Bz O O O Mr O (λh' o=>GP (St.all h') a9 bo) λcz=>?_
     obtain⟨c0,c1⟩:=cz
     obtain⟨af,bp,E⟩:=bd E
     refine Bz O O O Wm O (λh' o=>KZ (St.all h') (AM.mk (x:=(⟨m,s⟩:AH)) ⟨ak,am⟩) (AM.mk (x:=cy) ⟨c0,c1⟩) bp) λc2=>?_
     obtain⟨c3,c4⟩:=c2
     refine E0 λeg bq c5=>BU (vs:=[vI af.B,vI af.A]) O O O O BY O bq .head O λeh br c6=>AS (kp [9,8,7,4,3,20] O) (WF.nil (λD F c d=>?_))
     exact⟨af.B,af.A,y,_,_,c.sub (kp [9,8,7,4,3,20] O),d,br,(ad.trans (a7.trans (a8.trans (c5.trans c6)))),c3,c4,E⟩
    refine Gf (A5 1 (AA O (A6 ?_)))
    obtain⟨ag,bs,E⟩:=bd E
    refine Ea O O O Mr O Q (GP (St.all _) a9 bs) λei ej ek bt c7 el p=>?_
    obtain⟨rfl,⟨c8,c9⟩,d6⟩:=p
    refine BU (vs:=[vI ag.B,vI ag.A]) O O O O BY O bt .head O λem bu da=>BU (vs:=[.bool true]) O O O O N7 O bu (.tail .head) O λen bv db=>AS (kp [9,8,7,4,3,20] O) (WF.nil (λD F c d=>?_))
    exact⟨ag.B,ag.A,true,_,_,c.sub (kp [9,8,7,4,3,20] O),d,bv,(ad.trans (a7.trans (a8.trans (c7.trans (da.trans db))))),c8,c9,E⟩
   rintro D F ⟨U,V,ac,eo,ep,c,d,bw,dc,dd,de,E⟩
   refine A8 ?_ c d
   clear c d F D
   rw[D8] at E
   refine CL (.inl O) (BD O (AA O (AL (kp [20,9,8,7,4,3] O) (WF.nil (λD F c d=>?_)))))
   exact⟨(B8 (g+1)),U,V,ac,_,_,c.sub (kp [9,8,7,4,3,20] O),d,bw,(aj.trans dc),(CJ _),dd,de,E⟩
  refine JV O (B0 (WF.nil (λD F c d=>?_)))
  cases E
  exact⟨O,_,_,d,aj,(Nu X ⟨ak,am⟩)⟩
 ·intro df ap aq ar dg i
  have E:=GX df E
  have i:St ap (Pu (AD j.2.1∧AD j.2.2.1)::Bx H 51 [vI j.2.1,vI j.2.2.1]::Bx G 4 [.bool j.2.2.2]::Bx t 97 [vI b.P.B,vI b.P.A,vI b.T,vI b.R.B,vI b.R.A]::Sw (ar::[])::Bx be 97 [vI 0,vI 0,vI 0,vI 0,vI 0]::L) aq:=i
  obtain⟨⟨dh,di⟩,i⟩:=Sn i
  refine B0 (AC (AE (AT BX i O (mt mh) O N7 O (AL (kp [43,8,6,4] O) (HW (λa w=>∃(z:Int) (C:Int),IV B ap aq (47,LP (ar::[])) a w [(6,vP be 0),(4,vP t 0)] (Bx t 97 [vI b.P.B,vI b.P.A,vI b.T,vI z,vI C]::Sw (ar::[])::Bx be 97 [vI 0,vI 0,vI 0,vI 0,vI 0]::L) λ_ _=>AD z∧AD C∧Hh N b z C=some r) ?_ ?_)))))
  ·refine AW O E (λdj E=>?_) (λdj E=>?_)
   ·refine Gf (A5 2 (Cw (vs:=[vI j.2.1,vI j.2.2.1]) BX i O mh O O BY O O (AF JI O (A6 (Jg (vs:=[vI j.2.1,vI j.2.2.1]) (cs':=[vI b.P.B,vI b.P.A,vI b.T,vI j.2.1,vI j.2.2.1]) O O O O BY O i (.tail (.tail .head)) O O λeq bx dk=>AS (kp [6,4] O) (WF.nil (λD F c d=>?_)))))))
    have bz:=bx.sel [2,2,2] 2 O
    exact⟨j.2.1,j.2.2.1,_,_,c.sub (kp [6,4] O),d,bz,dk,dh,di,E⟩
   refine AQ (WF.nil (λD F c d=>?_))
   have b0:=i.sel [2,2,2] 2 O
   exact⟨b.R.B,b.R.A,_,_,c.sub (kp [6,4] O),d,b0,(Cm.refl ap aq),ba,bb,E⟩
  rintro D F ⟨z,C,er,es,c,d,au,dl,dm,dn,E⟩
  refine A8 ?_ c d
  clear c d F D
  rw[Hh] at E
  refine WF.sl (A5 1 (Cw (vs:=[vI b.P.B,vI b.P.A,vI b.T,vI z,vI C]) BX au O mh O O IG O O (A6 (BU (vs:=[vI b.P.B,vI b.P.A,vI b.T,vI z,vI C]) O O O O IG O au (.tail (.tail .head)) O λet b1 dp=>AS (kp [6] O) (WF.ret (λD F c d=>?_))))))
  have b2:=b1.sel [1,1] 1 O
  refine Xo (vs:=[.agg #[vI b.P.B,vI b.P.A,vI b.T,vI z,vI C]]) c O d b2 O (e5.trans (az.trans (bc.trans (a0.trans (bg.trans (bh.trans (bi.trans (cg.trans (dg.trans (dl.trans dp)))))))))) λw9 eu bf av ev=>?_
  have b3:=av.drop .head
  cases E
  exact⟨(IH (M2 c bf av O mh IG O) Io),⟨O,⟨r9,b4,b5,dm,dn⟩,b3⟩⟩
 intro dq ew ey ez e0 d7
 have E:=GY dq E
 cases E
def K1 {k:Nat}{p0_w:BS}{p:Value}{s:Value}{m:Value}{t:Value}{u:Value}{y:Value}{z:Value}{G:Value}{c:Value}{U:Value}{g:Value}{d:Value}(hs:St S (Bx k 106 [.string p0_w.b.J,p,vI p0_w.b.W,s,m,t,u,y,z,G,vI p0_w.b.Z,vI p0_w.h.K,c,U,g,d]::OS AM 51 c p0_w.h.M::OS BK 97 g p0_w.h.F::OS AM 51 d p0_w.peaks::L) h) (d6:p0_w.b.J.size≤maxLen) (d7:Sl S h B7.str p p0_w.b.Ar) (d8:AD p0_w.b.W) (d9:Sl S h Cb s p0_w.b.D) (bm:Sl S h CI m p0_w.b.F) (ea:Sl S h Fi t p0_w.b.Ac) (eb:Sl S h Ez u p0_w.b.Am) (ec:Sl S h GN y p0_w.b.An) (ed:Sl S h Dr z p0_w.b.Aq) (ee:Sl S h BQ G p0_w.b.Ap) (cn:AD p0_w.b.Z) (co:AD p0_w.h.K) (a4:Sl S h Ce U p0_w.h.S) {ag:Value}{aj:(List AH)}(ai:Sl S h AM ag aj) {r:(List B9)×(List BA)×(List AH)}(E:F3 N p0_w aj=some r):
 Ct prog 51 #[vP k 0,ag] S h (λv S' h'=>∃bb bc be:Value,v= .tuple #[]∧St S' (Bx k 106 [.string p0_w.b.J,p,vI p0_w.b.W,s,m,t,u,y,z,G,vI p0_w.b.Z,vI p0_w.h.K,c,bb,bc,be]::OS AM 51 c p0_w.h.M::OS Ce 93 bb r.1::OS BK 97 bc r.2.1::OS AM 51 be r.2.2::L) h'):=by
 refine BO (l:=[vP k 0,ag]) 162 func51 O ntmps51 O λB=>?_
 rw[F3] at E
 refine AC (AE (AA O (FV O O (AF Fd O (AF MV O (AT BX hs O mh O IK O (Nx hs (mt mh) O Gs O λb1=>AA O (AL (kp [19,18,17,0,1] O) (BG (λa w=>∃(l2:List AH),IV B S h (162,[]) a w [(0,vP k 0)] (Bx k 106 [.string p0_w.b.J,p,vI p0_w.b.W,s,m,t,u,y,z,G,vI p0_w.b.Z,vI p0_w.h.K,c,U,g,d]::OS AM 51 c p0_w.h.M::OS BK 97 g p0_w.h.F::OS AM 51 d l2::L) λ_ _=>Bw N p0_w l2=some r) ?_ ?_)))))))))
 ·refine Bt (λn1=>λa w=>∃(i6:Int) (l8:List AH),IV B S h (162,[]) a w [(18,vI (↑p0_w.h.M.length:Int)),(17,c),(0,vP k 0),(1,ag),(19,vI i6)] (Bx k 106 [.string p0_w.b.J,p,vI p0_w.b.W,s,m,t,u,y,z,G,vI p0_w.b.Z,vI p0_w.h.K,c,U,g,d]::OS AM 51 c p0_w.h.M::OS BK 97 g p0_w.h.F::OS AM 51 d l8::L) λ_ _=>AD i6∧BZ N p0_w aj (Bw N p0_w) n1 i6 l8=some r) N ?_ ?_ ?_
  ·intro aa ww hf hw
   exact⟨0,p0_w.peaks,_,_,hf.sub (kp [18,17,0,1,19] O),hw,hs,(Cm.refl S h),(iq (n:=0) O),E⟩
  ·rintro aa ww ⟨_,_,_,_,_,_,_,_,_,E⟩
   rw[BZ] at E;cases E
  rintro n1 aa ww ⟨i6,l8,S9,jj,hf,hw,bf,bn,r7,E⟩
  refine A8 ?_ hf hw
  clear hf hw ww aa
  rw[BZ] at E
  refine AE (BE O (AL (kp [20,18,17,0,1,19] O) (AC (AW O E (λg4 E=>?_) (λg4 E=>?_)))))
  ·refine AQ (AC (BW (WF.sl (A5 3 (AA O ?_)))))
   obtain⟨jk,ef,E⟩:=bd E
   refine DN bf (mt mh) O O Gs ef O λjl eg=>?_
   obtain⟨a5,eh,E⟩:=bd E
   have g5:=bf.epAt (mt mh) eh Fm.id eg
   refine BP BX (λ_ x=>x) O g5 BY (λe=>by cases e) O λjm g6=>A6 (CX F7 O bf λei jn ej bo=>A5 1 (A4 O (A6 ?_)))
   obtain⟨rfl,⟨ek,el⟩⟩:=AM.ex (g6.mono bo)
   refine BU (vs:=[vI a5.B,vI a5.A]) O O O O BY O ej .head O λjo bg bp=>AS (kp [4,5,18,17,0,1,19] O) (AC (AC (WF.rc (.inl O) bg (AA O (AA O (BJ O (ai.mono' (bn.trans (bo.trans bp))) Gs O λjp=>BE O (AA O ?_)))))))
   obtain⟨em,ak,E⟩:=bd E
   refine AO 6 34 (.bool em) ?_ ?_
   ·cases en:(decide (i6<(↑aj.length:Int)))
    ·have ak:=GY en ak
     cases ak
     exact AX O O
    have ak:=GX en ak
    refine AB O (AA O (AB O (AA O (AB O ?_))))
    obtain⟨jq,eo,ak⟩:=bd ak
    refine B6 O O (ai.mono' (bn.trans (bo.trans bp))) Gs eo O λjr g7=>AB O (BP Bs bg.1 O g7 BY (λe=>by cases e) O λjs g8=>AB O ?_)
    obtain⟨jt,ep,ak⟩:=bd ak
    refine BL O O O Qc O (λh' o=>HE (St.all h') (g8.mono (o.all bg.1)) ep) (AI O ?_)
    cases ak
    exact AN O
   refine AA O ?_
   obtain⟨g9,an,E⟩:=bd E
   refine AO 7 42 (.bool g9) ?_ ?_
   ·cases eq:em
    ·have an:=GY eq an
     cases an
     exact AX O O
    have an:=GX eq an
    refine AB O (AA O (AB O (AA O (AB O ?_))))
    obtain⟨ju,er,an⟩:=bd an
    refine B6 O O (ai.mono' (bn.trans (bo.trans bp))) Gs er O λjv ha=>AB O (AV O ha AH.f_Lo EV O λjw hb=>AB O (AY Bs bg.1 O hb AZ O λjx=>AB O (EQ O (AI O ?_))))
    cases an
    exact AN O
   refine Bu (kp [42,4,5,18,17,0,1,19] O) λes a0 et=>HW (λa w=>∃(a6:Int) (a7:Int),IV B S9 es (162,[]) a w [(4,vI i6),(5,vP ei 0),(18,vI (↑p0_w.h.M.length:Int)),(17,c),(0,vP k 0),(1,ag),(19,vI i6)] (Bx ei 51 [vI a6,vI a7]::Bx k 106 [.string p0_w.b.J,p,vI p0_w.b.W,s,m,t,u,y,z,G,vI p0_w.b.Z,vI p0_w.h.K,c,U,g,d]::OS AM 51 c p0_w.h.M::OS BK 97 g p0_w.h.F::OS AM 51 d l8::L) λ_ _=>AD a6∧AD a7∧ES N i6 l8 (BZ N p0_w aj (Bw N p0_w) n1) a6 a7=some r) ?_ ?_
   ·refine AW O E (λhc E=>?_) (λhc E=>?_)
    ·refine F6 6 mo (by kernel_rfl) O a0 (Cw (vs:=[vI a5.B,vI a5.A]) Bs a0 O mh O O BY O O (AA O (AA O ?_)))
     obtain⟨jy,eu,E⟩:=bd E
     refine B6 O O (ai.mono' (bn.trans (bo.trans (bp.trans et)))) Gs eu O λjz hd=>BP Bs a0.1 O hd BY (λe=>by cases e) O λj0 he=>?_
     obtain⟨b4,ev,E⟩:=bd E
     refine Bz O O O Ta O (λh' o=>Kz (St.all h') (AM.mk (x:=a5) ⟨ek,el⟩) (he.mono (o.all a0.1)) ev) λhg=>?_
     obtain⟨hh,hi⟩:=hg
     refine E0 λj1 ew hj=>BU (vs:=[vI b4.B,vI b4.A]) O O O O BY O ew .head O λj2 ey hk=>AS (kp [4,5,18,17,0,1,19] O) (WF.nil (λaa ww hf hw=>?_))
     exact⟨b4.B,b4.A,_,_,hf.sub (kp [4,5,18,17,0,1,19] O),hw,ey,(hj.trans hk),hh,hi,E⟩
    refine AQ (WF.nil (λaa ww hf hw=>?_))
    exact⟨a5.B,a5.A,_,_,hf.sub (kp [4,5,18,17,0,1,19] O),hw,a0,(Cm.refl S9 es),ek,el,E⟩
   rintro aa ww ⟨a6,a7,j3,j4,hf,hw,bh,hl,hm,hn,E⟩
   refine A8 ?_ hf hw
   clear hf hw ww aa
   rw[ES] at E
   refine Po 7 mo (by kernel_rfl) O (AA O (FV O O (AF HJ O (AT BX bh O (mt mh) O IK O (AA O (Cw (vs:=[vI a6,vI a7]) BX bh O mh O O BY O O ?_))))))
   obtain⟨j5,ez,E⟩:=bd E
   refine DN bh (mt (mt (mt (mt mh)))) O O Gs ez O λj6 e0=>A6 ?_
   obtain⟨ho,e1,E⟩:=bd E
   refine IB (r:=AM) (l:=l8) (i:=i6) (x:=ho) O O (AM.mk (x:=(⟨a6,a7⟩:AH)) ⟨hm,hn⟩) e0 e1 N3.id BY (λe=>by cases e) bh (.tail (.tail (.tail (.tail .head)))) λj7 e2 hp=>AS (kp [18,17,0,1,19] O) (B0 (CL (.inl O) (BD O (AA O (AL (kp [19,18,17,0,1] O) (WF.nil (λaa ww hf hw=>?_)))))))
   have e3:=e2.sel [1,1,1,1] 1 O
   exact⟨(B8 (i6+1)),(upd l8 i6 (⟨a6,a7⟩:AH)),_,_,hf.sub (kp [18,17,0,1,19] O),hw,e3,(bn.trans (bo.trans (bp.trans (et.trans (hl.trans hp))))),(CJ _),E⟩
  refine WF.exit O (λaa ww hf hw=>?_)
  exact⟨l8,_,_,hf.sub (kp [0] O),hw,bf,bn,E⟩
 rintro aa ww ⟨l2,cp,cq,hf,hw,b5,cr,E⟩
 refine A8 ?_ hf hw
 clear hf hw ww aa
 rw[Bw] at E
 refine AE (AJ O (kp [6,0] O) (AC (AE (AA O (FV O O (AF Fd O (AF MU O (AT BX b5 O mh O QJ O ?_))))))))
 have e4:=a4.mono' cr
 refine BJ O e4 G8 O λj8=>AA O (AL (kp [63,62,61,6,0] O) (BG (λa w=>∃(bq:Value) (ac:List B9) (av:List AH),IV B cp cq (162,[]) a w [(0,vP k 0),(6,bq)] (OS Ce 93 bq ac::Bx k 106 [.string p0_w.b.J,p,vI p0_w.b.W,s,m,t,u,y,z,G,vI p0_w.b.Z,vI p0_w.h.K,c,U,g,d]::OS AM 51 c p0_w.h.M::OS BK 97 g p0_w.h.F::OS AM 51 d av::L) λ_ _=>Co N p0_w ac av=some r) ?_ ?_))
 ·refine Bt (λn4=>λa w=>∃(a1:Value) (ao:List B9) (ap:Int) (aq:List AH),IV B cp cq (162,[]) a w [(62,vI (↑p0_w.h.S.length:Int)),(61,U),(0,vP k 0),(6,a1),(63,vI ap)] (OS Ce 93 a1 ao::Bx k 106 [.string p0_w.b.J,p,vI p0_w.b.W,s,m,t,u,y,z,G,vI p0_w.b.Z,vI p0_w.h.K,c,U,g,d]::OS AM 51 c p0_w.h.M::OS BK 97 g p0_w.h.F::OS AM 51 d aq::L) λ_ _=>AD ap∧Ca N p0_w (Co N p0_w) n4 ao ap aq=some r) N ?_ ?_ ?_
  ·intro aa ww hf hw
   have ct:=b5.nil Ce 93
   exact⟨(vN),([]:List B9),0,l2,_,_,hf.sub (kp [62,61,0,6,63] O),hw,ct,(Cm.refl cp cq),(iq (n:=0) O),E⟩
  ·rintro aa ww ⟨_,_,_,_,_,_,_,_,_,_,_,E⟩
   rw[Ca] at E;cases E
  rintro n4 aa ww ⟨a1,ao,ap,aq,e5,e6,hf,hw,a8,br,hq,E⟩
  refine A8 ?_ hf hw
  clear hf hw ww aa
  rw[Ca] at E
  refine AE (BE O (AL (kp [64,62,61,0,6,63] O) (AC (AW O E (λe7 E=>?_) (λe7 E=>?_)))))
  ·refine AQ (AC (BG (λa w=>∃(bi:Value) (bj:List B9) (bk:List AH),IV B e5 e6 (162,[]) a w [(62,vI (↑p0_w.h.S.length:Int)),(61,U),(0,vP k 0),(63,vI ap),(6,bi)] (OS Ce 93 bi bj::Bx k 106 [.string p0_w.b.J,p,vI p0_w.b.W,s,m,t,u,y,z,G,vI p0_w.b.Z,vI p0_w.h.K,c,U,g,d]::OS AM 51 c p0_w.h.M::OS BK 97 g p0_w.h.F::OS AM 51 d bk::L) λ_ _=>FM N ap (Ca N p0_w (Co N p0_w) n4) bj bk=some r) ?_ ?_))
   ·refine WF.sl (A5 2 ?_)
    obtain⟨ad,cu,E⟩:=bd E
    refine B6 O O (e4.mono' br) G8 cu O λhr e8=>BP BX a8.1 O e8 Ll (λe=>by cases e) O λht e9=>A6 (CX Ym O a8 λhu hv cv bs=>?_)
    obtain⟨rfl,⟨fb,fc,b6,b7⟩⟩:=Ce.ex (e9.mono bs)
    refine BU (vs:=[vI ad.X,vI ad.E,vI ad.M.B,vI ad.M.A]) O O O O Ll O cv .head O λhx ae b8=>AS (kp [8,62,61,0,6,63] O) (AC (CL (.inr ⟨mo,by kernel_rfl⟩) (AF Oz O (AT BX ae O mh O AZ O (AA O (FV O O (AF Fd O (AF KT O (AT BX ae O (mt (mt mh)) O AZ O (HC O (AL (kp [74,8,62,61,0,6,63] O) (AW O E (λfd E=>?_) (λfd E=>?_)))))))))))))
    ·refine F6 18 mo (by kernel_rfl) O ae (AA O (FV O O (AF HJ O (AT Bs ae O (mt (mt mh)) O IK O (AF Ni O (AT Bs ae O mh O AZ O (AA O (FV O O (AF HJ O (AT Bs ae O (mt (mt mh)) O IK O (AF Ni O (AT Bs ae O mh O AZ O ?_))))))))))))
     obtain⟨hy,cw,E⟩:=bd E
     refine DN ae (mt (mt (mt (mt (mt mh))))) O O Gs cw O λhz cx=>?_
     obtain⟨h0,cy,E⟩:=bd E
     have fe:=ae.epAt (mt (mt (mt (mt (mt mh))))) cy Fm.id cx
     refine BP Bs (λ_ x=>x) O fe BY (λe=>by cases e) O λh1 ff=>AF MS O (Cw (vs:=[vI ad.M.B,vI ad.M.A]) Bs ae O mh O O BY O O ?_)
     obtain⟨b9,cz,E⟩:=bd E
     refine Bz O O O Ta O (λh' o=>Kz (St.all h') (ff.mono (o.all ae.1)) (AM.mk (x:=ad.M) ⟨b6,b7⟩) cz) λfg=>?_
     obtain⟨fh,fi⟩:=fg
     obtain⟨h2,c0,E⟩:=bd E
     refine DN ae (mt (mt (mt (mt (mt mh))))) O O Gs c0 O λh3 c1=>E0 λh4 c2 fj=>?_
     obtain⟨fk,c3,E⟩:=bd E
     refine IB (r:=AM) (l:=aq) (i:=ad.E) (x:=fk) O O (AM.mk (x:=b9) ⟨fh,fi⟩) c1 c3 N3.id BY (λe=>by cases e) c2 (.tail (.tail (.tail (.tail (.tail .head))))) λh5 c4 fl=>AS (kp [62,61,0,6,63] O) (WF.nil (λaa ww hf hw=>?_))
     have c5:=c4.sel [1,1,1,1,1] 1 O
     exact⟨a1,ao,(upd aq ad.E b9),_,_,hf.sub (kp [62,61,0,63,6] O),hw,c5,(bs.trans (b8.trans (fj.trans fl))),E⟩
    refine Gf (A5 2 (AA O (Cw (vs:=[vI ad.X,vI ad.E,vI ad.M.B,vI ad.M.A]) BX ae O mh O O Ll O O (A6 (JF (cs:=[vI ad.X,vI ad.E,vI ad.M.B,vI ad.M.A]) SV O O O O O O O ae λh6 h7 c6 fm=>?_)))))
    obtain⟨c7,E⟩:=TW E
    refine LH (r:=Ce) (l:=ao) (xs:=([ad]:List B9)) O O SV O mh ⟨_,_,O,⟨O,⟨fb,fc,b6,b7⟩⟩,O⟩ O O c7 O c6 (λ_=>(.tail (.tail .head))) λfn h8 c8 fo=>?_
    have c9:=c8.drop .head
    refine A5 1 (A4 O (A6 (AS (kp [6,62,61,0,63] O) (WF.nil (λaa ww hf hw=>?_)))))
    have da:=c9.sel [1,1,1,1,1] 1 O
    exact⟨fn,(ao++([ad]:List B9)),aq,_,_,hf.sub (kp [62,61,0,63,6] O),hw,da,(bs.trans (b8.trans (fm.trans fo))),E⟩
   rintro aa ww ⟨bi,bj,bk,h9,ia,hf,hw,db,fp,E⟩
   refine A8 ?_ hf hw
   clear hf hw ww aa
   rw[FM] at E
   refine CL (.inl O) (BD O (AA O (AL (kp [63,62,61,0,6] O) (WF.nil (λaa ww hf hw=>?_)))))
   exact⟨bi,bj,(B8 (ap+1)),bk,_,_,hf.sub (kp [62,61,0,6,63] O),hw,db,(br.trans fp),(CJ _),E⟩
  refine WF.exit O (λaa ww hf hw=>?_)
  exact⟨a1,ao,aq,_,_,hf.sub (kp [0,6] O),hw,a8,br,E⟩
 rintro aa ww ⟨bq,ac,av,bt,ib,hf,hw,bu,ca,E⟩
 refine A8 ?_ hf hw
 clear hf hw ww aa
 rw[Co] at E
 refine WF.sl (A5 5 (AA O (AA O (FV O O (AF Fd O (AF MU O (A6 ?_)))))))
 obtain⟨ah,af,rfl,ic⟩:=bu.oslen mh
 refine Jg (vs:=[(.slice ah ac.length af)]) (cs':=[.string p0_w.b.J,p,vI p0_w.b.W,s,m,t,u,y,z,G,vI p0_w.b.Z,vI p0_w.h.K,c,(.slice ah ac.length af),g,d]) O O O O QJ O bu (.tail .head) O O λbv a9 cb=>AS (kp [0] O) (AC (AE (AA O (FV O O (AF HJ O (AT BX a9 O (mt mh) O IK O (Nx a9 (mt (mt (mt (mt mh)))) O Gs O λie=>AA O (AL (kp [108,107,106,0] O) (BG (λa w=>∃(ar:List AH),IV B bt bv (162,[]) a w [(0,vP k 0)] (OS Ce 93 (.slice ah ac.length af) ac::Bx k 106 [.string p0_w.b.J,p,vI p0_w.b.W,s,m,t,u,y,z,G,vI p0_w.b.Z,vI p0_w.h.K,c,(.slice ah ac.length af),g,d]::OS AM 51 c p0_w.h.M::OS BK 97 g p0_w.h.F::OS AM 51 d ar::L) λ_ _=>Cz N p0_w ac ar=some r) ?_ ?_)))))))))
 ·refine Bt (λn7=>λa w=>∃(au:Int) (aw:List AH),IV B bt bv (162,[]) a w [(107,vI (↑av.length:Int)),(106,d),(0,vP k 0),(108,vI au)] (OS Ce 93 (.slice ah ac.length af) ac::Bx k 106 [.string p0_w.b.J,p,vI p0_w.b.W,s,m,t,u,y,z,G,vI p0_w.b.Z,vI p0_w.h.K,c,(.slice ah ac.length af),g,d]::OS AM 51 c p0_w.h.M::OS BK 97 g p0_w.h.F::OS AM 51 d aw::L) λ_ _=>AD au∧Cy N av (Cz N p0_w ac) n7 au aw=some r) N ?_ ?_ ?_
  ·intro aa ww hf hw
   exact⟨0,av,_,_,hf.sub (kp [107,106,0,108] O),hw,a9,(Cm.refl bt bv),(iq (n:=0) O),E⟩
  ·rintro aa ww ⟨_,_,_,_,_,_,_,_,_,E⟩
   rw[Cy] at E;cases E
  rintro n7 aa ww ⟨au,aw,ig,ih,hf,hw,ay,cc,ii,E⟩
  refine A8 ?_ hf hw
  clear hf hw ww aa
  rw[Cy] at E
  refine AE (BE O (AL (kp [109,107,106,0,108] O) (AC (AW O E (λfq E=>?_) (λfq E=>?_)))))
  ·refine AQ (AC (BW (WF.sl (A5 3 (AA O ?_)))))
   obtain⟨ij,dc,E⟩:=bd E
   refine DN ay (mt (mt (mt (mt mh)))) O O Gs dc O λik dd=>?_
   obtain⟨a2,de,E⟩:=bd E
   have fr:=ay.epAt (mt (mt (mt (mt mh)))) de Fm.id dd
   refine BP BX (λ_ x=>x) O fr BY (λe=>by cases e) O λil fs=>A6 (CX F7 O ay λim io df cd=>A5 1 (A4 O (A6 ?_)))
   obtain⟨rfl,⟨ft,fu⟩⟩:=AM.ex (fs.mono cd)
   refine BU (vs:=[vI a2.B,vI a2.A]) O O O O BY O df .head O λip az fv=>AS (kp [9,10,107,106,0,108] O) (F6 8 mo (by kernel_rfl) O az (AA O (FV O O (AF HJ O (AT Bs az O (mt (mt mh)) O IK O (AA O (Cw (vs:=[vI a2.B,vI a2.A]) Bs az O mh O O BY O O ?_)))))))
   obtain⟨ce,dg,E⟩:=bd E
   refine Bz O O O TZ O (λh' o=>I8 (St.all h') (AM.mk (x:=a2) ⟨ft,fu⟩) dg) λfw=>?_
   obtain⟨fx,fy⟩:=fw
   obtain⟨ir,dh,E⟩:=bd E
   refine DN az (mt (mt (mt (mt (mt mh))))) O O Gs dh O λit di=>E0 λiu dj fz=>?_
   obtain⟨f0,dk,E⟩:=bd E
   refine IB (r:=AM) (l:=aw) (i:=au) (x:=f0) O O (AM.mk (x:=ce) ⟨fx,fy⟩) di dk N3.id BY (λe=>by cases e) dj (.tail (.tail (.tail (.tail (.tail .head))))) λiv dl f1=>AS (kp [107,106,0,108] O) (B0 (CL (.inl O) (BD O (AA O (AL (kp [108,107,106,0] O) (WF.nil (λaa ww hf hw=>?_)))))))
   have dm:=dl.sel [1,1,1,1,1] 1 O
   exact⟨(B8 (au+1)),(upd aw au ce),_,_,hf.sub (kp [107,106,0,108] O),hw,dm,(cc.trans (cd.trans (fv.trans (fz.trans f1)))),(CJ _),E⟩
  refine WF.exit O (λaa ww hf hw=>?_)
  exact⟨aw,_,_,hf.sub (kp [0] O),hw,ay,cc,E⟩
 rintro aa ww ⟨ar,cf,cg,hf,hw,bw,ch,E⟩
 refine A8 ?_ hf hw
 clear hf hw ww aa
 rw[Cz] at E
 refine AE (AA O (FV O O (AF HK O (AF Gu O (AT BX bw O (mt mh) O JP O ?_)))))
 have ci:=bm.mono' (cr.trans (ca.trans (cb.trans ch)))
 refine BJ O ci Ht O λiw=>AA O (AL (kp [128,127,126,0] O) (BW (Bt (λn8=>λa w=>∃(am:Int) (ax:List BA),IV B cf cg (162,[]) a w [(127,vI (↑p0_w.b.F.length:Int)),(126,m),(0,vP k 0),(128,vI am)] (OS Ce 93 (.slice ah ac.length af) ac::Bx k 106 [.string p0_w.b.J,p,vI p0_w.b.W,s,m,t,u,y,z,G,vI p0_w.b.Z,vI p0_w.h.K,c,(.slice ah ac.length af),g,d]::OS AM 51 c p0_w.h.M::OS BK 97 g ax::OS AM 51 d ar::L) λ_ _=>AD am∧Cn N p0_w ac ar n8 am ax=some r) N ?_ ?_ ?_)))
 ·intro aa ww hf hw
  exact⟨0,p0_w.h.F,_,_,hf.sub (kp [127,126,0,128] O),hw,bw,(Cm.refl cf cg),(iq (n:=0) O),E⟩
 ·rintro aa ww ⟨_,_,_,_,_,_,_,_,_,E⟩
  rw[Cn] at E;cases E
 rintro n8 aa ww ⟨am,ax,f2,f3,hf,hw,ba,bx,iy,E⟩
 refine A8 ?_ hf hw
 clear hf hw ww aa
 rw[Cn] at E
 refine AE (BE O (AL (kp [129,127,126,0,128] O) (AC (AW O E (λf4 E=>?_) (λf4 E=>?_)))))
 ·refine AQ (AC (BG (λa w=>∃(bl:List BA),IV B f2 f3 (162,[]) a w [(127,vI (↑p0_w.b.F.length:Int)),(126,m),(0,vP k 0),(128,vI am)] (OS Ce 93 (.slice ah ac.length af) ac::Bx k 106 [.string p0_w.b.J,p,vI p0_w.b.W,s,m,t,u,y,z,G,vI p0_w.b.Z,vI p0_w.h.K,c,(.slice ah ac.length af),g,d]::OS AM 51 c p0_w.h.M::OS BK 97 g bl::OS AM 51 d ar::L) λ_ _=>FL N am (Cn N p0_w ac ar n8) bl=some r) ?_ ?_))
  ·refine WF.sl (A5 3 (AA O ?_))
   obtain⟨j,dn,E⟩:=bd E
   refine B6 O O (ci.mono' bx) Ht dn O λiz f5=>BP BX ba.1 O f5 FC (λe=>by cases e) O λi0 f6=>A6 (CX Mx O ba λi1 i2 dp bz=>A5 1 (A4 O (A6 ?_)))
   obtain⟨b0,b2,b3,rfl,f7,f8,f9,ga,cj,ck,cl,gb,gc,ge,gf,gg,gh,gi,gj,gk,gl,gm⟩:=CI.ex (f6.mono bz)
   refine IR (vs:=[.string j.J,vI j.C,vI j.I,vI j.E,b0,b2,b3,vI j.Q,vI j.Ab,vI j.Ad,vI j.O,vI j.N,vI j.H,vI j.Ak,vI j.Ae,vI j.Aa,vI j.Y,vI j.V]) (cs':=[.string j.J,vI j.C,vI j.I,vI j.E,b0,b2,b3,vI j.Q,vI j.Ab,vI j.Ad,vI j.O,vI j.N,vI j.H,vI j.Ak,vI j.Ae,vI j.Aa,vI j.Y,vI j.V]) O O O (AG O (AG O (AG O (AG O (AG cj.one (AG ck.one (AG cl.one (AG O (AG O (AG O (AG O (AG O (AG O (AG O (AG O (AG O (AG O (AG O GJ)))))))))))))))))) FC O dp .head O O λi3 ab a3=>AS (kp [11,12,127,126,0,128] O) (AE (AF E6 O (AT BX ab O mh O AZ O (CR O (AL (kp [135,11,12,127,126,0,128] O) (AW O E (λgn E=>?_) (λgn E=>?_)))))))
   ·refine F6 25 mo (by kernel_rfl) O ab (AA O (FV O O (AF Fd O (AF IU O (AT Bs ab O (mt (mt mh)) O LK O (AA O (Cw (vs:=[.string j.J,vI j.C,vI j.I,vI j.E,b0,b2,b3,vI j.Q,vI j.Ab,vI j.Ad,vI j.O,vI j.N,vI j.H,vI j.Ak,vI j.Ae,vI j.Aa,vI j.Y,vI j.V]) Bs ab O mh O O FC O O (AA O (FV O O (AF Fd O (AF IU O (AT Bs ab O (mt (mt mh)) O LK O (AA O ?_)))))))))))))
    obtain⟨i4,dq,E⟩:=bd E
    refine DN ab (mt (mt (mt (mt mh)))) O O Lo dq O λi5 dr=>?_
    obtain⟨i7,ds,E⟩:=bd E
    have gp:=ab.epAt (mt (mt (mt (mt mh)))) ds Fm.id dr
    refine BP Bs (λ_ x=>x) O gp IG (λe=>by cases e) O λi8 gq=>AA O (FV O O (AF HJ O (AT Bs ab O (mt (mt mh)) O IK O (AF H1 O (AT Bs ab O mh O AZ O ?_)))))
    obtain⟨i9,dt,E⟩:=bd E
    refine DN ab (mt (mt (mt (mt (mt mh))))) O O Gs dt O λja du=>?_
    obtain⟨jb,dv,E⟩:=bd E
    have gr:=ab.epAt (mt (mt (mt (mt (mt mh))))) dv Fm.id du
    refine BP Bs (λ_ x=>x) O gr BY (λe=>by cases e) O λjc gs=>?_
    obtain⟨cm,dw,E⟩:=bd E
    refine Bz O O O aO O (λh' o=>PG (St.all h') (CI.mk (x:=j) f7 f8 f9 ga ((cj.mono' a3).mono' (o.all ab.1)) ((ck.mono' a3).mono' (o.all ab.1)) ((cl.mono' a3).mono' (o.all ab.1)) gb gc ge gf gg gh gi gj gk gl gm) (gq.mono (o.all ab.1)) (gs.mono (o.all ab.1)) dw) λgu=>?_
    obtain⟨gv,gw,gx,gy,gz⟩:=gu
    obtain⟨jd,dx,E⟩:=bd E
    refine DN ab (mt (mt (mt (mt mh)))) O O Lo dx O λje dy=>E0 λjf dz g0=>?_
    obtain⟨g1,d0,E⟩:=bd E
    refine IB (r:=BK) (l:=ax) (i:=am) (x:=g1) O O (BK.mk (x:=cm) ⟨gv,gw,gx,gy,gz⟩) dy d0 N3.id IG (λe=>by cases e) dz (.tail (.tail (.tail (.tail .head)))) λjg d1 g2=>AS (kp [127,126,0,128] O) (WF.nil (λaa ww hf hw=>?_))
    have d2:=d1.sel [1,1,1,1,1] 1 O
    exact⟨(upd ax am cm),_,_,hf.sub (kp [127,126,0,128] O),hw,d2,(bz.trans (a3.trans (g0.trans g2))),E⟩
   refine AQ (WF.nil (λaa ww hf hw=>?_))
   have d3:=ab.sel [1,1,1,1,1] 1 O
   exact⟨ax,_,_,hf.sub (kp [127,126,0,128] O),hw,d3,(bz.trans a3),E⟩
  rintro aa ww ⟨bl,jh,ji,hf,hw,d4,g3,E⟩
  refine A8 ?_ hf hw
  clear hf hw ww aa
  rw[FL] at E
  refine CL (.inl O) (BD O (AA O (AL (kp [128,127,126,0] O) (WF.nil (λaa ww hf hw=>?_)))))
  exact⟨(B8 (am+1)),bl,_,_,hf.sub (kp [127,126,0,128] O),hw,d4,(bx.trans g3),(CJ _),E⟩
 refine JV O (WF.nil (λaa ww hf hw=>?_))
 have d5:=ba.sel [1,1,0,0,0] 0 O
 cases E
 exact I1 hf O hw Io O (cr.trans (ca.trans (cb.trans (ch.trans bx)))) ⟨_,_,_,O,d5⟩
end Go.Proofs.YtibidnaedddfdaaGreat
