import Derived.Test.YtblcgjadhemlbaaGreatVWalk11
namespace Go.Proofs.YtblcgjadhemlbaaGreat
set_option linter.all false
open Go.RowKit
open Go.Proofs.Tryz
set_option maxRecDepth 10000
set_option maxHeartbeats 2000000
variable {N:Nat}{S:Nat→Prop}{L:List HP}{h:BL}
def Hq (C:St S L h) {b:Int}(m:AH b) {r:(List AK)}(E:Cc N b=some r):
 C5 prog 82 #[vN,vI b] S h (λv S' h'=>St S' (OS BJ 111 v r::L) h'):=by
 refine Bv (l:=[vN,vI b]) 27 func82 O ntmps82 O λB=>?_
 rw[Cc] at E
 refine AI (AM O (kp [0,1] O) (AE (AI (AA O (BK O (AN (kp [6,0,1] O) (AX O E (λD E=>?_) (λD E=>?_))))))))
 ·cases E
 refine AT (AE (AI (AA O (AA O (Vi O MA O (AA O (NS O MA O (Dk O (Dk O (AM O (kp [1,0] O) (AI (AA O (CP O (AN (kp [16,1,0] O) (HN (λa w=>∃(p:Value) (s:List AK),IV B S h (27,[]) a w [(0,p)] (OS BJ 111 p s::L) λ_ _=>CR N s=some r) ?_ ?_)))))))))))))))
 ·refine AX O E (λF E=>?_) (λF E=>?_)
  ·refine FO (AF 5 (AA O (AA O (Vi O MA O (dJ O O MA O (AA O (AG ?_)))))))
   obtain⟨t,E⟩:=Mc E
   obtain⟨u,E⟩:=Mc E
   refine Zp O O Lj lB (pR t) u O O C λG H I J K x y g z=>AF 4 (AA O (NS O MA O (dI O O MA O ?_)))
   have i:=YW (r:=BJ) (l:=([]:List AK)) g (nE _) x y XD
   refine AY O (AG (AZ (kp [0] O) (WF.nil (λn o c d=>?_))))
   exact⟨(.slice (some ⟨G,0,none⟩) 0 H),([]:List AK),_,_,c.sub (kp [0] O),d,i,z,E⟩
  refine AT (WF.nil (λn o c d=>?_))
  have j:=C.nil BJ 111
  exact⟨(vN),([]:List AK),_,_,c.sub (kp [0] O),d,j,(Cv.refl S h),E⟩
 rintro n o ⟨p,s,M,Q,c,d,k,A,E⟩
 refine A6 ?_ c d
 clear c d o n
 rw[CR] at E
 refine AI (AA O (AM O (kp [4] O) (A5 (λn o c d=>?_))))
 cases E
 exact Ee c d O O A k
def Ha (hs:St S L h) {b:Value}{c:(List (List AK))}(d:Sl S h (BW.sl BJ) b c) {r:(List AK)}(E:CU N c=some r):
 C5 prog 61 #[b] S h (λv S' h'=>St S' (OS BJ 111 v r::L) h'):=by
 refine Bv (l:=[b]) 36 func61 O ntmps61 O λB=>?_
 rw[CU] at E
 refine AI (AM O (kp [0] O) (AI (AM O (kp [3,0] O) (AE (AI (AA O (BC O d Rr O λb1=>AA O (AN (kp [11,10,9,3,0] O) (BF (λa w=>∃(i2:Int),IV B S h (36,[]) a w [(0,b),(3,vI i2)] (L) λ_ _=>AH i2∧CO N c i2=some r) ?_ ?_)))))))))
 ·refine BT (λn1=>λa w=>∃(G:Int) (o:Int),IV B S h (36,[]) a w [(10,vI (↑c.length:Int)),(9,b),(0,b),(3,vI G),(11,vI o)] (L) λ_ _=>AH G∧AH o∧CD N c (CO N c) n1 G o=some r) N ?_ ?_ ?_
  ·intro j k g i
   exact⟨0,0,_,_,g.sub (kp [10,9,0,3,11] O),i,hs,(Cv.refl S h),(iq (n:=0) O),(iq (n:=0) O),E⟩
  ·rintro j k ⟨_,_,_,_,_,_,_,_,_,_,E⟩
   rw[CD] at E;cases E
  rintro n1 j k ⟨G,o,ao,ap,g,i,s,y,r9,aq,E⟩
  refine A6 ?_ g i
  clear g i k j
  rw[CD] at E
  refine AI (BK O (AN (kp [12,10,9,0,3,11] O) (AE (AX O E (λab E=>?_) (λab E=>?_)))))
  ·refine AT (AE (BV (AI ?_)))
   obtain⟨ac,H,E⟩:=bd E
   refine Bz O O (d.mono' y) Rr H O λar ad=>BG BY s.1 O ad Wk O λau ae=>AM O (kp [5,10,9,0,3,11] O) (AI (AA O (AA O (BC O ae MA O λav=>BB O (AM O (kp [3,10,9,0,11] O) (AI (AA O (BK O (AN (kp [20,3,10,9,0,11] O) (AX O E (λaf E=>?_) (λaf E=>?_)))))))))))
   ·cases E
   refine AT (B5 (CN (.inl O) (BB O (AA O (AN (kp [11,3,10,9,0] O) (WF.nil (λj k g i=>?_)))))))
   exact⟨(B0 (G+(↑ac.length:Int))),(B0 (o+1)),_,_,g.sub (kp [10,9,0,3,11] O),i,s,y,(B1 _),(B1 _),E⟩
  refine By O (λj k g i=>?_)
  exact⟨G,_,_,g.sub (kp [0,3] O),i,s,y,r9,E⟩
 rintro j k ⟨i2,aw,ax,g,i,I,J,r3,E⟩
 refine A6 ?_ g i
 clear g i k j
 rw[CO] at E
 refine WF.sl (AF 1 (AA O (AG ?_)))
 obtain⟨ag,K,E⟩:=bd E
 refine DU O O O iH O (Hq I r3 K) λah z A M p=>?_
 have Q:=p
 refine AF 1 (AY O (AG (AZ (kp [6,0] O) (AE (AI (AA O ?_))))))
 have U:=d.mono' (J.trans M)
 refine BC O U Rr O λay=>AA O (AN (kp [27,26,25,6] O) (BF (λa w=>∃(C:Value) (D:List AK),IV B z A (36,[]) a w [(6,C)] (OS BJ 111 C D::L) λ_ _=>Cr N D=some r) ?_ ?_))
 ·refine BT (λn3=>λa w=>∃(x:Value) (m:List AK) (t:Int),IV B z A (36,[]) a w [(26,vI (↑c.length:Int)),(25,b),(6,x),(27,vI t)] (OS BJ 111 x m::L) λ_ _=>AH t∧CC N c (Cr N) n3 m t=some r) N ?_ ?_ ?_
  ·intro j k g i
   exact⟨ah,ag,0,_,_,g.sub (kp [26,25,6,27] O),i,Q,(Cv.refl z A),(iq (n:=0) O),E⟩
  ·rintro j k ⟨_,_,_,_,_,_,_,_,_,_,E⟩
   rw[CC] at E;cases E
  rintro n3 j k ⟨x,m,t,az,a0,g,i,u,F,a1,E⟩
  refine A6 ?_ g i
  clear g i k j
  rw[CC] at E
  refine AI (BK O (AN (kp [28,26,25,6,27] O) (AE (AX O E (λai E=>?_) (λai E=>?_)))))
  ·refine AT (AE (BV (AI ?_)))
   obtain⟨V,W,E⟩:=bd E
   refine Bz O O (U.mono' F) Rr W O λa2 aj=>BG BY u.1 O aj Wk O λa3 ak=>AM O (kp [8,26,25,6,27] O) (FO (AF 2 (AA O (AA O (AG ?_)))))
   obtain⟨X,E⟩:=Mc E
   refine J3 (r:=BJ) (l:=m) (xs:=V) O O Lj O (Sl.src ak) O X O u (λ_=> .head) λal a4 Y am=>AF 1 (AY O (AG (AZ (kp [6,26,25,27] O) (B5 (CN (.inl O) (BB O (AA O (AN (kp [27,6,26,25] O) (WF.nil (λj k g i=>?_))))))))))
   exact⟨al,(m++V),(B0 (t+1)),_,_,g.sub (kp [26,25,6,27] O),i,Y,(F.trans am),(B1 _),E⟩
  refine By O (λj k g i=>?_)
  exact⟨x,m,_,_,g.sub (kp [6] O),i,u,F,E⟩
 rintro j k ⟨C,D,a5,a6,g,i,Z,an,E⟩
 refine A6 ?_ g i
 clear g i k j
 rw[Cr] at E
 refine AI (AA O (AM O (kp [2] O) (A5 (λj k g i=>?_))))
 cases E
 exact Ee g i O O (J.trans (M.trans an)) Z
def Kl (Z:St S L h) {c:Value}{m:(List Int)}(p:Sl S h AJ c m) {d:Value}{q:(Int→Option Bool)}(s:Rd S h (BW.fn prog (λx:Int=>([vI x]:List Value)) (λx:Int=>AH x) (λy:Bool=> .bool y) (λy:Bool=>True)) d q) {r:Int}(E:Ey N m q=some r):
 C5 prog 107 #[c,d] S h (λv S' h'=>v=vI r∧AH r∧St S' (L) h'):=by
 refine Bv (l:=[c,d]) 19 func107 O ntmps107 O λB=>?_
 rw[Ey] at E
 obtain⟨I,J,rfl,K,M⟩:=s.fn
 refine AI (AM O (kp [0,1] O) (AE (AI (AA O (BC O p CA O λb5=>AA O (AN (kp [8,7,0,1] O) (BF (λa w=>IV B S h (19,[]) a w [] (L) λ_ _=>EJ N=some r) ?_ ?_)))))))
 ·refine BT (λY=>λa w=>∃(A:Int),IV B S h (19,[]) a w [(7,vI (↑m.length:Int)),(0,c),(1,(.func (.func I) #[] J)),(8,vI A)] (L) λ_ _=>AH A∧DB N m q (EJ N) Y A=some r) N ?_ ?_ ?_
  ·intro t u i j
   exact⟨0,_,_,i.sub (kp [7,0,1,8] O),j,Z,(Cv.refl S h),(iq (n:=0) O),E⟩
  ·rintro t u ⟨_,_,_,_,_,_,_,_,E⟩
   rw[DB] at E;cases E
  rintro Y t u ⟨A,ab,ac,i,j,g,k,r9,E⟩
  refine A6 ?_ i j
  clear i j u t
  rw[DB] at E
  refine AI (BK O (AN (kp [9,7,0,1,8] O) (AE (AX O E (λQ E=>?_) (λQ E=>?_)))))
  ·refine AT (AE (BV (AI (AA O (AM O (kp [5,7,0,1,8] O) (AE (CX (.inl O) g (AA O (AA O (AA O ?_))))))))))
   obtain⟨ad,C,E⟩:=bd E
   refine Bz O O (p.mono' k) CA C O λae U=>A9 CL g.1 O U A7 O λV=>?_
   obtain⟨af,D,E⟩:=bd E
   refine BR O O O K O (λh' o=>M _ h' (λb H=>nH (g.1 b (k.sub b H)) o.siz) (λb H=>(o.same b (g.1 b (k.sub b H))).trans (k.same b H)) [] (St.all h') _ _ V D) (B3 (kp [16,5,7,0,1,8] O) λag z F=>AX O E (λW E=>?_) (λW E=>?_))
   ·refine AI (AA O (AM O (kp [4] O) (A5 (λt u i j=>?_))))
    cases E
    exact Ee i j O O (k.trans F) ⟨O,r9,z⟩
   refine AT (B5 (CN (.inl O) (BB O (AA O (AN (kp [8,7,0,1] O) (WF.nil (λt u i j=>?_)))))))
   exact⟨(B0 (A+1)),_,_,i.sub (kp [7,0,1,8] O),j,z,(k.trans F),(B1 _),E⟩
  refine By O (λt u i j=>?_)
  exact⟨_,_,i.sub PO,j,g,k,E⟩
 rintro t u ⟨ah,ai,i,j,G,X,E⟩
 refine A6 ?_ i j
 clear i j u t
 rw[EJ] at E
 refine AI (AM O (kp [4] O) (A5 (λt u i j=>?_)))
 cases E
 exact Ee i j O O X ⟨O,(iq (n:=(-1)) O),G⟩
def J8 (j:St S L h) {a:Value}{g:(List Int)}(d:Sl S h AJ a g) {b:Value}{i:(Int→Option Bool)}(c:Rd S h (BW.fn prog (λx:Int=>([vI x]:List Value)) (λx:Int=>AH x) (λy:Bool=> .bool y) (λy:Bool=>True)) b i) {r:Bool}(E:FZ N g i=some r):
 C5 prog 99 #[a,b] S h (λv S' h'=>v= .bool r∧St S' (L) h'):=by
 refine Bv (l:=[a,b]) 9 func99 O ntmps99 O λB=>?_
 rw[FZ] at E
 obtain⟨p,q,rfl,s,t⟩:=c.fn
 refine AI (AM O (kp [0,1] O) (AE (CX (.inl O) j (AA O (AA O ?_)))))
 obtain⟨A,k,E⟩:=bd E
 refine DF O O O cX O (λh' o=>Kl (St.all h') (d.mono' (o.all j.1)) (c.mono (o.all j.1)) k) λu=>?_
 have C:=u
 refine HQ O (AY O (B3 (kp [4] O) λD m n=>A5 (λF G w z=>?_)))
 cases E
 exact Ee w z O O n ⟨O,m⟩
def Oq (c:St S L h) {a:Int}(b:AH a) {r:Bool}(E:Hh N a=some r):
 C5 prog 100 #[vI a] S h (λv S' h'=>v= .bool r∧St S' (L) h'):=by
 refine Bv (l:=[vI a]) 5 func100 O ntmps100 O λB=>?_
 rw[Hh] at E
 refine AI (AM O (kp [0] O) (AI (AA O (CP O (AM O (kp [2] O) (A5 (λi j d g=>?_)))))))
 cases E
 exact Ee d g O O (Cv.refl S h) ⟨O,c⟩
def P8 (A:St S L h) {c:Int}(m:AH c) {a:Int}(n:AH a) {d:Value}{i:(List Int)}(g:Sl S h AJ d i) {r:(List BE)}(E:Jx N c a i=some r):
 C5 prog 87 #[vN,vI c,vI a,d] S h (λv S' h'=>St S' (OS BI 60 v r::L) h'):=by
 refine Bv (l:=[vN,vI c,vI a,d]) 32 func87 O ntmps87 O λB=>?_
 rw[Jx] at E
 refine AI (AM O (kp [0,1,2,3] O) (AI (AA O (AA O (NS O KA O (AA O (NS O KA O (Zc O O O KA O (AM O (kp [9,1,2,3] O) (AE (AE (CX (.inl O) A (AA O (BK O (AA O ?_)))))))))))))))
 obtain⟨b2,j,E⟩:=bd E
 refine AW 4 22 (.bool b2) ?_ ?_
 ·cases c1:(decide (a<0))
  ·have j:=HG c1 j
   refine AB O (AA O (AB O ?_))
   have Q:Rd S h (BW.fn prog (λx:Int=>([vI x]:List Value)) (λx:Int=>AH x) (λy:Bool=> .bool y) (λy:Bool=>True)) (.func (.func 100) #[] #[]) (λx=>Hh N x):=Rd.ofFn 100 #[] dC λS' h' s' e' L A x y h1 h2=>(Oq A h1 h2).mono λ_ _ _ _ p=>⟨p.1,trivial,p.2⟩
   obtain⟨y4,U,j⟩:=bd j
   refine BR O O O hO O (λh' o=>J8 (St.all h') (g.mono' (o.all A.1)) (Q.mono (o.all A.1)) U) (AB O (CE O (AL O ?_)))
   cases j
   exact AV O
  have j:=HE c1 j
  cases j
  exact A3 O O
 refine B3 (kp [22,9,1,2,3] O) λh6 u V=>AX O E (λc9 E=>?_) (λc9 E=>?_)
 ·refine AI (AA O (AM O (kp [8] O) (A5 (λaa ww W X=>?_))))
  have C:=u.nil BI 60
  cases E
  exact Ee W X O O V C
 refine AT (WF.sl (AF 4 (AA O (AA O (AA O (AA O (AG ?_)))))))
 obtain⟨z,D,E⟩:=bd E
 refine CJ O O O QS O u (D2 (St.all _) ((g.mono' V).mono (λb hb=>u.1 b hb) (λ_ _=>rfl)) D) λag ah ai af Y Z p=>?_
 have F:=p
 have s:=u.join Z F ⟨OS.flat (λ{_ _ _ _ _ _} k=>k),trivial⟩
 simp only[oG,nX] at s
 refine AF 1 ?_
 obtain⟨w,t,rfl,aj⟩:=s.oslen mh
 refine Ik (cs:=[vI c,vI a,(.slice w z.length t)]) Z5 O O O (AG (Em (cs:=[vI c,vI a,(.slice w z.length t)]) RW O O O O O O O s λak al G ab=>?_))
 have H:=G.nil BI 60
 obtain⟨am,I,ac,ad⟩:=H.pubs (.tail (.tail .head))
 obtain⟨J,E⟩:=Mc E
 refine Vn (r:=BI) (l:=([]:List BE)) (xs:=([(⟨c,a,z⟩:BE)]:List BE)) O O RW O (mt mh) ⟨_,_,O,⟨_,O,m,n,ad⟩,O⟩ O O J O I (λ_=> .head) λan ao K ae=>?_
 have M:=K.drop (.tail .head)
 refine AF 1 (AY O (AG (AZ (kp [8] O) (A5 (λaa ww W X=>?_)))))
 cases E
 exact Ee W X O O (V.trans (Y.trans (ab.trans (ac.trans ae)))) M
def Jg {d:Nat}{p0_w:A4}{ai:Value}{aj:Value}{ak:Value}{al:Value}{am:Value}{an:Value}{ao:Value}{ap:Value}{ab:Value}{ac:Value}{ae:Value}{af:Value}{ag:Value}{z:Value}{C:Value}{K:Value}{V:Value}{W:Value}{ar:Value}{ax:Value}{Y:Value}{aq:Value}(hs:St S (Bx d 84 [.string p0_w.b.F,ai,vI p0_w.b.R,aj,ak,al,am,an,ao,ap,vI p0_w.b.U,ab,ac,ae,af,ag,vI p0_w.s.B,z,C,K,V,W,ar,ax,Y,aq]::OS (BW.sl AJ) 29 z p0_w.s.G::OS AJ 3 C p0_w.s.M::OS BI 60 K p0_w.s.J::OS Bu 69 V p0_w.s.Q::OS AJ 3 W p0_w.s.O::OS AJ 3 ar p0_w.s.P::OS CF 50 ax p0_w.moves::OS AJ 3 Y p0_w.peaks::OS BI 60 aq p0_w.sent::L) h) (dj:p0_w.b.F.size≤maxLen) (dk:Sl S h BW.str ai p0_w.b.H) (dl:AH p0_w.b.R) (dm:Sl S h Cd aj p0_w.b.A) (dn:Sl S h Ce ak p0_w.b.E) (dp:Sl S h HB al p0_w.b.Ag) (dq:Sl S h FL am p0_w.b.Aq) (dr:Sl S h G2 an p0_w.b.At) (ds:Sl S h Dh ao p0_w.b.Av) (dt:Sl S h AJ ap p0_w.b.Au) (cj:AH p0_w.b.U) (ck:Sl S h AJ ab p0_w.in_.Aa) (cl:Sl S h GL ac p0_w.in_.Am) (cm:Sl S h JE ae p0_w.in_.Ar) (cn:Sl S h GV af p0_w.in_.Ae) (co:Sl S h HC ag p0_w.in_.Az) (a1:AH p0_w.s.B) {g:Int}(bh:AH g) {a6:Value}{c:AK}(cb:Rd S h BJ a6 c) {r:(List (List Int))×(List Int)×(List BA)×(List BE)}(E:Gi N p0_w g c=some r):
 C5 prog 64 #[vP d 0,vI g,a6] S h (λv S' h'=>∃bi bj bk bl:Value,v= .tuple #[]∧St S' (Bx d 84 [.string p0_w.b.F,ai,vI p0_w.b.R,aj,ak,al,am,an,ao,ap,vI p0_w.b.U,ab,ac,ae,af,ag,vI p0_w.s.B,bi,C,K,V,W,bj,bk,Y,bl]::OS (BW.sl AJ) 29 bi r.1::OS AJ 3 C p0_w.s.M::OS BI 60 K p0_w.s.J::OS Bu 69 V p0_w.s.Q::OS AJ 3 W p0_w.s.O::OS AJ 3 bj r.2.1::OS CF 50 bk r.2.2.1::OS AJ 3 Y p0_w.peaks::OS BI 60 bl r.2.2.2::L) h'):=by
 refine Bv (l:=[vP d 0,vI g,a6]) 89 func64 O ntmps64 O λB=>?_
 rw[Gi] at E
 refine WF.sl (Cm O cb (λe=>by cases e) O hs λq1 S2 h3 w e5 k6=>AZ (kp [5,0,1] O) (AE ?_))
 obtain⟨iy,du,E⟩:=bd E
 obtain⟨cp,dv,E⟩:=bd E
 obtain⟨u,dw,E⟩:=bd E
 refine ZX (m:=[(5,q1),(0,vP d 0),(1,vI g)]) [] [] [] (λX i v Z=>match i with|0=>Pt S2 Z (BW.fnr prog (λS h vs (x:(List Int))=>∃w0:Value,vs=[w0]∧Sl S h AJ w0 x) (λS h v (y:((List Int)×(List Int)))=>∃w0 w1:Value,v= .tuple #[w0,w1]∧Sl S h AJ w0 y.1∧Sl S h AJ w1 y.2)) v c.take|1=>Rd S2 Z (BW.fnr prog (λS h vs (x:(List Int))=>∃w0:Value,vs=[w0]∧Sl S h AJ w0 x) (λS h v (y:((List Int)×(List Int)))=>∃w0 w1:Value,v= .tuple #[w0,w1]∧Sl S h AJ w0 y.1∧Sl S h AJ w1 y.2)) v c.take|2=>v=vP d 0|3=>v=vP d 0|4=>v=vP d 16|5=>v=vP d 17|6=>v=z|7=>v=vI g∧AH g|8=>EP z (g.toNat*((BW.sl AJ)).sz+0) v|9=>Sl S2 Z AJ v cp|10=>∃w0 w1:Value,v= .tuple #[w0,w1]∧(Sl (SX S2 h3 Z X) Z AJ w0 u.1)∧(Sl (SX S2 h3 Z X) Z AJ w1 u.2)|11=>∃w0 w1:Value,v= .tuple #[w0,w1]∧(Sl (SX S2 h3 Z X) Z AJ w0 u.1)∧(Sl (SX S2 h3 Z X) Z AJ w1 u.2)|12=>Sl (SX S2 h3 Z X) Z AJ v u.1|13=>Sl (SX S2 h3 Z X) Z AJ v u.2|14=>Sl (SX S2 h3 Z X) Z AJ v u.1|15=>Sl (SX S2 h3 Z X) Z AJ v u.2|_=>False) [[],[(0,9)],[],[(2,11)],[(3,12)],[(4,13)],[(5,14)],[],[(6,15),(7,16)],[(8,17)],[(1,10),(9,18)],[(10,19)],[(11,8)],[(11,8)],[(12,20)],[(13,21)]] [(14,6),(15,7)] mo (by kernel_rfl) [5,0,1] O (by kernel_rfl) (by kernel_rfl) (by kernel_rfl) O (kp [5,0,1] O) (λi v h1 h2 X X' o1 o2 u1 u2 n=>?_) (by kernel_rfl) ZS ?_ ?_ ?_
 ·match i,n with
   |0,n=>exact(N3.mono n (o2.ext λb hb=>nH (w.1 b hb) o1.siz))
   |1,n=>exact(Rd.mono n (o2.ext λb hb=>nH (w.1 b hb) o1.siz))
   |2,n|3,n|4,n|5,n|6,n|7,n|8,n=>exact n
   |9,n=>exact(Sl.mono' n (o2.ext λb hb=>nH (w.1 b hb) o1.siz))
   |10,n|11,n=>obtain⟨w0,w1,e,k0,k1⟩:=n;exact⟨w0,w1,e,(Sl.mono' k0 (SX.mono w.1 o1 o2 u1 u2)),(Sl.mono' k1 (SX.mono w.1 o1 o2 u1 u2))⟩
   |12,n|13,n|14,n|15,n=>exact(Sl.mono' n (SX.mono w.1 o1 o2 u1 u2))
   |_+16,n=>exact n.elim
 ·exact trivial
 ·refine HK.cons O O O ?_ ?_
  ·intro X mq Z o hX
   have ah:=o.st w
   exact AF 1 (A8 O (k6.mono (o.ext w.1)) Of X2 O λiz f5=>AO f5)
  refine HK.cons O O O ?_ ?_
  ·intro X mq Z o hX
   intro f6 cq
   have ah:=o.st w
   have cq:Pt _ _ (BW.fnr prog (λS h vs (x:(List Int))=>∃w0:Value,vs=[w0]∧Sl S h AJ w0 x) (λS h v (y:((List Int)×(List Int)))=>∃w0 w1:Value,v= .tuple #[w0,w1]∧Sl S h AJ w0 y.1∧Sl S h AJ w1 y.2)) f6 c.take:=cq
   exact AF 1 (Ci BY ah.1 O cq bM (λ_=>rfl) O λi0 f7=>AO f7)
  refine HK.cons O O O ?_ ?_
  ·intro X mq Z o hX
   have ah:=o.st w
   exact AF 1 (AA O (AO O))
  refine HK.cons O O O ?_ ?_
  ·intro X mq Z o hX
   intro i1 f8
   have ah:=o.st w
   cases f8
   exact AF 1 (C7 O O (AO O))
  refine HK.cons O O O ?_ ?_
  ·intro X mq Z o hX
   intro i2 f9
   have ah:=o.st w
   cases f9
   exact AF 1 (AD DI O (AO O))
  refine HK.cons O O O ?_ ?_
  ·intro X mq Z o hX
   intro i3 ga
   have ah:=o.st w
   cases ga
   exact AF 1 (AD Eo O (AO O))
  refine HK.cons O O O ?_ ?_
  ·intro X mq Z o hX
   intro i4 gb
   have ah:=o.st w
   cases gb
   exact AF 1 (AS BY ah O mh O Hz O (AO O))
  refine HK.cons O O O ?_ ?_
  ·intro X mq Z o hX
   have ah:=o.st w
   exact AF 1 (AA O (AO ⟨O,bh⟩))
  refine HK.cons O O O ?_ ?_
  ·intro X mq Z o hX
   intro i5 gc i6 gd
   have ah:=o.st w
   cases gc
   obtain⟨rfl,i7⟩:=gd
   exact AF 1 (BU ah (mt mh) O O Fx du O λi8 dx=>AO dx)
  refine HK.cons O O O ?_ ?_
  ·intro X mq Z o hX
   intro i9 ge
   have ah:=o.st w
   refine AF 1 ?_
   have gf:=ah.epAt (mt mh) dv GM.id ge
   exact BG BY (λ_ x=>x) O gf CG O λja gg=>AO gg
  refine HK.cons O O O ?_ ?_
  ·intro X mq Z o hX
   intro gh bp gi bq
   have ah:=Ny (X:=X) w o
   have bp:=Rd.mono (S':=(SX S2 h3 Z X)) bp ⟨λb hb=>(SX.ext w.1 o hX).sub b hb,λ_ _=>rfl,nJ _⟩
   have bp:Rd _ _ (BW.fnr prog (λS h vs (x:(List Int))=>∃w0:Value,vs=[w0]∧Sl S h AJ w0 x) (λS h v (y:((List Int)×(List Int)))=>∃w0 w1:Value,v= .tuple #[w0,w1]∧Sl S h AJ w0 y.1∧Sl S h AJ w1 y.2)) gh c.take:=bp
   have bq:=Sl.mono' (S':=(SX S2 h3 Z X)) bq ⟨λb hb=>(SX.ext w.1 o hX).sub b hb,λ_ _=>rfl,nJ _⟩
   have bq:Sl _ _ AJ gi cp:=bq
   have br:=ah.fz
   obtain⟨g3,g4,rfl,dy,dz⟩:=bp.fnr
   refine DU O O O dy O (dz _ _ (λb hb=>(Cv.refl (SX S2 h3 Z X) Z).sub b hb) (λb hb=>(Cv.refl (SX S2 h3 Z X) Z).same b hb) _ br cp _ _ ⟨_,O,bq⟩ dw) λjb jc jd gj p=>?_
   obtain⟨⟨je,jf,rfl,gl,gm⟩,d0⟩:=p
   have bs:=SX.done o hX gj d0
   exact DV bs.1 ⟨_,_,O,(Sl.mono' gl bs.2),(Sl.mono' gm bs.2)⟩
  refine HK.cons O O O ?_ ?_
  ·intro X mq Z o hX
   intro jg gn
   have ah:=Ny (X:=X) w o
   obtain⟨gp,gq,rfl,cr,ct⟩:=gn
   have cr:Sl _ _ AJ gp u.1:=cr
   have ct:Sl _ _ AJ gq u.2:=ct
   exact AF 1 (AA O (AO ⟨_,_,O,cr,ct⟩))
  refine HK.cons O O O ?_ ?_
  ·intro X mq Z o hX
   intro jh gr
   have ah:=Ny (X:=X) w o
   obtain⟨gs,gt,rfl,cu,d1⟩:=gr
   have cu:Sl _ _ AJ gs u.1:=cu
   have d1:Sl _ _ AJ gt u.2:=d1
   exact AF 1 (CS O (AO cu))
  refine HK.cons O O O ?_ ?_
  ·intro X mq Z o hX
   intro ji gu
   have ah:=Ny (X:=X) w o
   obtain⟨gv,gw,rfl,d2,cv⟩:=gu
   have d2:Sl _ _ AJ gv u.1:=d2
   have cv:Sl _ _ AJ gw u.2:=cv
   exact AF 1 (CS O (AO cv))
  refine HK.cons O O O ?_ ?_
  ·intro X mq Z o hX
   intro gx cw
   have ah:=Ny (X:=X) w o
   have cw:Sl _ _ AJ gx u.1:=cw
   exact AF 1 (AY O (AO cw))
  refine HK.cons O O O ?_ ?_
  ·intro X mq Z o hX
   intro gy bt
   have ah:=Ny (X:=X) w o
   have bt:Sl _ _ AJ gy u.2:=bt
   exact AF 1 (AY O (AO bt))
  exact trivial
 intro au av a2 ay bu a4 d3 bv gz g0
 have bf:=(aZ.nil w a2 ay).st
 have a4:Sl _ _ AJ bu u.1:=a4
 have bv:Sl _ _ AJ d3 u.2:=bv
 refine AZ (kp [7,6,5,0,1] O) (WF.sl (AF 8 (AA O (C7 O O (AD DI O (AD Eo O (AS BY bf O mh O Hz O (AA O (AA O ?_)))))))))
 obtain⟨g5,cx,E⟩:=bd E
 refine BU bf (mt mh) O O Fx cx O λg6 cy=>AG ?_
 obtain⟨d4,cz,E⟩:=bd E
 refine Fm (r:=(BW.sl AJ)) (l:=p0_w.s.G) (i:=g) (x:=d4) O O (NR bv) cy cz ML.id CG (λ_=>rfl) bf (.tail .head) λg7 bw aw=>AZ (kp [6,5,0,1] O) (AE (AE (CX (.inl O) bw (AA O ?_))))
 obtain⟨g8,c0,E⟩:=bd E
 refine DF O O O Nj O (λh' o=>Fg (St.all h') ((a4.mono' aw).mono' (o.all bw.1)) c0) λd5=>?_
 have g9:=d5
 refine HO O (B3 (kp [32,6,5,0,1] O) λa3 j az=>AX O E (λd6 E=>?_) (λd6 E=>?_))
 ·refine A5 (λaa ww hf hw=>?_)
  cases E
  exact Kn hf O hw Km O (e5.trans ((SX.ext w.1 a2 ay).trans (aw.trans az))) ⟨_,_,_,_,O,j⟩
 refine AT (AE (Ue (m:=[(6,bu),(5,q1),(0,vP d 0),(1,vI g)]) 18 [0] (λi v Z=>match i with|0=>v=vP d 0|1=>v=vP d 0|2=>v=vP d 0|3=>v=vP d 23|4=>v=ax|5=>v=vP d 0|6=>v=vP d 0|7=>v=vP d 16|8=>v=vP d 16|9=>v=vI p0_w.s.B∧AH p0_w.s.B|10=>v=vI g∧AH g|11=>Pt (SX S2 h3 au av) Z AJ v c.to_|12=>v=vI c.to_∧AH c.to_|13=>Pt (SX S2 h3 au av) Z AJ v c.way|14=>v=vI c.way∧AH c.way|15=>Sl (SX S2 h3 au av) Z AJ v u.1|16=>Rd (SX S2 h3 au av) Z CF v (⟨p0_w.s.B,g,c.to_,c.way,u.1⟩:BA)|17=>Sl (SN (SX S2 h3 au av) a3 Z) Z CF v ([(⟨p0_w.s.B,g,c.to_,c.way,u.1⟩:BA)]:List BA)∧∃ad,v= .slice (some ad) 1 1|_=>False) [[],[],[(1,34)],[(2,35)],[(3,36)],[],[(5,38)],[(6,39)],[(7,40)],[(8,41)],[],[],[(11,44)],[],[(13,46)],[],[(9,42),(10,43),(12,45),(14,47),(15,48)],[(16,49)]] [(0,33),(4,37),(17,50)] mo (by kernel_rfl) [6,5,0,1] O (by kernel_rfl) (by kernel_rfl) (by kernel_rfl) (kp [6,5,0,1] O) (λi v h1 h2 o1 o2 n=>?_) ?_ ?_ ?_))
 ·match i,n with
   |0,n|1,n|2,n|3,n|4,n|5,n|6,n|7,n|8,n|9,n|10,n|12,n|14,n=>exact n
   |11,n|13,n=>exact N3.mono n (o2.ext λb hb=>nH (j.1 b hb) o1.siz)
   |15,n=>exact Sl.mono' n (o2.ext λb hb=>nH (j.1 b hb) o1.siz)
   |16,n=>exact Rd.mono n (o2.ext λb hb=>nH (j.1 b hb) o1.siz)
   |17,n=>exact⟨Sl.mono' n.1 (SN.mono j.1 o1 o2),n.2⟩
   |_+18,n=>exact n.elim
 ·refine Qh.cons [] (by kernel_rfl) O O (by kernel_rfl) ?_ ?_
  ·intro mq Z o
   intro a hf
   exact⟨vP d 0,Oh hf O,O⟩
  exact trivial
 ·refine BP.cons O (λ_ _ _=>AF 1 (AA O (AO O))) (BP.cons O (λ_ _ _=>AF 1 (AA O (AO O))) (BP.cons O (λ_ _ _ _ d7=>by cases d7;exact AF 1 (C7 O O (AO O))) (BP.cons O (λ_ _ _ _ d8=>by cases d8;exact AF 1 (AD OL O (AO O))) (BP.cons O (λ_ _ o _ d9=>by cases d9;exact AF 1 (AS BY (o.st j) O mh O Sy O (AO O))) (BP.cons O (λ_ _ _=>AF 1 (AA O (AO O))) (BP.cons O (λ_ _ _ _ ea=>by cases ea;exact AF 1 (C7 O O (AO O))) (BP.cons O (λ_ _ _ _ eb=>by cases eb;exact AF 1 (AD DI O (AO O))) (BP.cons O (λ_ _ _ _ ec=>by cases ec;exact AF 1 (AD H0 O (AO O))) (BP.cons O (λ_ _ o _ ed=>by cases ed;exact AF 1 (AS BY (o.st j) O mh O A7 O (AO ⟨O,a1⟩))) (BP.cons O (λ_ _ _=>AF 1 (AA O (AO ⟨O,bh⟩))) (BP.cons O (λ_ _ o=>AF 1 (A8 O (k6.mono ((SX.ext w.1 a2 ay).trans (aw.trans (az.trans (o.ext j.1))))) KI QM O λha ee=>AO ee)) ?_)))))))))))
  refine BP.cons O (λ_ _ o ef bx=>by have bx:Pt _ _ AJ ef c.to_:=bx;exact AF 1 (A9 BY (o.st j).1 O bx A7 O λeg=>AO ⟨O,eg⟩)) (BP.cons O (λ_ _ o=>AF 1 (A8 O (k6.mono ((SX.ext w.1 a2 ay).trans (aw.trans (az.trans (o.ext j.1))))) O0 X3 O λhc eh=>AO eh)) (BP.cons O (λ_ _ o ei bz=>by have bz:Pt _ _ AJ ei c.way:=bz;exact AF 1 (A9 BY (o.st j).1 O bz A7 O λej=>AO ⟨O,ej⟩)) (BP.cons O (λ_ _ o=>AF 1 (AA O (AO (a4.mono' (aw.trans (az.trans (o.ext j.1))))))) ?_)))
  refine BP.cons O ?_ ?_
  ·intro mq Z o
   intro hd ek he el hg em hi en eo bm
   have ah:=o.st j
   obtain⟨rfl,ep⟩:=ek
   obtain⟨rfl,eq⟩:=el
   obtain⟨rfl,er⟩:=em
   obtain⟨rfl,es⟩:=en
   have bm:Sl _ _ AJ eo u.1:=bm
   refine AF 1 ?_
   obtain⟨c1,cc,rfl,hj⟩:=(bm).len
   exact Ik (cs:=[vI p0_w.s.B,vI g,vI c.to_,vI c.way,(.slice c1 u.1.length cc)]) Z6 O O O (AO (CF.mk (x:=(⟨p0_w.s.B,g,c.to_,c.way,u.1⟩:BA)) ep eq er es bm))
  refine BP.cons O ?_ ?_
  ·intro mq Z o
   intro et a8
   have ah:=SN.st j o
   have a8:=Rd.mono (S':=(SN (SX S2 h3 au av) a3 Z)) a8 ⟨λb hb=> .inl hb,λ_ _=>rfl,nJ _⟩
   have a8:Rd _ _ CF et (⟨p0_w.s.B,g,c.to_,c.way,u.1⟩:BA):=a8
   have br:=ah.fz
   obtain⟨hk,rfl,eu,ev,ew,ey,ce⟩:=CF.ex a8
   obtain⟨c2,cd,rfl,hl⟩:=(ce).len
   refine Em (cs:=[vI ((⟨p0_w.s.B,g,c.to_,c.way,u.1⟩:BA).B),vI ((⟨p0_w.s.B,g,c.to_,c.way,u.1⟩:BA).I),vI ((⟨p0_w.s.B,g,c.to_,c.way,u.1⟩:BA).D),vI ((⟨p0_w.s.B,g,c.to_,c.way,u.1⟩:BA).Bf),(.slice c2 ((⟨p0_w.s.B,g,c.to_,c.way,u.1⟩:BA).X).length cd)]) VV O O O O O O O br λhm hn c3 cf=>?_
   have ez:=ce.mono' cf
   have c4:=c3.bxos (r:=CF) (l:=([(⟨p0_w.s.B,g,c.to_,c.way,u.1⟩:BA)]:List BA)) .head ⟨_,_,O,⟨_,O,eu,ev,ew,ey,ez⟩,O⟩ (by simp [maxLen])
   obtain⟨ho,c5,e0,e1⟩:=c4.pubs .head
   have b0:=Fz.done o (cf.trans e0) c5
   exact DV b0.1 ⟨Sl.mono' e1 b0.2,_,O⟩
  exact trivial
 intro a9 a5 hp e2 hq e3 ht b1
 have c6:=SN.st j a5
 cases e2
 cases e3
 obtain⟨b1,g1,rfl⟩:=b1
 obtain⟨c7,E⟩:=Mc E
 refine J3 (r:=CF) (l:=p0_w.moves) (xs:=([(⟨p0_w.s.B,g,c.to_,c.way,u.1⟩:BA)]:List BA)) O O VV O (Sl.src b1) O c7 O c6 (λ_=>(.tail (.tail (.tail (.tail (.tail (.tail (.tail .head)))))))) λhu hv b2 ba=>AF 2 (C7 O O (AD OL O (AG ?_)))
 obtain⟨a7,a0,rfl,hx⟩:=b2.oslen (mt (mt (mt (mt (mt (mt (mt mh)))))))
 refine Il (vs:=[(.slice a7 (p0_w.moves++([(⟨p0_w.s.B,g,c.to_,c.way,u.1⟩:BA)]:List BA)).length a0)]) (cs':=[.string p0_w.b.F,ai,vI p0_w.b.R,aj,ak,al,am,an,ao,ap,vI p0_w.b.U,ab,ac,ae,af,ag,vI p0_w.s.B,z,C,K,V,W,ar,(.slice a7 (p0_w.moves++([(⟨p0_w.s.B,g,c.to_,c.way,u.1⟩:BA)]:List BA)).length a0),Y,aq]) O O O O Sy O b2 .head O O λcg t bb=>AZ (kp [6,5,0] O) (AE (AI ?_))
 have c8:=(SX.ext w.1 a2 ay).trans (aw.trans (az.trans ((SN.ext j.1 a5).trans (ba.trans bb))))
 have b3:=k6.mono c8
 refine A8 O b3 KI QM O λhy e4=>A9 BY t.1 O e4 A7 O λhz=>B9 O (AN (kp [56,6,5,0] O) (AX O E (λe6 E=>?_) (λe6 E=>?_)))
 ·refine WF.sl (AF 7 (AA O (AA O (C7 O O (AD DI O (AD Jv O (AS BY t O mh O CG O (AA O (AG ?_)))))))))
  obtain⟨ch,c9,E⟩:=bd E
  refine CJ O O O YK O t (MD (St.all _) (t.oslAll (mt (mt (mt (mt (mt (mt mh))))))) ((a4.mono' (aw.trans (az.trans ((SN.ext j.1 a5).trans (ba.trans bb))))).mono (λb hb=>t.1 b hb) (λ_ _=>rfl)) c9) λh0 h4 h5 g2 e7 e8 p=>?_
  have da:=p
  have bg:=t.join e8 da ⟨OS.flat (λ{_ _ _ _ _ _} k=>k),trivial⟩
  simp only[oG,nX] at bg
  refine AF 3 (C7 O O (AD DI O (AD Jv O (AG ?_))))
  obtain⟨b4,bn,rfl,h6⟩:=bg.oslen mh
  refine Il (vs:=[(.slice b4 ch.length bn)]) (cs':=[.string p0_w.b.F,ai,vI p0_w.b.R,aj,ak,al,am,an,ao,ap,vI p0_w.b.U,ab,ac,ae,af,ag,vI p0_w.s.B,z,C,K,V,W,(.slice b4 ch.length bn),(.slice a7 (p0_w.moves++([(⟨p0_w.s.B,g,c.to_,c.way,u.1⟩:BA)]:List BA)).length a0),Y,aq]) O O O O CG O bg (.tail .head) O O λh7 db e9=>AZ PO (A5 (λaa ww hf hw=>?_))
  have dc:=db.sel [1,1,1,1,1,1,0,1,1,1] 1 O
  cases E
  exact Kn hf O hw Km O (e5.trans ((SX.ext w.1 a2 ay).trans (aw.trans (az.trans ((SN.ext j.1 a5).trans (ba.trans (bb.trans (e7.trans e9)))))))) ⟨_,_,_,_,O,dc⟩
 refine AT ?_
 obtain⟨bc,dd,E⟩:=bd E
 refine Ue (m:=[(6,bu),(5,q1),(0,vP d 0)]) 18 [0] (λi v Z=>match i with|0=>v=vP d 0|1=>v=vP d 0|2=>v=vP d 0|3=>v=vP d 25|4=>v=aq|5=>v=vP d 0|6=>v=vP d 0|7=>v=vP d 16|8=>v=vP d 16|9=>v=vI p0_w.s.B∧AH p0_w.s.B|10=>v=vI (B0 (p0_w.s.B+1))∧AH (B0 (p0_w.s.B+1))|11=>Pt (SN (SX S2 h3 au av) a3 a9) Z AJ v c.delay|12=>v=vI c.delay∧AH c.delay|13=>v=vI (B0 ((B0 (p0_w.s.B+1))+c.delay))∧AH (B0 ((B0 (p0_w.s.B+1))+c.delay))|14=>Pt (SN (SX S2 h3 au av) a3 a9) Z AJ v c.to_|15=>v=vI c.to_∧AH c.to_|16=>Sl (SN (SX S2 h3 au av) a3 a9) Z AJ v u.1|17=>Sl (SN (SN (SX S2 h3 au av) a3 a9) cg Z) Z BI v bc|_=>False) [[],[],[(1,69)],[(2,70)],[(3,71)],[],[(5,73)],[(6,74)],[(7,75)],[(8,76)],[(9,77)],[],[(11,79)],[(10,78),(12,80)],[],[(14,82)],[],[(13,81),(15,83),(16,84)]] [(0,68),(4,72),(17,85)] mo (by kernel_rfl) [6,5,0] O (by kernel_rfl) (by kernel_rfl) (by kernel_rfl) (kp [6,5,0] O) (λi v h1 h2 o1 o2 n=>?_) ?_ ?_ ?_
 ·match i,n with
   |0,n|1,n|2,n|3,n|4,n|5,n|6,n|7,n|8,n|9,n|10,n|12,n|13,n|15,n=>exact n
   |11,n|14,n=>exact N3.mono n (o2.ext λb hb=>nH (t.1 b hb) o1.siz)
   |16,n=>exact Sl.mono' n (o2.ext λb hb=>nH (t.1 b hb) o1.siz)
   |17,n=>exact Sl.mono' n (SN.mono t.1 o1 o2)
   |_+18,n=>exact n.elim
 ·refine Qh.cons [] (by kernel_rfl) O O (by kernel_rfl) ?_ ?_
  ·intro mq Z o
   intro a hf
   exact⟨vP d 0,Oh hf O,O⟩
  exact trivial
 ·refine BP.cons O (λ_ _ _=>AF 1 (AA O (AO O))) (BP.cons O (λ_ _ _=>AF 1 (AA O (AO O))) (BP.cons O (λ_ _ _ _ fb=>by cases fb;exact AF 1 (C7 O O (AO O))) (BP.cons O (λ_ _ _ _ fc=>by cases fc;exact AF 1 (AD SD O (AO O))) (BP.cons O (λ_ _ o _ fd=>by cases fd;exact AF 1 (AS BY (o.st t) O mh O Lp O (AO O))) (BP.cons O (λ_ _ _=>AF 1 (AA O (AO O))) (BP.cons O (λ_ _ _ _ fe=>by cases fe;exact AF 1 (C7 O O (AO O))) (BP.cons O (λ_ _ _ _ ff=>by cases ff;exact AF 1 (AD DI O (AO O))) (BP.cons O (λ_ _ _ _ fg=>by cases fg;exact AF 1 (AD H0 O (AO O))) (BP.cons O (λ_ _ o _ fh=>by cases fh;exact AF 1 (AS BY (o.st t) O mh O A7 O (AO ⟨O,a1⟩))) (BP.cons O (λ_ _ _ _ fi=>by obtain⟨rfl,h8⟩:=fi;exact AF 1 (BB O (AO ⟨O,(B1 _)⟩))) (BP.cons O (λ_ _ o=>AF 1 (A8 O (b3.mono (o.ext t.1)) N0 X4 O λh9 fj=>AO fj)) ?_)))))))))))
  refine BP.cons O (λ_ _ o fk b5=>by have b5:Pt _ _ AJ fk c.delay:=b5;exact AF 1 (A9 BY (o.st t).1 O b5 A7 O λfl=>AO ⟨O,fl⟩)) (BP.cons O (λ_ _ _=>by intro ia fm ib fn;obtain ⟨rfl,ic⟩:=fm;obtain ⟨rfl,ie⟩:=fn;exact AF 1 (BB O (AO ⟨O,(B1 _)⟩))) (BP.cons O (λ_ _ o=>AF 1 (A8 O (b3.mono (o.ext t.1)) KI QM O λig fo=>AO fo)) (BP.cons O (λ_ _ o fp b6=>by have b6:Pt _ _ AJ fp c.to_:=b6;exact AF 1 (A9 BY (o.st t).1 O b6 A7 O λfq=>AO ⟨O,fq⟩)) (BP.cons O (λ_ _ o=>AF 1 (AA O (AO (a4.mono' (aw.trans (az.trans ((SN.ext j.1 a5).trans (ba.trans (bb.trans (o.ext t.1)))))))))) ?_))))
  refine BP.cons O ?_ ?_
  ·intro mq Z o
   intro ih fr ii fs ft be
   have ah:=SN.st t o
   obtain⟨rfl,fu⟩:=fr
   obtain⟨rfl,fv⟩:=fs
   have be:=Sl.mono' (S':=(SN (SN (SX S2 h3 au av) a3 a9) cg Z)) be ⟨λb hb=> .inl hb,λ_ _=>rfl,nJ _⟩
   have be:Sl _ _ AJ ft u.1:=be
   have br:=ah.fz
   refine DU O O O iD O (P8 br fu fv be dd) λij ik il fw p=>?_
   have de:=p
   obtain⟨im,df,fx,fy⟩:=de.pubs .head
   have b7:=Fz.done o (fw.trans fx) df
   exact DV b7.1 (Sl.mono' fy b7.2)
  exact trivial
 intro io ci ip f0 ir f1 f2 b8
 have dg:=SN.st t ci
 cases f0
 cases f1
 have b8:Sl _ _ BI f2 bc:=b8
 obtain⟨dh,E⟩:=Mc E
 refine J3 (r:=BI) (l:=p0_w.sent) (xs:=bc) O O RW O (Sl.src b8) O dh O dg (λ_=>(.tail (.tail (.tail (.tail (.tail (.tail (.tail (.tail (.tail .head)))))))))) λit iu b9 f3=>AF 2 (C7 O O (AD SD O (AG ?_)))
 obtain⟨ca,bo,rfl,iv⟩:=b9.oslen (mt (mt (mt (mt (mt (mt (mt (mt (mt mh)))))))))
 refine Il (vs:=[(.slice ca (p0_w.sent++bc).length bo)]) (cs':=[.string p0_w.b.F,ai,vI p0_w.b.R,aj,ak,al,am,an,ao,ap,vI p0_w.b.U,ab,ac,ae,af,ag,vI p0_w.s.B,z,C,K,V,W,ar,(.slice a7 (p0_w.moves++([(⟨p0_w.s.B,g,c.to_,c.way,u.1⟩:BA)]:List BA)).length a0),Y,(.slice ca (p0_w.sent++bc).length bo)]) O O O O Lp O b9 .head O O λiw di f4=>AZ PO (WF.nil (λaa ww hf hw=>?_))
 cases E
 exact Kn hf O hw Km O (e5.trans ((SX.ext w.1 a2 ay).trans (aw.trans (az.trans ((SN.ext j.1 a5).trans (ba.trans (bb.trans ((SN.ext t.1 ci).trans (f3.trans f4))))))))) ⟨_,_,_,_,O,di⟩
end Go.Proofs.YtblcgjadhemlbaaGreat
