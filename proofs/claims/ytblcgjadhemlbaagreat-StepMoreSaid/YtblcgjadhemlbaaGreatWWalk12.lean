import Derived.Test.YtblcgjadhemlbaaGreatWWalk11
namespace Go.Proofs.YtblcgjadhemlbaaGreat
set_option linter.all false
open Go.RowKit
open Go.Proofs.Tryz
set_option maxRecDepth 10000
set_option maxHeartbeats 2000000
variable {N:Nat}{S:Nat→Prop}{L:List HP}{h:BM}
def IE (C:St S L h) {b:Int}(m:AH b) {r:(List AK)}(E:Cu N b=some r):
 DK prog 82 #[vN,vI b] S h (λv S' h'=>St S' (OS BK 111 v r::L) h'):=by
 refine B0 (l:=[vN,vI b]) 27 func82 O ntmps82 O λB=>?_
 rw[Cu] at E
 refine AI (AM O (kp [0,1] O) (AE (AI (AA O (BI O (AN (kp [6,0,1] O) (AY O E (λD E=>?_) (λD E=>?_))))))))
 ·cases E
 refine AS (AE (AI (AA O (AA O (Wu O Mb O (AA O (Nv O Mb O (Dl O (Dl O (AM O (kp [1,0] O) (AI (AA O (CV O (AN (kp [16,1,0] O) (He (λa w=>∃(p:Value) (s:List AK),IV B S h (27,[]) a w [(0,p)] (OS BK 111 p s::L) λ_ _=>Ce N s=some r) ?_ ?_)))))))))))))))
 ·refine AY O E (λF E=>?_) (λF E=>?_)
  ·refine FG (AF 5 (AA O (AA O (Wu O Mb O (hO O O Mb O (AA O (AD ?_)))))))
   obtain⟨t,E⟩:=LO E
   obtain⟨u,E⟩:=LO E
   refine cF O O L7 oU (tK t) u O O C λG H I J K x y g z=>AF 4 (AA O (Nv O Mb O (hJ O O Mb O ?_)))
   have i:=Zl (r:=BK) (l:=([]:List AK)) g (qW _) x y YU
   refine A0 O (AD (AZ (kp [0] O) (WF.nil (λn o c d=>?_))))
   exact⟨(.slice (some ⟨G,0,none⟩) 0 H),([]:List AK),_,_,c.sub (kp [0] O),d,i,z,E⟩
  refine AS (WF.nil (λn o c d=>?_))
  have j:=C.nil BK 111
  exact⟨(vN),([]:List AK),_,_,c.sub (kp [0] O),d,j,(C9.refl S h),E⟩
 rintro n o ⟨p,s,M,Q,c,d,k,A,E⟩
 refine A6 ?_ c d
 clear c d o n
 rw[Ce] at E
 refine AI (AA O (AM O (kp [4] O) (A5 (λn o c d=>?_))))
 cases E
 exact Em c d O O A k
def Hv (hs:St S L h) {b:Value}{c:(List (List AK))}(d:Sl S h (BZ.sl BK) b c) {r:(List AK)}(E:Ci N c=some r):
 DK prog 61 #[b] S h (λv S' h'=>St S' (OS BK 111 v r::L) h'):=by
 refine B0 (l:=[b]) 36 func61 O ntmps61 O λB=>?_
 rw[Ci] at E
 refine AI (AM O (kp [0] O) (AI (AM O (kp [3,0] O) (AE (AI (AA O (BE O d Sd O λb1=>AA O (AN (kp [11,10,9,3,0] O) (BH (λa w=>∃(i2:Int),IV B S h (36,[]) a w [(0,b),(3,vI i2)] (L) λ_ _=>AH i2∧CW N c i2=some r) ?_ ?_)))))))))
 ·refine BV (λn1=>λa w=>∃(G:Int) (o:Int),IV B S h (36,[]) a w [(10,vI (↑c.length:Int)),(9,b),(0,b),(3,vI G),(11,vI o)] (L) λ_ _=>AH G∧AH o∧CE N c (CW N c) n1 G o=some r) N ?_ ?_ ?_
  ·intro j k g i
   exact⟨0,0,_,_,g.sub (kp [10,9,0,3,11] O),i,hs,(C9.refl S h),(iq (n:=0) O),(iq (n:=0) O),E⟩
  ·rintro j k ⟨_,_,_,_,_,_,_,_,_,_,E⟩
   rw[CE] at E;cases E
  rintro n1 j k ⟨G,o,ao,ap,g,i,s,y,r9,aq,E⟩
  refine A6 ?_ g i
  clear g i k j
  rw[CE] at E
  refine AI (BI O (AN (kp [12,10,9,0,3,11] O) (AE (AY O E (λab E=>?_) (λab E=>?_)))))
  ·refine AS (AE (BY (AI ?_)))
   obtain⟨ac,H,E⟩:=bd E
   refine B1 O O (d.mono' y) Sd H O λar ad=>BF Bu s.1 O ad X2 O λau ae=>AM O (kp [5,10,9,0,3,11] O) (AI (AA O (AA O (BE O ae Mb O λav=>A9 O (AM O (kp [3,10,9,0,11] O) (AI (AA O (BI O (AN (kp [20,3,10,9,0,11] O) (AY O E (λaf E=>?_) (λaf E=>?_)))))))))))
   ·cases E
   refine AS (B7 (CL (.inl O) (A9 O (AA O (AN (kp [11,3,10,9,0] O) (WF.nil (λj k g i=>?_)))))))
   exact⟨(Bw (G+(↑ac.length:Int))),(Bw (o+1)),_,_,g.sub (kp [10,9,0,3,11] O),i,s,y,(B5 _),(B5 _),E⟩
  refine By O (λj k g i=>?_)
  exact⟨G,_,_,g.sub (kp [0,3] O),i,s,y,r9,E⟩
 rintro j k ⟨i2,aw,ax,g,i,I,J,r3,E⟩
 refine A6 ?_ g i
 clear g i k j
 rw[CW] at E
 refine WF.sl (AF 1 (AA O (AD ?_)))
 obtain⟨ag,K,E⟩:=bd E
 refine Dj O O O mF O (IE I r3 K) λah z A M p=>?_
 have Q:=p
 refine AF 1 (A0 O (AD (AZ (kp [6,0] O) (AE (AI (AA O ?_))))))
 have U:=d.mono' (J.trans M)
 refine BE O U Sd O λay=>AA O (AN (kp [27,26,25,6] O) (BH (λa w=>∃(C:Value) (D:List AK),IV B z A (36,[]) a w [(6,C)] (OS BK 111 C D::L) λ_ _=>C8 N D=some r) ?_ ?_))
 ·refine BV (λn3=>λa w=>∃(x:Value) (m:List AK) (t:Int),IV B z A (36,[]) a w [(26,vI (↑c.length:Int)),(25,b),(6,x),(27,vI t)] (OS BK 111 x m::L) λ_ _=>AH t∧CD N c (C8 N) n3 m t=some r) N ?_ ?_ ?_
  ·intro j k g i
   exact⟨ah,ag,0,_,_,g.sub (kp [26,25,6,27] O),i,Q,(C9.refl z A),(iq (n:=0) O),E⟩
  ·rintro j k ⟨_,_,_,_,_,_,_,_,_,_,E⟩
   rw[CD] at E;cases E
  rintro n3 j k ⟨x,m,t,az,a0,g,i,u,F,a1,E⟩
  refine A6 ?_ g i
  clear g i k j
  rw[CD] at E
  refine AI (BI O (AN (kp [28,26,25,6,27] O) (AE (AY O E (λai E=>?_) (λai E=>?_)))))
  ·refine AS (AE (BY (AI ?_)))
   obtain⟨V,W,E⟩:=bd E
   refine B1 O O (U.mono' F) Sd W O λa2 aj=>BF Bu u.1 O aj X2 O λa3 ak=>AM O (kp [8,26,25,6,27] O) (FG (AF 2 (AA O (AA O (AD ?_)))))
   obtain⟨X,E⟩:=LO E
   refine J3 (r:=BK) (l:=m) (xs:=V) O O L7 O (Sl.src ak) O X O u (λ_=> .head) λal a4 Y am=>AF 1 (A0 O (AD (AZ (kp [6,26,25,27] O) (B7 (CL (.inl O) (A9 O (AA O (AN (kp [27,6,26,25] O) (WF.nil (λj k g i=>?_))))))))))
   exact⟨al,(m++V),(Bw (t+1)),_,_,g.sub (kp [26,25,6,27] O),i,Y,(F.trans am),(B5 _),E⟩
  refine By O (λj k g i=>?_)
  exact⟨x,m,_,_,g.sub (kp [6] O),i,u,F,E⟩
 rintro j k ⟨C,D,a5,a6,g,i,Z,an,E⟩
 refine A6 ?_ g i
 clear g i k j
 rw[C8] at E
 refine AI (AA O (AM O (kp [2] O) (A5 (λj k g i=>?_))))
 cases E
 exact Em g i O O (J.trans (M.trans an)) Z
def K3 (Z:St S L h) {c:Value}{m:(List Int)}(p:Sl S h AJ c m) {d:Value}{q:(Int→Option Bool)}(s:Rd S h (BZ.fn prog (λx:Int=>([vI x]:List Value)) (λx:Int=>AH x) (λy:Bool=> .bool y) (λy:Bool=>True)) d q) {r:Int}(E:FC N m q=some r):
 DK prog 107 #[c,d] S h (λv S' h'=>v=vI r∧AH r∧St S' (L) h'):=by
 refine B0 (l:=[c,d]) 19 func107 O ntmps107 O λB=>?_
 rw[FC] at E
 obtain⟨I,J,rfl,K,M⟩:=s.fn
 refine AI (AM O (kp [0,1] O) (AE (AI (AA O (BE O p CA O λb5=>AA O (AN (kp [8,7,0,1] O) (BH (λa w=>IV B S h (19,[]) a w [] (L) λ_ _=>EW N=some r) ?_ ?_)))))))
 ·refine BV (λY=>λa w=>∃(A:Int),IV B S h (19,[]) a w [(7,vI (↑m.length:Int)),(0,c),(1,(.func (.func I) #[] J)),(8,vI A)] (L) λ_ _=>AH A∧DU N m q (EW N) Y A=some r) N ?_ ?_ ?_
  ·intro t u i j
   exact⟨0,_,_,i.sub (kp [7,0,1,8] O),j,Z,(C9.refl S h),(iq (n:=0) O),E⟩
  ·rintro t u ⟨_,_,_,_,_,_,_,_,E⟩
   rw[DU] at E;cases E
  rintro Y t u ⟨A,ab,ac,i,j,g,k,r9,E⟩
  refine A6 ?_ i j
  clear i j u t
  rw[DU] at E
  refine AI (BI O (AN (kp [9,7,0,1,8] O) (AE (AY O E (λQ E=>?_) (λQ E=>?_)))))
  ·refine AS (AE (BY (AI (AA O (AM O (kp [5,7,0,1,8] O) (AE (Cn (.inl O) g (AA O (AA O (AA O ?_))))))))))
   obtain⟨ad,C,E⟩:=bd E
   refine B1 O O (p.mono' k) CA C O λae U=>BC CQ g.1 O U BA O λV=>?_
   obtain⟨af,D,E⟩:=bd E
   refine BU O O O K O (λh' o=>M _ h' (λb H=>qZ (g.1 b (k.sub b H)) o.siz) (λb H=>(o.same b (g.1 b (k.sub b H))).trans (k.same b H)) [] (St.all h') _ _ V D) (B9 (kp [16,5,7,0,1,8] O) λag z F=>AY O E (λW E=>?_) (λW E=>?_))
   ·refine AI (AA O (AM O (kp [4] O) (A5 (λt u i j=>?_))))
    cases E
    exact Em i j O O (k.trans F) ⟨O,r9,z⟩
   refine AS (B7 (CL (.inl O) (A9 O (AA O (AN (kp [8,7,0,1] O) (WF.nil (λt u i j=>?_)))))))
   exact⟨(Bw (A+1)),_,_,i.sub (kp [7,0,1,8] O),j,z,(k.trans F),(B5 _),E⟩
  refine By O (λt u i j=>?_)
  exact⟨_,_,i.sub Py,j,g,k,E⟩
 rintro t u ⟨ah,ai,i,j,G,X,E⟩
 refine A6 ?_ i j
 clear i j u t
 rw[EW] at E
 refine AI (AM O (kp [4] O) (A5 (λt u i j=>?_)))
 cases E
 exact Em i j O O X ⟨O,(iq (n:=(-1)) O),G⟩
def KW (j:St S L h) {a:Value}{g:(List Int)}(d:Sl S h AJ a g) {b:Value}{i:(Int→Option Bool)}(c:Rd S h (BZ.fn prog (λx:Int=>([vI x]:List Value)) (λx:Int=>AH x) (λy:Bool=> .bool y) (λy:Bool=>True)) b i) {r:Bool}(E:Fq N g i=some r):
 DK prog 99 #[a,b] S h (λv S' h'=>v= .bool r∧St S' (L) h'):=by
 refine B0 (l:=[a,b]) 9 func99 O ntmps99 O λB=>?_
 rw[Fq] at E
 obtain⟨p,q,rfl,s,t⟩:=c.fn
 refine AI (AM O (kp [0,1] O) (AE (Cn (.inl O) j (AA O (AA O ?_)))))
 obtain⟨A,k,E⟩:=bd E
 refine DW O O O gK O (λh' o=>K3 (St.all h') (d.mono' (o.all j.1)) (c.mono (o.all j.1)) k) λu=>?_
 have C:=u
 refine HY O (A0 O (B9 (kp [4] O) λD m n=>A5 (λF G w z=>?_)))
 cases E
 exact Em w z O O n ⟨O,m⟩
def PN (c:St S L h) {a:Int}(b:AH a) {r:Bool}(E:H3 N a=some r):
 DK prog 100 #[vI a] S h (λv S' h'=>v= .bool r∧St S' (L) h'):=by
 refine B0 (l:=[vI a]) 5 func100 O ntmps100 O λB=>?_
 rw[H3] at E
 refine AI (AM O (kp [0] O) (AI (AA O (CV O (AM O (kp [2] O) (A5 (λi j d g=>?_)))))))
 cases E
 exact Em d g O O (C9.refl S h) ⟨O,c⟩
def Qo (A:St S L h) {c:Int}(m:AH c) {a:Int}(n:AH a) {d:Value}{i:(List Int)}(g:Sl S h AJ d i) {r:(List BD)}(E:KP N c a i=some r):
 DK prog 87 #[vN,vI c,vI a,d] S h (λv S' h'=>St S' (OS BJ 60 v r::L) h'):=by
 refine B0 (l:=[vN,vI c,vI a,d]) 32 func87 O ntmps87 O λB=>?_
 rw[KP] at E
 refine AI (AM O (kp [0,1,2,3] O) (AI (AA O (AA O (Nv O KZ O (AA O (Nv O KZ O (bR O O O KZ O (AM O (kp [9,1,2,3] O) (AE (AE (Cn (.inl O) A (AA O (BI O (AA O ?_)))))))))))))))
 obtain⟨b2,j,E⟩:=bd E
 refine AW 4 22 (.bool b2) ?_ ?_
 ·cases c1:(decide (a<0))
  ·have j:=Hj c1 j
   refine AB O (AA O (AB O ?_))
   have Q:Rd S h (BZ.fn prog (λx:Int=>([vI x]:List Value)) (λx:Int=>AH x) (λy:Bool=> .bool y) (λy:Bool=>True)) (.func (.func 100) #[] #[]) (λx=>H3 N x):=Rd.ofFn 100 #[] gQ λS' h' s' e' L A x y h1 h2=>(PN A h1 h2).mono λ_ _ _ _ p=>⟨p.1,trivial,p.2⟩
   obtain⟨y4,U,j⟩:=bd j
   refine BU O O O lX O (λh' o=>KW (St.all h') (g.mono' (o.all A.1)) (Q.mono (o.all A.1)) U) (AB O (CI O (AL O ?_)))
   cases j
   exact AV O
  have j:=Hi c1 j
  cases j
  exact A4 O O
 refine B9 (kp [22,9,1,2,3] O) λh6 u V=>AY O E (λc9 E=>?_) (λc9 E=>?_)
 ·refine AI (AA O (AM O (kp [8] O) (A5 (λaa ww W X=>?_))))
  have C:=u.nil BJ 60
  cases E
  exact Em W X O O V C
 refine AS (WF.sl (AF 4 (AA O (AA O (AA O (AA O (AD ?_)))))))
 obtain⟨z,D,E⟩:=bd E
 refine CG O O O Q8 O u (EC (St.all _) ((g.mono' V).mono (λb hb=>u.1 b hb) (λ_ _=>rfl)) D) λag ah ai af Y Z p=>?_
 have F:=p
 have s:=u.join Z F ⟨OS.flat (λ{_ _ _ _ _ _} k=>k),trivial⟩
 simp only[rW,rQ] at s
 refine AF 1 ?_
 obtain⟨w,t,rfl,aj⟩:=s.oslen mh
 refine Iz (cs:=[vI c,vI a,(.slice w z.length t)]) cW O O O (AD (E3 (cs:=[vI c,vI a,(.slice w z.length t)]) SE O O O O O O O s λak al G ab=>?_))
 have H:=G.nil BJ 60
 obtain⟨am,I,ac,ad⟩:=H.pubs (.tail (.tail .head))
 obtain⟨J,E⟩:=LO E
 refine Wy (r:=BJ) (l:=([]:List BD)) (xs:=([(⟨c,a,z⟩:BD)]:List BD)) O O SE O (mt mh) ⟨_,_,O,⟨_,O,m,n,ad⟩,O⟩ O O J O I (λ_=> .head) λan ao K ae=>?_
 have M:=K.drop (.tail .head)
 refine AF 1 (A0 O (AD (AZ (kp [8] O) (A5 (λaa ww W X=>?_)))))
 cases E
 exact Em W X O O (V.trans (Y.trans (ab.trans (ac.trans ae)))) M
def J6 {d:Nat}{p0_w:AX}{ai:Value}{aj:Value}{ak:Value}{al:Value}{am:Value}{an:Value}{ao:Value}{ap:Value}{ab:Value}{ac:Value}{ae:Value}{af:Value}{ag:Value}{z:Value}{I:Value}{K:Value}{Q:Value}{W:Value}{ar:Value}{ax:Value}{Y:Value}{aq:Value}(hs:St S (Bx d 84 [.string p0_w.b.H,ai,vI p0_w.b.T,aj,ak,al,am,an,ao,ap,vI p0_w.b.V,ab,ac,ae,af,ag,vI p0_w.s.D,z,I,K,Q,W,ar,ax,Y,aq]::OS (BZ.sl AJ) 29 z p0_w.s.F::OS AJ 3 I p0_w.s.O::OS BJ 60 K p0_w.s.M::OS Bz 69 Q p0_w.s.P::OS AJ 3 W p0_w.s.S::OS AJ 3 ar p0_w.s.U::OS CJ 50 ax p0_w.moves::OS AJ 3 Y p0_w.peaks::OS BJ 60 aq p0_w.sent::L) h) (dj:p0_w.b.H.size≤maxLen) (dk:Sl S h BZ.str ai p0_w.b.J) (dl:AH p0_w.b.T) (dm:Sl S h Cw aj p0_w.b.A) (dn:Sl S h Ct ak p0_w.b.E) (dp:Sl S h HL al p0_w.b.Am) (dq:Sl S h Fc am p0_w.b.Au) (dr:Sl S h HN an p0_w.b.Av) (ds:Sl S h Dy ao p0_w.b.Ay) (dt:Sl S h AJ ap p0_w.b.Ax) (cj:AH p0_w.b.V) (ck:Sl S h AJ ab p0_w.in_.X) (cl:Sl S h Gc ac p0_w.in_.Ap) (cm:Sl S h JX ae p0_w.in_.At) (cn:Sl S h Gd af p0_w.in_.Ad) (co:Sl S h HM ag p0_w.in_.Ba) (a1:AH p0_w.s.D) {g:Int}(bh:AH g) {a6:Value}{c:AK}(cb:Rd S h BK a6 c) {r:(List (List Int))×(List Int)×(List BB)×(List BD)}(E:ER N p0_w g c=some r):
 DK prog 64 #[vP d 0,vI g,a6] S h (λv S' h'=>∃bi bj bk bl:Value,v= .tuple #[]∧St S' (Bx d 84 [.string p0_w.b.H,ai,vI p0_w.b.T,aj,ak,al,am,an,ao,ap,vI p0_w.b.V,ab,ac,ae,af,ag,vI p0_w.s.D,bi,I,K,Q,W,bj,bk,Y,bl]::OS (BZ.sl AJ) 29 bi r.1::OS AJ 3 I p0_w.s.O::OS BJ 60 K p0_w.s.M::OS Bz 69 Q p0_w.s.P::OS AJ 3 W p0_w.s.S::OS AJ 3 bj r.2.1::OS CJ 50 bk r.2.2.1::OS AJ 3 Y p0_w.peaks::OS BJ 60 bl r.2.2.2::L) h'):=by
 refine B0 (l:=[vP d 0,vI g,a6]) 89 func64 O ntmps64 O λB=>?_
 rw[ER] at E
 refine WF.sl (C3 O cb (λe=>by cases e) O hs λq1 S2 h3 w e5 k6=>AZ (kp [5,0,1] O) (AE ?_))
 obtain⟨iz,du,E⟩:=bd E
 obtain⟨cp,dv,E⟩:=bd E
 obtain⟨u,dw,E⟩:=bd E
 refine bM (m:=[(5,q1),(0,vP d 0),(1,vI g)]) [] [] [] (λX i v Z=>match i with|0=>Pt S2 Z (BZ.fnr prog (λS h vs (x:(List Int))=>∃w0:Value,vs=[w0]∧Sl S h AJ w0 x) (λS h v (y:((List Int)×(List Int)))=>∃w0 w1:Value,v= .tuple #[w0,w1]∧Sl S h AJ w0 y.1∧Sl S h AJ w1 y.2)) v c.take|1=>Rd S2 Z (BZ.fnr prog (λS h vs (x:(List Int))=>∃w0:Value,vs=[w0]∧Sl S h AJ w0 x) (λS h v (y:((List Int)×(List Int)))=>∃w0 w1:Value,v= .tuple #[w0,w1]∧Sl S h AJ w0 y.1∧Sl S h AJ w1 y.2)) v c.take|2=>v=vP d 0|3=>v=vP d 0|4=>v=vP d 16|5=>v=vP d 17|6=>v=z|7=>v=vI g∧AH g|8=>EP z (g.toNat*((BZ.sl AJ)).sz+0) v|9=>Sl S2 Z AJ v cp|10=>∃w0 w1:Value,v= .tuple #[w0,w1]∧(Sl (SX S2 h3 Z X) Z AJ w0 u.1)∧(Sl (SX S2 h3 Z X) Z AJ w1 u.2)|11=>∃w0 w1:Value,v= .tuple #[w0,w1]∧(Sl (SX S2 h3 Z X) Z AJ w0 u.1)∧(Sl (SX S2 h3 Z X) Z AJ w1 u.2)|12=>Sl (SX S2 h3 Z X) Z AJ v u.1|13=>Sl (SX S2 h3 Z X) Z AJ v u.2|14=>Sl (SX S2 h3 Z X) Z AJ v u.1|15=>Sl (SX S2 h3 Z X) Z AJ v u.2|_=>False) [[],[(0,9)],[],[(2,11)],[(3,12)],[(4,13)],[(5,14)],[],[(6,15),(7,16)],[(8,17)],[(1,10),(9,18)],[(10,19)],[(11,8)],[(11,8)],[(12,20)],[(13,21)]] [(14,6),(15,7)] mo (by kernel_rfl) [5,0,1] O (by kernel_rfl) (by kernel_rfl) (by kernel_rfl) O (kp [5,0,1] O) (λi v h1 h2 X X' o1 o2 u1 u2 n=>?_) (by kernel_rfl) bH ?_ ?_ ?_
 ·match i,n with
   |0,n=>exact(OV.mono n (o2.ext λb hb=>qZ (w.1 b hb) o1.siz))
   |1,n=>exact(Rd.mono n (o2.ext λb hb=>qZ (w.1 b hb) o1.siz))
   |2,n|3,n|4,n|5,n|6,n|7,n|8,n=>exact n
   |9,n=>exact(Sl.mono' n (o2.ext λb hb=>qZ (w.1 b hb) o1.siz))
   |10,n|11,n=>obtain⟨w0,w1,e,k0,k1⟩:=n;exact⟨w0,w1,e,(Sl.mono' k0 (SX.mono w.1 o1 o2 u1 u2)),(Sl.mono' k1 (SX.mono w.1 o1 o2 u1 u2))⟩
   |12,n|13,n|14,n|15,n=>exact(Sl.mono' n (SX.mono w.1 o1 o2 u1 u2))
   |_+16,n=>exact n.elim
 ·exact trivial
 ·refine Hl.cons O O O ?_ ?_
  ·intro X mq Z o hX
   have ah:=o.st w
   exact AF 1 (A8 O (k6.mono (o.ext w.1)) PD ZK O λi0 f5=>AO f5)
  refine Hl.cons O O O ?_ ?_
  ·intro X mq Z o hX
   intro f6 cq
   have ah:=o.st w
   have cq:Pt _ _ (BZ.fnr prog (λS h vs (x:(List Int))=>∃w0:Value,vs=[w0]∧Sl S h AJ w0 x) (λS h v (y:((List Int)×(List Int)))=>∃w0 w1:Value,v= .tuple #[w0,w1]∧Sl S h AJ w0 y.1∧Sl S h AJ w1 y.2)) f6 c.take:=cq
   exact AF 1 (Cq Bu ah.1 O cq eU (λ_=>rfl) O λi1 f7=>AO f7)
  refine Hl.cons O O O ?_ ?_
  ·intro X mq Z o hX
   have ah:=o.st w
   exact AF 1 (AA O (AO O))
  refine Hl.cons O O O ?_ ?_
  ·intro X mq Z o hX
   intro i2 f8
   have ah:=o.st w
   cases f8
   exact AF 1 (DN O O (AO O))
  refine Hl.cons O O O ?_ ?_
  ·intro X mq Z o hX
   intro i3 f9
   have ah:=o.st w
   cases f9
   exact AF 1 (AG DZ O (AO O))
  refine Hl.cons O O O ?_ ?_
  ·intro X mq Z o hX
   intro i4 ga
   have ah:=o.st w
   cases ga
   exact AF 1 (AG EF O (AO O))
  refine Hl.cons O O O ?_ ?_
  ·intro X mq Z o hX
   intro i5 gb
   have ah:=o.st w
   cases gb
   exact AF 1 (AT Bu ah O mh O HO O (AO O))
  refine Hl.cons O O O ?_ ?_
  ·intro X mq Z o hX
   have ah:=o.st w
   exact AF 1 (AA O (AO ⟨O,bh⟩))
  refine Hl.cons O O O ?_ ?_
  ·intro X mq Z o hX
   intro i6 gc i7 gd
   have ah:=o.st w
   cases gc
   obtain⟨rfl,i8⟩:=gd
   exact AF 1 (BX ah (mt mh) O O Fl du O λi9 dx=>AO dx)
  refine Hl.cons O O O ?_ ?_
  ·intro X mq Z o hX
   intro ja ge
   have ah:=o.st w
   refine AF 1 ?_
   have gf:=ah.epAt (mt mh) dv GO.id ge
   exact BF Bu (λ_ x=>x) O gf CH O λjb gg=>AO gg
  refine Hl.cons O O O ?_ ?_
  ·intro X mq Z o hX
   intro gh bp gi bq
   have ah:=OP (X:=X) w o
   have bp:=Rd.mono (S':=(SX S2 h3 Z X)) bp ⟨λb hb=>(SX.ext w.1 o hX).sub b hb,λ_ _=>rfl,qX _⟩
   have bp:Rd _ _ (BZ.fnr prog (λS h vs (x:(List Int))=>∃w0:Value,vs=[w0]∧Sl S h AJ w0 x) (λS h v (y:((List Int)×(List Int)))=>∃w0 w1:Value,v= .tuple #[w0,w1]∧Sl S h AJ w0 y.1∧Sl S h AJ w1 y.2)) gh c.take:=bp
   have bq:=Sl.mono' (S':=(SX S2 h3 Z X)) bq ⟨λb hb=>(SX.ext w.1 o hX).sub b hb,λ_ _=>rfl,qX _⟩
   have bq:Sl _ _ AJ gi cp:=bq
   have br:=ah.fz
   obtain⟨g4,g5,rfl,dy,dz⟩:=bp.fnr
   refine Dj O O O dy O (dz _ _ (λb hb=>(C9.refl (SX S2 h3 Z X) Z).sub b hb) (λb hb=>(C9.refl (SX S2 h3 Z X) Z).same b hb) _ br cp _ _ ⟨_,O,bq⟩ dw) λjc jd je gj p=>?_
   obtain⟨⟨jf,jg,rfl,gl,gm⟩,d0⟩:=p
   have bs:=SX.done o hX gj d0
   exact Dt bs.1 ⟨_,_,O,(Sl.mono' gl bs.2),(Sl.mono' gm bs.2)⟩
  refine Hl.cons O O O ?_ ?_
  ·intro X mq Z o hX
   intro jh gn
   have ah:=OP (X:=X) w o
   obtain⟨gp,gq,rfl,cr,ct⟩:=gn
   have cr:Sl _ _ AJ gp u.1:=cr
   have ct:Sl _ _ AJ gq u.2:=ct
   exact AF 1 (AA O (AO ⟨_,_,O,cr,ct⟩))
  refine Hl.cons O O O ?_ ?_
  ·intro X mq Z o hX
   intro ji gr
   have ah:=OP (X:=X) w o
   obtain⟨gs,gu,rfl,cu,d1⟩:=gr
   have cu:Sl _ _ AJ gs u.1:=cu
   have d1:Sl _ _ AJ gu u.2:=d1
   exact AF 1 (CX O (AO cu))
  refine Hl.cons O O O ?_ ?_
  ·intro X mq Z o hX
   intro jj gv
   have ah:=OP (X:=X) w o
   obtain⟨gw,gx,rfl,d2,cv⟩:=gv
   have d2:Sl _ _ AJ gw u.1:=d2
   have cv:Sl _ _ AJ gx u.2:=cv
   exact AF 1 (CX O (AO cv))
  refine Hl.cons O O O ?_ ?_
  ·intro X mq Z o hX
   intro gy cw
   have ah:=OP (X:=X) w o
   have cw:Sl _ _ AJ gy u.1:=cw
   exact AF 1 (A0 O (AO cw))
  refine Hl.cons O O O ?_ ?_
  ·intro X mq Z o hX
   intro gz bt
   have ah:=OP (X:=X) w o
   have bt:Sl _ _ AJ gz u.2:=bt
   exact AF 1 (A0 O (AO bt))
  exact trivial
 intro au av a2 ay bu a4 d3 bv g0 g1
 have bf:=(eE.nil w a2 ay).st
 have a4:Sl _ _ AJ bu u.1:=a4
 have bv:Sl _ _ AJ d3 u.2:=bv
 refine AZ (kp [7,6,5,0,1] O) (WF.sl (AF 8 (AA O (DN O O (AG DZ O (AG EF O (AT Bu bf O mh O HO O (AA O (AA O ?_)))))))))
 obtain⟨g6,cx,E⟩:=bd E
 refine BX bf (mt mh) O O Fl cx O λg7 cy=>AD ?_
 obtain⟨d4,cz,E⟩:=bd E
 refine Fd (r:=(BZ.sl AJ)) (l:=p0_w.s.F) (i:=g) (x:=d4) O O (Ml bv) cy cz MS.id CH (λ_=>rfl) bf (.tail .head) λg8 bw aw=>AZ (kp [6,5,0,1] O) (AE (AE (Cn (.inl O) bw (AA O ?_))))
 obtain⟨g9,c0,E⟩:=bd E
 refine DW O O O OC O (λh' o=>F7 (St.all h') ((a4.mono' aw).mono' (o.all bw.1)) c0) λd5=>?_
 have ha:=d5
 refine HX O (B9 (kp [32,6,5,0,1] O) λa3 j az=>AY O E (λd6 E=>?_) (λd6 E=>?_))
 ·refine A5 (λaa ww hf hw=>?_)
  cases E
  exact K5 hf O hw K4 O (e5.trans ((SX.ext w.1 a2 ay).trans (aw.trans az))) ⟨_,_,_,_,O,j⟩
 refine AS (AE (VZ (m:=[(6,bu),(5,q1),(0,vP d 0),(1,vI g)]) 18 [0] (λi v Z=>match i with|0=>v=vP d 0|1=>v=vP d 0|2=>v=vP d 0|3=>v=vP d 23|4=>v=ax|5=>v=vP d 0|6=>v=vP d 0|7=>v=vP d 16|8=>v=vP d 16|9=>v=vI p0_w.s.D∧AH p0_w.s.D|10=>v=vI g∧AH g|11=>Pt (SX S2 h3 au av) Z AJ v c.to_|12=>v=vI c.to_∧AH c.to_|13=>Pt (SX S2 h3 au av) Z AJ v c.way|14=>v=vI c.way∧AH c.way|15=>Sl (SX S2 h3 au av) Z AJ v u.1|16=>Rd (SX S2 h3 au av) Z CJ v (⟨p0_w.s.D,g,c.to_,c.way,u.1⟩:BB)|17=>Sl (SN (SX S2 h3 au av) a3 Z) Z CJ v ([(⟨p0_w.s.D,g,c.to_,c.way,u.1⟩:BB)]:List BB)∧∃ad,v= .slice (some ad) 1 1|_=>False) [[],[],[(1,34)],[(2,35)],[(3,36)],[],[(5,38)],[(6,39)],[(7,40)],[(8,41)],[],[],[(11,44)],[],[(13,46)],[],[(9,42),(10,43),(12,45),(14,47),(15,48)],[(16,49)]] [(0,33),(4,37),(17,50)] mo (by kernel_rfl) [6,5,0,1] O (by kernel_rfl) (by kernel_rfl) (by kernel_rfl) (kp [6,5,0,1] O) (λi v h1 h2 o1 o2 n=>?_) ?_ ?_ ?_))
 ·match i,n with
   |0,n|1,n|2,n|3,n|4,n|5,n|6,n|7,n|8,n|9,n|10,n|12,n|14,n=>exact n
   |11,n|13,n=>exact OV.mono n (o2.ext λb hb=>qZ (j.1 b hb) o1.siz)
   |15,n=>exact Sl.mono' n (o2.ext λb hb=>qZ (j.1 b hb) o1.siz)
   |16,n=>exact Rd.mono n (o2.ext λb hb=>qZ (j.1 b hb) o1.siz)
   |17,n=>exact⟨Sl.mono' n.1 (SN.mono j.1 o1 o2),n.2⟩
   |_+18,n=>exact n.elim
 ·refine RM.cons [] (by kernel_rfl) O O (by kernel_rfl) ?_ ?_
  ·intro mq Z o
   intro a hf
   exact⟨vP d 0,PF hf O,O⟩
  exact trivial
 ·refine BQ.cons O (λ_ _ _=>AF 1 (AA O (AO O))) (BQ.cons O (λ_ _ _=>AF 1 (AA O (AO O))) (BQ.cons O (λ_ _ _ _ d7=>by cases d7;exact AF 1 (DN O O (AO O))) (BQ.cons O (λ_ _ _ _ d8=>by cases d8;exact AF 1 (AG Ou O (AO O))) (BQ.cons O (λ_ _ o _ d9=>by cases d9;exact AF 1 (AT Bu (o.st j) O mh O Tm O (AO O))) (BQ.cons O (λ_ _ _=>AF 1 (AA O (AO O))) (BQ.cons O (λ_ _ _ _ ea=>by cases ea;exact AF 1 (DN O O (AO O))) (BQ.cons O (λ_ _ _ _ eb=>by cases eb;exact AF 1 (AG DZ O (AO O))) (BQ.cons O (λ_ _ _ _ ec=>by cases ec;exact AF 1 (AG Jc O (AO O))) (BQ.cons O (λ_ _ o _ ed=>by cases ed;exact AF 1 (AT Bu (o.st j) O mh O BA O (AO ⟨O,a1⟩))) (BQ.cons O (λ_ _ _=>AF 1 (AA O (AO ⟨O,bh⟩))) (BQ.cons O (λ_ _ o=>AF 1 (A8 O (k6.mono ((SX.ext w.1 a2 ay).trans (aw.trans (az.trans (o.ext j.1))))) Kf Q0 O λhc ee=>AO ee)) ?_)))))))))))
  refine BQ.cons O (λ_ _ o ef bx=>by have bx:Pt _ _ AJ ef c.to_:=bx;exact AF 1 (BC Bu (o.st j).1 O bx BA O λeg=>AO ⟨O,eg⟩)) (BQ.cons O (λ_ _ o=>AF 1 (A8 O (k6.mono ((SX.ext w.1 a2 ay).trans (aw.trans (az.trans (o.ext j.1))))) Pa ZL O λhd eh=>AO eh)) (BQ.cons O (λ_ _ o ei bz=>by have bz:Pt _ _ AJ ei c.way:=bz;exact AF 1 (BC Bu (o.st j).1 O bz BA O λej=>AO ⟨O,ej⟩)) (BQ.cons O (λ_ _ o=>AF 1 (AA O (AO (a4.mono' (aw.trans (az.trans (o.ext j.1))))))) ?_)))
  refine BQ.cons O ?_ ?_
  ·intro mq Z o
   intro he ek hg el hi em hj en eo bm
   have ah:=o.st j
   obtain⟨rfl,ep⟩:=ek
   obtain⟨rfl,eq⟩:=el
   obtain⟨rfl,er⟩:=em
   obtain⟨rfl,es⟩:=en
   have bm:Sl _ _ AJ eo u.1:=bm
   refine AF 1 ?_
   obtain⟨c1,cc,rfl,hk⟩:=(bm).len
   exact Iz (cs:=[vI p0_w.s.D,vI g,vI c.to_,vI c.way,(.slice c1 u.1.length cc)]) cX O O O (AO (CJ.mk (x:=(⟨p0_w.s.D,g,c.to_,c.way,u.1⟩:BB)) ep eq er es bm))
  refine BQ.cons O ?_ ?_
  ·intro mq Z o
   intro et a8
   have ah:=SN.st j o
   have a8:=Rd.mono (S':=(SN (SX S2 h3 au av) a3 Z)) a8 ⟨λb hb=> .inl hb,λ_ _=>rfl,qX _⟩
   have a8:Rd _ _ CJ et (⟨p0_w.s.D,g,c.to_,c.way,u.1⟩:BB):=a8
   have br:=ah.fz
   obtain⟨hl,rfl,eu,ev,ew,ey,ce⟩:=CJ.ex a8
   obtain⟨c2,cd,rfl,hm⟩:=(ce).len
   refine E3 (cs:=[vI ((⟨p0_w.s.D,g,c.to_,c.way,u.1⟩:BB).D),vI ((⟨p0_w.s.D,g,c.to_,c.way,u.1⟩:BB).G),vI ((⟨p0_w.s.D,g,c.to_,c.way,u.1⟩:BB).C),vI ((⟨p0_w.s.D,g,c.to_,c.way,u.1⟩:BB).Be),(.slice c2 ((⟨p0_w.s.D,g,c.to_,c.way,u.1⟩:BB).Ag).length cd)]) Wf O O O O O O O br λhn ho c3 cf=>?_
   have ez:=ce.mono' cf
   have c4:=c3.bxos (r:=CJ) (l:=([(⟨p0_w.s.D,g,c.to_,c.way,u.1⟩:BB)]:List BB)) .head ⟨_,_,O,⟨_,O,eu,ev,ew,ey,ez⟩,O⟩ (by simp [maxLen])
   obtain⟨hp,c5,e0,e1⟩:=c4.pubs .head
   have b0:=Fz.done o (cf.trans e0) c5
   exact Dt b0.1 ⟨Sl.mono' e1 b0.2,_,O⟩
  exact trivial
 intro a9 a5 hq e2 ht e3 hu b1
 have c6:=SN.st j a5
 cases e2
 cases e3
 obtain⟨b1,g2,rfl⟩:=b1
 obtain⟨c7,E⟩:=LO E
 refine J3 (r:=CJ) (l:=p0_w.moves) (xs:=([(⟨p0_w.s.D,g,c.to_,c.way,u.1⟩:BB)]:List BB)) O O Wf O (Sl.src b1) O c7 O c6 (λ_=>(.tail (.tail (.tail (.tail (.tail (.tail (.tail .head)))))))) λhv hx b2 ba=>AF 2 (DN O O (AG Ou O (AD ?_)))
 obtain⟨a7,a0,rfl,hy⟩:=b2.oslen (mt (mt (mt (mt (mt (mt (mt mh)))))))
 refine Iq (vs:=[(.slice a7 (p0_w.moves++([(⟨p0_w.s.D,g,c.to_,c.way,u.1⟩:BB)]:List BB)).length a0)]) (cs':=[.string p0_w.b.H,ai,vI p0_w.b.T,aj,ak,al,am,an,ao,ap,vI p0_w.b.V,ab,ac,ae,af,ag,vI p0_w.s.D,z,I,K,Q,W,ar,(.slice a7 (p0_w.moves++([(⟨p0_w.s.D,g,c.to_,c.way,u.1⟩:BB)]:List BB)).length a0),Y,aq]) O O O O Tm O b2 .head O O λcg t bb=>AZ (kp [6,5,0] O) (AE (AI ?_))
 have c8:=(SX.ext w.1 a2 ay).trans (aw.trans (az.trans ((SN.ext j.1 a5).trans (ba.trans bb))))
 have b3:=k6.mono c8
 refine A8 O b3 Kf Q0 O λhz e4=>BC Bu t.1 O e4 BA O λh0=>B6 O (AN (kp [56,6,5,0] O) (AY O E (λe6 E=>?_) (λe6 E=>?_)))
 ·refine WF.sl (AF 7 (AA O (AA O (DN O O (AG DZ O (AG KO O (AT Bu t O mh O CH O (AA O (AD ?_)))))))))
  obtain⟨ch,c9,E⟩:=bd E
  refine CG O O O Wi O t (LK (St.all _) (t.oslAll (mt (mt (mt (mt (mt (mt mh))))))) ((a4.mono' (aw.trans (az.trans ((SN.ext j.1 a5).trans (ba.trans bb))))).mono (λb hb=>t.1 b hb) (λ_ _=>rfl)) c9) λh4 h5 h6 g3 e7 e8 p=>?_
  have da:=p
  have bg:=t.join e8 da ⟨OS.flat (λ{_ _ _ _ _ _} k=>k),trivial⟩
  simp only[rW,rQ] at bg
  refine AF 3 (DN O O (AG DZ O (AG KO O (AD ?_))))
  obtain⟨b4,bn,rfl,h7⟩:=bg.oslen mh
  refine Iq (vs:=[(.slice b4 ch.length bn)]) (cs':=[.string p0_w.b.H,ai,vI p0_w.b.T,aj,ak,al,am,an,ao,ap,vI p0_w.b.V,ab,ac,ae,af,ag,vI p0_w.s.D,z,I,K,Q,W,(.slice b4 ch.length bn),(.slice a7 (p0_w.moves++([(⟨p0_w.s.D,g,c.to_,c.way,u.1⟩:BB)]:List BB)).length a0),Y,aq]) O O O O CH O bg (.tail .head) O O λh8 db e9=>AZ Py (A5 (λaa ww hf hw=>?_))
  have dc:=db.sel [1,1,1,1,1,1,0,1,1,1] 1 O
  cases E
  exact K5 hf O hw K4 O (e5.trans ((SX.ext w.1 a2 ay).trans (aw.trans (az.trans ((SN.ext j.1 a5).trans (ba.trans (bb.trans (e7.trans e9)))))))) ⟨_,_,_,_,O,dc⟩
 refine AS ?_
 obtain⟨bc,dd,E⟩:=bd E
 refine VZ (m:=[(6,bu),(5,q1),(0,vP d 0)]) 18 [0] (λi v Z=>match i with|0=>v=vP d 0|1=>v=vP d 0|2=>v=vP d 0|3=>v=vP d 25|4=>v=aq|5=>v=vP d 0|6=>v=vP d 0|7=>v=vP d 16|8=>v=vP d 16|9=>v=vI p0_w.s.D∧AH p0_w.s.D|10=>v=vI (Bw (p0_w.s.D+1))∧AH (Bw (p0_w.s.D+1))|11=>Pt (SN (SX S2 h3 au av) a3 a9) Z AJ v c.delay|12=>v=vI c.delay∧AH c.delay|13=>v=vI (Bw ((Bw (p0_w.s.D+1))+c.delay))∧AH (Bw ((Bw (p0_w.s.D+1))+c.delay))|14=>Pt (SN (SX S2 h3 au av) a3 a9) Z AJ v c.to_|15=>v=vI c.to_∧AH c.to_|16=>Sl (SN (SX S2 h3 au av) a3 a9) Z AJ v u.1|17=>Sl (SN (SN (SX S2 h3 au av) a3 a9) cg Z) Z BJ v bc|_=>False) [[],[],[(1,69)],[(2,70)],[(3,71)],[],[(5,73)],[(6,74)],[(7,75)],[(8,76)],[(9,77)],[],[(11,79)],[(10,78),(12,80)],[],[(14,82)],[],[(13,81),(15,83),(16,84)]] [(0,68),(4,72),(17,85)] mo (by kernel_rfl) [6,5,0] O (by kernel_rfl) (by kernel_rfl) (by kernel_rfl) (kp [6,5,0] O) (λi v h1 h2 o1 o2 n=>?_) ?_ ?_ ?_
 ·match i,n with
   |0,n|1,n|2,n|3,n|4,n|5,n|6,n|7,n|8,n|9,n|10,n|12,n|13,n|15,n=>exact n
   |11,n|14,n=>exact OV.mono n (o2.ext λb hb=>qZ (t.1 b hb) o1.siz)
   |16,n=>exact Sl.mono' n (o2.ext λb hb=>qZ (t.1 b hb) o1.siz)
   |17,n=>exact Sl.mono' n (SN.mono t.1 o1 o2)
   |_+18,n=>exact n.elim
 ·refine RM.cons [] (by kernel_rfl) O O (by kernel_rfl) ?_ ?_
  ·intro mq Z o
   intro a hf
   exact⟨vP d 0,PF hf O,O⟩
  exact trivial
 ·refine BQ.cons O (λ_ _ _=>AF 1 (AA O (AO O))) (BQ.cons O (λ_ _ _=>AF 1 (AA O (AO O))) (BQ.cons O (λ_ _ _ _ fb=>by cases fb;exact AF 1 (DN O O (AO O))) (BQ.cons O (λ_ _ _ _ fc=>by cases fc;exact AF 1 (AG S7 O (AO O))) (BQ.cons O (λ_ _ o _ fd=>by cases fd;exact AF 1 (AT Bu (o.st t) O mh O MD O (AO O))) (BQ.cons O (λ_ _ _=>AF 1 (AA O (AO O))) (BQ.cons O (λ_ _ _ _ fe=>by cases fe;exact AF 1 (DN O O (AO O))) (BQ.cons O (λ_ _ _ _ ff=>by cases ff;exact AF 1 (AG DZ O (AO O))) (BQ.cons O (λ_ _ _ _ fg=>by cases fg;exact AF 1 (AG Jc O (AO O))) (BQ.cons O (λ_ _ o _ fh=>by cases fh;exact AF 1 (AT Bu (o.st t) O mh O BA O (AO ⟨O,a1⟩))) (BQ.cons O (λ_ _ _ _ fi=>by obtain⟨rfl,h9⟩:=fi;exact AF 1 (A9 O (AO ⟨O,(B5 _)⟩))) (BQ.cons O (λ_ _ o=>AF 1 (A8 O (b3.mono (o.ext t.1)) OR ZM O λia fj=>AO fj)) ?_)))))))))))
  refine BQ.cons O (λ_ _ o fk b5=>by have b5:Pt _ _ AJ fk c.delay:=b5;exact AF 1 (BC Bu (o.st t).1 O b5 BA O λfl=>AO ⟨O,fl⟩)) (BQ.cons O (λ_ _ _=>by intro ib fm ic fn;obtain ⟨rfl,ie⟩:=fm;obtain ⟨rfl,ig⟩:=fn;exact AF 1 (A9 O (AO ⟨O,(B5 _)⟩))) (BQ.cons O (λ_ _ o=>AF 1 (A8 O (b3.mono (o.ext t.1)) Kf Q0 O λih fo=>AO fo)) (BQ.cons O (λ_ _ o fp b6=>by have b6:Pt _ _ AJ fp c.to_:=b6;exact AF 1 (BC Bu (o.st t).1 O b6 BA O λfq=>AO ⟨O,fq⟩)) (BQ.cons O (λ_ _ o=>AF 1 (AA O (AO (a4.mono' (aw.trans (az.trans ((SN.ext j.1 a5).trans (ba.trans (bb.trans (o.ext t.1)))))))))) ?_))))
  refine BQ.cons O ?_ ?_
  ·intro mq Z o
   intro ii fr ij fs ft be
   have ah:=SN.st t o
   obtain⟨rfl,fu⟩:=fr
   obtain⟨rfl,fv⟩:=fs
   have be:=Sl.mono' (S':=(SN (SN (SX S2 h3 au av) a3 a9) cg Z)) be ⟨λb hb=> .inl hb,λ_ _=>rfl,qX _⟩
   have be:Sl _ _ AJ ft u.1:=be
   have br:=ah.fz
   refine Dj O O O mB O (Qo br fu fv be dd) λik il im fw p=>?_
   have de:=p
   obtain⟨io,df,fx,fy⟩:=de.pubs .head
   have b7:=Fz.done o (fw.trans fx) df
   exact Dt b7.1 (Sl.mono' fy b7.2)
  exact trivial
 intro ip ci ir f0 it f1 f2 b8
 have dg:=SN.st t ci
 cases f0
 cases f1
 have b8:Sl _ _ BJ f2 bc:=b8
 obtain⟨dh,E⟩:=LO E
 refine J3 (r:=BJ) (l:=p0_w.sent) (xs:=bc) O O SE O (Sl.src b8) O dh O dg (λ_=>(.tail (.tail (.tail (.tail (.tail (.tail (.tail (.tail (.tail .head)))))))))) λiu iv b9 f3=>AF 2 (DN O O (AG S7 O (AD ?_)))
 obtain⟨ca,bo,rfl,iw⟩:=b9.oslen (mt (mt (mt (mt (mt (mt (mt (mt (mt mh)))))))))
 refine Iq (vs:=[(.slice ca (p0_w.sent++bc).length bo)]) (cs':=[.string p0_w.b.H,ai,vI p0_w.b.T,aj,ak,al,am,an,ao,ap,vI p0_w.b.V,ab,ac,ae,af,ag,vI p0_w.s.D,z,I,K,Q,W,ar,(.slice a7 (p0_w.moves++([(⟨p0_w.s.D,g,c.to_,c.way,u.1⟩:BB)]:List BB)).length a0),Y,(.slice ca (p0_w.sent++bc).length bo)]) O O O O MD O b9 .head O O λiy di f4=>AZ Py (WF.nil (λaa ww hf hw=>?_))
 cases E
 exact K5 hf O hw K4 O (e5.trans ((SX.ext w.1 a2 ay).trans (aw.trans (az.trans ((SN.ext j.1 a5).trans (ba.trans (bb.trans ((SN.ext t.1 ci).trans (f3.trans f4))))))))) ⟨_,_,_,_,O,di⟩
end Go.Proofs.YtblcgjadhemlbaaGreat
