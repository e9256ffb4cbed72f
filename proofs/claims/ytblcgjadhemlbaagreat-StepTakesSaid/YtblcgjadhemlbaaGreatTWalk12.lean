import Derived.Test.YtblcgjadhemlbaaGreatTWalk11
namespace Go.Proofs.YtblcgjadhemlbaaGreat
open Go.RowKit
set_option linter.unusedVariables false
set_option linter.unusedSimpArgs false
set_option maxRecDepth 10000
set_option maxHeartbeats 2000000
variable {N:Nat}{S:Nat→Prop}{L:List HP}{h:Aw}
theorem Gy (hs:St S L h) {b:Int}(m:AE b) {r:(List AK)}(E:Bz N b=some r):
 CL Tryz.prog 82 #[vN,vI b] S h (λv S' h'=>St S' (OS Au 111 v r::L) h'):=by
 refine BF (l:=[vN,vI b]) 27 Tryz.func82 O Tryz.ntmps82 O λB=>?_
 rw[Bz] at E
 refine AH (AL O (kp [0,1] O) (AC (AH (AA O (Ao O (AM (kp [6,0,1] O) (AX O E (λC E=>?_) (λC E=>?_))))))))
 ·cases E
 refine AO (AC (AH (AA O (AA O (Uy O Lc O (AA O (M1 O Lc O (Cz O (Cz O (AL O (kp [1,0] O) (AH (AA O (Bk O (AM (kp [16,1,0] O) (Ga (λa w=>∃(p:Value) (s:List AK),IV B S h (27,[]) a w [(0,p)] (OS Au 111 p s::L) λ_ _=>Bn N s=some r) ?_ ?_)))))))))))))))
 ·refine AX O E (λD E=>?_) (λD E=>?_)
  ·refine EX (AI 5 (AA O (AA O (Uy O Lc O (bG O O Lc O (AA O (AG ?_)))))))
   obtain⟨t,E⟩:=MU E
   obtain⟨u,E⟩:=MU E
   refine Yy O O LC iZ (of_decide_eq_true t) u O O hs λF G H I J x y g z=>AI 4 (AA O (M1 O Lc O (bF O O Lc O ?_)))
   have i:=Xd (r:=Au) (l:=([]:List AK)) g (Nat.zero_le _) x y WO
   refine AY O (AG (AZ (kp [0] O) (WF.nil (λn o c d=>?_))))
   exact⟨(.slice (some ⟨F,0,none⟩) 0 G),([]:List AK),_,_,c.sub (kp [0] O),d,i,z,E⟩
  refine AO (WF.nil (λn o c d=>?_))
  have j:=hs.nil Au 111
  exact⟨(vN),([]:List AK),_,_,c.sub (kp [0] O),d,j,(B9.refl S h),E⟩
 rintro n o ⟨p,s,K,M,c,d,k,A,E⟩
 refine Ac ?_ c d
 clear c d o n
 rw[Bn] at E
 refine AH (AA O (AL O (kp [4] O) (Ad (λn o c d=>?_))))
 cases E
 exact Dr c d O O A k
theorem Gi (hs:St S L h) {b:Value}{c:(List (List AK))}(d:Sl S h (AN.sl Au) b c) {r:(List AK)}(E:Bq N c=some r):
 CL Tryz.prog 61 #[b] S h (λv S' h'=>St S' (OS Au 111 v r::L) h'):=by
 refine BF (l:=[b]) 36 Tryz.func61 O Tryz.ntmps61 O λB=>?_
 rw[Bq] at E
 refine AH (AL O (kp [0] O) (AH (AL O (kp [3,0] O) (AC (AH (AA O (Ak O d RC O λb1=>AA O (AM (kp [11,10,9,3,0] O) (Aj (λa w=>∃(i2:Int),IV B S h (36,[]) a w [(0,b),(3,vI i2)] (L) λ_ _=>AE i2∧Bh N c i2=some r) ?_ ?_)))))))))
 ·refine A3 (λn1=>λa w=>∃(G:Int) (o:Int),IV B S h (36,[]) a w [(10,vI (↑c.length:Int)),(9,b),(0,b),(3,vI G),(11,vI o)] (L) λ_ _=>AE G∧AE o∧BW N c (Bh N c) n1 G o=some r) N ?_ ?_ ?_
  ·intro j k g i
   exact⟨0,0,_,_,g.sub (kp [10,9,0,3,11] O),i,hs,(B9.refl S h),(iq (n:=0) O),(iq (n:=0) O),E⟩
  ·rintro j k ⟨_,_,_,_,_,_,_,_,_,_,E⟩
   rw[BW] at E;cases E
  rintro n1 j k ⟨G,o,ao,ap,g,i,s,y,r9,aq,E⟩
  refine Ac ?_ g i
  clear g i k j
  rw[BW] at E
  refine AH (Ao O (AM (kp [12,10,9,0,3,11] O) (AC (AX O E (λab E=>?_) (λab E=>?_)))))
  ·refine AO (AC (A8 (AH ?_)))
   obtain⟨ac,H,E⟩:=bd E
   refine A9 O O (d.mono' y) RC H O λar ad=>Al A6 s.1 O ad Vw O λau ae=>AL O (kp [5,10,9,0,3,11] O) (AH (AA O (AA O (Ak O ae Lc O λav=>Ai O (AL O (kp [3,10,9,0,11] O) (AH (AA O (Ao O (AM (kp [20,3,10,9,0,11] O) (AX O E (λaf E=>?_) (λaf E=>?_)))))))))))
   ·cases E
   refine AO (BP (BY (.inl O) (Ai O (AA O (AM (kp [11,3,10,9,0] O) (WF.nil (λj k g i=>?_)))))))
   exact⟨(BM (G+(↑ac.length:Int))),(BM (o+1)),_,_,g.sub (kp [10,9,0,3,11] O),i,s,y,(BG _),(BG _),E⟩
  refine BA O (λj k g i=>?_)
  exact⟨G,_,_,g.sub (kp [0,3] O),i,s,y,r9,E⟩
 rintro j k ⟨i2,aw,ax,g,i,I,J,r3,E⟩
 refine Ac ?_ g i
 clear g i k j
 rw[Bh] at E
 refine WF.sl (AI 1 (AA O (AG ?_)))
 obtain⟨ag,K,E⟩:=bd E
 refine Ct O O O fB O (Gy I r3 K) λah z A M p=>?_
 have Q:=p
 refine AI 1 (AY O (AG (AZ (kp [6,0] O) (AC (AH (AA O ?_))))))
 have U:=d.mono' (J.trans M)
 refine Ak O U RC O λay=>AA O (AM (kp [27,26,25,6] O) (Aj (λa w=>∃(C:Value) (D:List AK),IV B z A (36,[]) a w [(6,C)] (OS Au 111 C D::L) λ_ _=>CA N D=some r) ?_ ?_))
 ·refine A3 (λn3=>λa w=>∃(x:Value) (m:List AK) (t:Int),IV B z A (36,[]) a w [(26,vI (↑c.length:Int)),(25,b),(6,x),(27,vI t)] (OS Au 111 x m::L) λ_ _=>AE t∧BV N c (CA N) n3 m t=some r) N ?_ ?_ ?_
  ·intro j k g i
   exact⟨ah,ag,0,_,_,g.sub (kp [26,25,6,27] O),i,Q,(B9.refl z A),(iq (n:=0) O),E⟩
  ·rintro j k ⟨_,_,_,_,_,_,_,_,_,_,E⟩
   rw[BV] at E;cases E
  rintro n3 j k ⟨x,m,t,az,a0,g,i,u,F,a1,E⟩
  refine Ac ?_ g i
  clear g i k j
  rw[BV] at E
  refine AH (Ao O (AM (kp [28,26,25,6,27] O) (AC (AX O E (λai E=>?_) (λai E=>?_)))))
  ·refine AO (AC (A8 (AH ?_)))
   obtain⟨V,W,E⟩:=bd E
   refine A9 O O (U.mono' F) RC W O λa2 aj=>Al A6 u.1 O aj Vw O λa3 ak=>AL O (kp [8,26,25,6,27] O) (EX (AI 2 (AA O (AA O (AG ?_)))))
   obtain⟨X,E⟩:=MU E
   refine JT (r:=Au) (l:=m) (xs:=V) O O LC O (Sl.src ak) O X O u (λ_=> .head) λal a4 Y am=>AI 1 (AY O (AG (AZ (kp [6,26,25,27] O) (BP (BY (.inl O) (Ai O (AA O (AM (kp [27,6,26,25] O) (WF.nil (λj k g i=>?_))))))))))
   exact⟨al,(m++V),(BM (t+1)),_,_,g.sub (kp [26,25,6,27] O),i,Y,(F.trans am),(BG _),E⟩
  refine BA O (λj k g i=>?_)
  exact⟨x,m,_,_,g.sub (kp [6] O),i,u,F,E⟩
 rintro j k ⟨C,D,a5,a6,g,i,Z,an,E⟩
 refine Ac ?_ g i
 clear g i k j
 rw[CA] at E
 refine AH (AA O (AL O (kp [2] O) (Ad (λj k g i=>?_))))
 cases E
 exact Dr g i O O (J.trans (M.trans an)) Z
theorem KB (hs:St S L h) {c:Value}{m:(List Int)}(p:Sl S h AN.int c m) {d:Value}{q:(Int→Option Bool)}(s:Rd S h (AN.fn Tryz.prog (λx:Int=>([vI x]:List Value)) (λx:Int=>AE x) (λy:Bool=> .bool y) (λy:Bool=>True)) d q) {r:Int}(E:D9 N m q=some r):
 CL Tryz.prog 107 #[c,d] S h (λv S' h'=>v=vI r∧AE r∧St S' (L) h'):=by
 refine BF (l:=[c,d]) 19 Tryz.func107 O Tryz.ntmps107 O λB=>?_
 rw[D9] at E
 obtain⟨H,I,rfl,J,K⟩:=s.fn
 refine AH (AL O (kp [0,1] O) (AC (AH (AA O (Ak O p BR O λb5=>AA O (AM (kp [8,7,0,1] O) (Aj (λa w=>IV B S h (19,[]) a w [] (L) λ_ _=>DZ N=some r) ?_ ?_)))))))
 ·refine A3 (λX=>λa w=>∃(A:Int),IV B S h (19,[]) a w [(7,vI (↑m.length:Int)),(0,c),(1,(.func (.func H) #[] I)),(8,vI A)] (L) λ_ _=>AE A∧CS N m q (DZ N) X A=some r) N ?_ ?_ ?_
  ·intro t u i j
   exact⟨0,_,_,i.sub (kp [7,0,1,8] O),j,hs,(B9.refl S h),(iq (n:=0) O),E⟩
  ·rintro t u ⟨_,_,_,_,_,_,_,_,E⟩
   rw[CS] at E;cases E
  rintro X t u ⟨A,Y,Z,i,j,g,k,r9,E⟩
  refine Ac ?_ i j
  clear i j u t
  rw[CS] at E
  refine AH (Ao O (AM (kp [9,7,0,1,8] O) (AC (AX O E (λM E=>?_) (λM E=>?_)))))
  ·refine AO (AC (A8 (AH (AA O (AL O (kp [5,7,0,1,8] O) (AC (Bt (.inl O) g (AA O (AA O (AA O ?_))))))))))
   obtain⟨ab,C,E⟩:=bd E
   refine A9 O O (p.mono' k) BR C O λac Q=>Ag Bg g.1 O Q Ae O λU=>?_
   obtain⟨ad,D,E⟩:=bd E
   refine A5 O O O J O (λh' o=>K _ h' (λb hb=>Nat.lt_of_lt_of_le (g.1 b (k.sub b hb)) o.siz) (λb hb=>(o.same b (g.1 b (k.sub b hb))).trans (k.same b hb)) [] (St.all h') _ _ U D) (BQ (kp [16,5,7,0,1,8] O) λae z F=>AX O E (λV E=>?_) (λV E=>?_))
   ·refine AH (AA O (AL O (kp [4] O) (Ad (λt u i j=>?_))))
    cases E
    exact Dr i j O O (k.trans F) ⟨O,r9,z⟩
   refine AO (BP (BY (.inl O) (Ai O (AA O (AM (kp [8,7,0,1] O) (WF.nil (λt u i j=>?_)))))))
   exact⟨(BM (A+1)),_,_,i.sub (kp [7,0,1,8] O),j,z,(k.trans F),(BG _),E⟩
  refine BA O (λt u i j=>?_)
  exact⟨_,_,i.sub Ov,j,g,k,E⟩
 rintro t u ⟨af,ag,i,j,G,W,E⟩
 refine Ac ?_ i j
 clear i j u t
 rw[DZ] at E
 refine AH (AL O (kp [4] O) (Ad (λt u i j=>?_)))
 cases E
 exact Dr i j O O W ⟨O,(iq (n:=(-1)) O),G⟩
theorem JX (hs:St S L h) {a:Value}{g:(List Int)}(d:Sl S h AN.int a g) {b:Value}{i:(Int→Option Bool)}(c:Rd S h (AN.fn Tryz.prog (λx:Int=>([vI x]:List Value)) (λx:Int=>AE x) (λy:Bool=> .bool y) (λy:Bool=>True)) b i) {r:Bool}(E:Ec N g i=some r):
 CL Tryz.prog 99 #[a,b] S h (λv S' h'=>v= .bool r∧St S' (L) h'):=by
 refine BF (l:=[a,b]) 9 Tryz.func99 O Tryz.ntmps99 O λB=>?_
 rw[Ec] at E
 obtain⟨n,p,rfl,q,s⟩:=c.fn
 refine AH (AL O (kp [0,1] O) (AC (Bt (.inl O) hs (AA O (AA O ?_)))))
 obtain⟨z,j,E⟩:=bd E
 refine CX O O O aT O (λh' o=>KB (St.all h') (d.mono' (o.all hs.1)) (c.mono (o.all hs.1)) j) λt=>?_
 have A:=t
 refine Gb O (AY O (BQ (kp [4] O) λC k m=>Ad (λD F u w=>?_)))
 cases E
 exact Dr u w O O m ⟨O,k⟩
theorem OH (hs:St S L h) {a:Int}(b:AE a) {r:Bool}(E:Gq N a=some r):
 CL Tryz.prog 100 #[vI a] S h (λv S' h'=>v= .bool r∧St S' (L) h'):=by
 refine BF (l:=[vI a]) 5 Tryz.func100 O Tryz.ntmps100 O λB=>?_
 rw[Gq] at E
 refine AH (AL O (kp [0] O) (AH (AA O (Bk O (AL O (kp [2] O) (Ad (λg i c d=>?_)))))))
 cases E
 exact Dr c d O O (B9.refl S h) ⟨O,hs⟩
theorem Pm (hs:St S L h) {c:Int}(m:AE c) {a:Int}(n:AE a) {d:Value}{i:(List Int)}(g:Sl S h AN.int d i) {r:(List Av)}(E:JN N c a i=some r):
 CL Tryz.prog 87 #[vN,vI c,vI a,d] S h (λv S' h'=>St S' (OS Ar 60 v r::L) h'):=by
 refine BF (l:=[vN,vI c,vI a,d]) 32 Tryz.func87 O Tryz.ntmps87 O λB=>?_
 rw[JN] at E
 refine AH (AL O (kp [0,1,2,3] O) (AH (AA O (AA O (M1 O Im O (AA O (M1 O Im O (Yl O O O Im O (AL O (kp [9,1,2,3] O) (AC (AC (Bt (.inl O) hs (AA O (Ao O (AA O ?_)))))))))))))))
 obtain⟨b2,j,E⟩:=bd E
 refine AV 4 22 (.bool b2) ?_ ?_
 ·cases c1:(decide (a<0))
  ·have j:=GM c1 j
   refine AB O (AA O (AB O ?_))
   have M:Rd S h (AN.fn Tryz.prog (λx:Int=>([vI x]:List Value)) (λx:Int=>AE x) (λy:Bool=> .bool y) (λy:Bool=>True)) (.func (.func 100) #[] #[]) (λx=>Gq N x):=Rd.ofFn 100 #[] aY λS' h' s' e' L hs x y h1 h2=>(OH hs h1 h2).mono λ_ _ _ _ p=>⟨p.1,trivial,p.2⟩
   obtain⟨y4,Q,j⟩:=bd j
   refine A5 O O O eT O (λh' o=>JX (St.all h') (g.mono' (o.all hs.1)) (M.mono (o.all hs.1)) Q) (AB O (BZ O (AJ O ?_)))
   cases j
   exact AU O
  have j:=GL c1 j
  cases j
  exact Aa O O
 refine BQ (kp [22,9,1,2,3] O) λh6 u U=>AX O E (λc9 E=>?_) (λc9 E=>?_)
 ·refine AH (AA O (AL O (kp [8] O) (Ad (λaa ww V W=>?_))))
  have A:=u.nil Ar 60
  cases E
  exact Dr V W O O U A
 refine AO (WF.sl (AI 4 (AA O (AA O (AA O (AA O (AG ?_)))))))
 obtain⟨z,C,E⟩:=bd E
 refine Bf O O O P5 O u (DE (St.all _) ((g.mono' U).mono (λb hb=>u.1 b hb) (λ_ _=>rfl)) C) λaf ag ah ae X Y p=>?_
 have D:=p
 have s:=u.join Y D ⟨OS.flat (λ{_ _ _ _ _ _} k=>k),trivial⟩
 simp only[List.cons_append,List.nil_append] at s
 refine AI 1 ?_
 obtain⟨w,t,rfl,ai⟩:=s.oslen mh
 refine H1 (cs:=[vI c,vI a,(.slice w z.length t)]) ZC O O O (AG (D0 (cs:=[vI c,vI a,(.slice w z.length t)]) Qp O O O O O O O s λaj ak F Z=>?_))
 have G:=F.nil Ar 60
 obtain⟨al,H,ab,ac⟩:=G.pubs (.tail (.tail .head))
 obtain⟨I,E⟩:=MU E
 refine U2 (r:=Ar) (l:=([]:List Av)) (xs:=([(⟨c,a,z⟩:Av)]:List Av)) O O Qp O (mt mh) ⟨_,_,O,⟨_,O,m,n,ac⟩,O⟩ O O I O H (λ_=> .head) λam an J ad=>?_
 have K:=J.drop (.tail .head)
 refine AI 1 (AY O (AG (AZ (kp [8] O) (Ad (λaa ww V W=>?_)))))
 cases E
 exact Dr V W O O (U.trans (X.trans (Z.trans (ab.trans ad)))) K
theorem JA {d:Nat}{p0_w:An}{Q:Value}{U:Value}{V:Value}{W:Value}{Y:Value}{Z:Value}{ab:Value}{ac:Value}{H:Value}{I:Value}{J:Value}{K:Value}{M:Value}{w:Value}{z:Value}{A:Value}{C:Value}{D:Value}{af:Value}{ai:Value}{F:Value}{ae:Value}(hs:St S (Bx d 84 [.string p0_w.b.Name,Q,vI p0_w.b.Cells,U,V,W,Y,Z,ab,ac,vI p0_w.b.Err,H,I,J,K,M,vI p0_w.s.Hour,w,z,A,C,D,af,ai,F,ae]::OS (AN.sl AN.int) 29 w p0_w.s.Own::OS AN.int 3 z p0_w.s.Rem::OS Ar 60 A p0_w.s.Queue::OS BE 69 C p0_w.s.Gates::OS AN.int 3 D p0_w.s.In::OS AN.int 3 af p0_w.s.Out::OS BJ 50 ai p0_w.moves::OS AN.int 3 F p0_w.peaks::OS Ar 60 ae p0_w.sent::L) h) (c0:p0_w.b.Name.size≤maxLen) (c1:Sl S h AN.str Q p0_w.b.Owners) (c2:AE p0_w.b.Cells) (c3:Sl S h B1 U p0_w.b.Places) (c4:Sl S h Bv V p0_w.b.Links) (c5:Sl S h GQ W p0_w.b.Towns) (c6:Sl S h EV Y p0_w.b.Gauges) (c7:Sl S h Fp Z p0_w.b.Roads) (c8:Sl S h Cx ab p0_w.b.Shelters) (c9:Sl S h AN.int ac p0_w.b.Room) (b0:AE p0_w.b.Err) (b1:Sl S h AN.int H p0_w.in_.Rain) (b2:Sl S h FM I p0_w.in_.Faults) (b3:Sl S h Ic J p0_w.in_.Cmds) (b4:Sl S h FO K p0_w.in_.Takes) (b5:Sl S h GC M p0_w.in_.Swaps) (al:AE p0_w.s.Hour) {g:Int}(a2:AE g) {aq:Value}{c:AK}(br:Rd S h Au aq c) {r:(List (List Int))×(List Int)×(List Ah)×(List Av)}(E:Fk N p0_w g c=some r):
 CL Tryz.prog 64 #[vP d 0,vI g,aq] S h (λv S' h'=>∃w_0_17 w_0_22 w_0_23 w_0_25:Value,v= .tuple #[]∧St S' (Bx d 84 [.string p0_w.b.Name,Q,vI p0_w.b.Cells,U,V,W,Y,Z,ab,ac,vI p0_w.b.Err,H,I,J,K,M,vI p0_w.s.Hour,w_0_17,z,A,C,D,w_0_22,w_0_23,F,w_0_25]::OS (AN.sl AN.int) 29 w_0_17 r.1::OS AN.int 3 z p0_w.s.Rem::OS Ar 60 A p0_w.s.Queue::OS BE 69 C p0_w.s.Gates::OS AN.int 3 D p0_w.s.In::OS AN.int 3 w_0_22 r.2.1::OS BJ 50 w_0_23 r.2.2.1::OS AN.int 3 F p0_w.peaks::OS Ar 60 w_0_25 r.2.2.2::L) h'):=by
 refine BF (l:=[vP d 0,vI g,aq]) 89 Tryz.func64 O Tryz.ntmps64 O λB=>?_
 rw[Fk] at E
 refine WF.sl (B3 O br (λe=>by cases e) O hs λq1 S2 h3 u e5 k6=>AZ (kp [5,0,1] O) (AC ?_))
 obtain⟨h8,da,E⟩:=bd E
 obtain⟨b6,db,E⟩:=bd E
 obtain⟨t,dc,E⟩:=bd E
 refine Yg (m:=[(5,q1),(0,vP d 0),(1,vI g)]) [] [] [] (λX i v G=>match i with|0=>Pt S2 G (AN.fnr Tryz.prog (λS h vs (x:(List Int))=>∃w0:Value,vs=[w0]∧Sl S h AN.int w0 x) (λS h v (y:((List Int)×(List Int)))=>∃w0 w1:Value,v= .tuple #[w0,w1]∧Sl S h AN.int w0 y.1∧Sl S h AN.int w1 y.2)) v c.take|1=>Rd S2 G (AN.fnr Tryz.prog (λS h vs (x:(List Int))=>∃w0:Value,vs=[w0]∧Sl S h AN.int w0 x) (λS h v (y:((List Int)×(List Int)))=>∃w0 w1:Value,v= .tuple #[w0,w1]∧Sl S h AN.int w0 y.1∧Sl S h AN.int w1 y.2)) v c.take|2=>v=vP d 0|3=>v=vP d 0|4=>v=vP d 16|5=>v=vP d 17|6=>v=w|7=>v=vI g∧AE g|8=>EP w (g.toNat*((AN.sl AN.int)).sz+0) v|9=>Sl S2 G AN.int v b6|10=>∃w0 w1:Value,v= .tuple #[w0,w1]∧(Sl (SX S2 h3 G X) G AN.int w0 t.1)∧(Sl (SX S2 h3 G X) G AN.int w1 t.2)|11=>∃w0 w1:Value,v= .tuple #[w0,w1]∧(Sl (SX S2 h3 G X) G AN.int w0 t.1)∧(Sl (SX S2 h3 G X) G AN.int w1 t.2)|12=>Sl (SX S2 h3 G X) G AN.int v t.1|13=>Sl (SX S2 h3 G X) G AN.int v t.2|14=>Sl (SX S2 h3 G X) G AN.int v t.1|15=>Sl (SX S2 h3 G X) G AN.int v t.2|_=>False) [[],[(0,9)],[],[(2,11)],[(3,12)],[(4,13)],[(5,14)],[],[(6,15),(7,16)],[(8,17)],[(1,10),(9,18)],[(10,19)],[(11,8)],[(11,8)],[(12,20)],[(13,21)]] [(14,6),(15,7)] mo (by kernel_rfl) [5,0,1] O (by kernel_rfl) (by kernel_rfl) (by kernel_rfl) O (kp [5,0,1] O) (λi v h1 h2 X X' o1 o2 u1 u2 hr=>?_) (by kernel_rfl) Yb ?_ ?_ ?_
 ·match i,hr with
   |0,hr=>exact(N6.mono hr (o2.ext λb hb=>Nat.lt_of_lt_of_le (u.1 b hb) o1.siz))
   |1,hr=>exact(Rd.mono hr (o2.ext λb hb=>Nat.lt_of_lt_of_le (u.1 b hb) o1.siz))
   |2,hr|3,hr|4,hr|5,hr|6,hr|7,hr|8,hr=>exact hr
   |9,hr=>exact(Sl.mono' hr (o2.ext λb hb=>Nat.lt_of_lt_of_le (u.1 b hb) o1.siz))
   |10,hr|11,hr=>obtain⟨w0,w1,e,k0,k1⟩:=hr;exact⟨w0,w1,e,(Sl.mono' k0 (SX.mono u.1 o1 o2 u1 u2)),(Sl.mono' k1 (SX.mono u.1 o1 o2 u1 u2))⟩
   |12,hr|13,hr|14,hr|15,hr=>exact(Sl.mono' hr (SX.mono u.1 o1 o2 u1 u2))
   |_+16,hr=>exact hr.elim
 ·exact trivial
 ·refine GY.cons O O O ?_ ?_
  ·intro X mq G o hX
   have hsN:=o.st u
   exact AI 1 (Af O (k6.mono (o.ext u.1)) N7 W8 O λh9 fl=>AQ fl)
  refine GY.cons O O O ?_ ?_
  ·intro X mq G o hX
   intro fm b7
   have hsN:=o.st u
   have b7:Pt _ _ (AN.fnr Tryz.prog (λS h vs (x:(List Int))=>∃w0:Value,vs=[w0]∧Sl S h AN.int w0 x) (λS h v (y:((List Int)×(List Int)))=>∃w0 w1:Value,v= .tuple #[w0,w1]∧Sl S h AN.int w0 y.1∧Sl S h AN.int w1 y.2)) fm c.take:=b7
   exact AI 1 (B6 A6 hsN.1 O b7 Zs (λ_=>rfl) O λia fn=>AQ fn)
  refine GY.cons O O O ?_ ?_
  ·intro X mq G o hX
   have hsN:=o.st u
   exact AI 1 (AA O (AQ O))
  refine GY.cons O O O ?_ ?_
  ·intro X mq G o hX
   intro ib fo
   have hsN:=o.st u
   cases fo
   exact AI 1 (CN O O (AQ O))
  refine GY.cons O O O ?_ ?_
  ·intro X mq G o hX
   intro ic fp
   have hsN:=o.st u
   cases fp
   exact AI 1 (AD CZ O (AQ O))
  refine GY.cons O O O ?_ ?_
  ·intro X mq G o hX
   intro ie fq
   have hsN:=o.st u
   cases fq
   exact AI 1 (AD D2 O (AQ O))
  refine GY.cons O O O ?_ ?_
  ·intro X mq G o hX
   intro ig fr
   have hsN:=o.st u
   cases fr
   exact AI 1 (AT A6 hsN O mh O G9 O (AQ O))
  refine GY.cons O O O ?_ ?_
  ·intro X mq G o hX
   have hsN:=o.st u
   exact AI 1 (AA O (AQ ⟨O,a2⟩))
  refine GY.cons O O O ?_ ?_
  ·intro X mq G o hX
   intro ih fs ii ft
   have hsN:=o.st u
   cases fs
   obtain⟨rfl,ij⟩:=ft
   exact AI 1 (A0 hsN (mt mh) O O E3 da O λik dd=>AQ dd)
  refine GY.cons O O O ?_ ?_
  ·intro X mq G o hX
   intro il fu
   have hsN:=o.st u
   refine AI 1 ?_
   have fv:=hsN.epAt (mt mh) db FL.id fu
   exact Al A6 (λ_ x=>x) O fv BX O λim fw=>AQ fw
  refine GY.cons O O O ?_ ?_
  ·intro X mq G o hX
   intro fx a6 fy a7
   have hsN:=NS (X:=X) u o
   have a6:=Rd.mono (S':=(SX S2 h3 G X)) a6 ⟨λb hb=>(SX.ext u.1 o hX).sub b hb,λ_ _=>rfl,Nat.le_refl _⟩
   have a6:Rd _ _ (AN.fnr Tryz.prog (λS h vs (x:(List Int))=>∃w0:Value,vs=[w0]∧Sl S h AN.int w0 x) (λS h v (y:((List Int)×(List Int)))=>∃w0 w1:Value,v= .tuple #[w0,w1]∧Sl S h AN.int w0 y.1∧Sl S h AN.int w1 y.2)) fx c.take:=a6
   have a7:=Sl.mono' (S':=(SX S2 h3 G X)) a7 ⟨λb hb=>(SX.ext u.1 o hX).sub b hb,λ_ _=>rfl,Nat.le_refl _⟩
   have a7:Sl _ _ AN.int fy b6:=a7
   have hsF:=hsN.fz
   obtain⟨gi,gj,rfl,de,df⟩:=a6.fnr
   refine Ct O O O de O (df _ _ (λb hb=>(B9.refl (SX S2 h3 G X) G).sub b hb) (λb hb=>(B9.refl (SX S2 h3 G X) G).same b hb) _ hsF b6 _ _ ⟨_,O,a7⟩ dc) λio ip ir f0 p=>?_
   obtain⟨⟨it,iu,rfl,f1,f2⟩,dg⟩:=p
   have a8:=SX.done o hX f0 dg
   exact C1 a8.1 ⟨_,_,O,(Sl.mono' f1 a8.2),(Sl.mono' f2 a8.2)⟩
  refine GY.cons O O O ?_ ?_
  ·intro X mq G o hX
   intro iv f3
   have hsN:=NS (X:=X) u o
   obtain⟨f4,f5,rfl,b8,b9⟩:=f3
   have b8:Sl _ _ AN.int f4 t.1:=b8
   have b9:Sl _ _ AN.int f5 t.2:=b9
   exact AI 1 (AA O (AQ ⟨_,_,O,b8,b9⟩))
  refine GY.cons O O O ?_ ?_
  ·intro X mq G o hX
   intro iw f6
   have hsN:=NS (X:=X) u o
   obtain⟨f7,f8,rfl,ca,dh⟩:=f6
   have ca:Sl _ _ AN.int f7 t.1:=ca
   have dh:Sl _ _ AN.int f8 t.2:=dh
   exact AI 1 (Bo O (AQ ca))
  refine GY.cons O O O ?_ ?_
  ·intro X mq G o hX
   intro iy f9
   have hsN:=NS (X:=X) u o
   obtain⟨ga,gb,rfl,di,cb⟩:=f9
   have di:Sl _ _ AN.int ga t.1:=di
   have cb:Sl _ _ AN.int gb t.2:=cb
   exact AI 1 (Bo O (AQ cb))
  refine GY.cons O O O ?_ ?_
  ·intro X mq G o hX
   intro gc cc
   have hsN:=NS (X:=X) u o
   have cc:Sl _ _ AN.int gc t.1:=cc
   exact AI 1 (AY O (AQ cc))
  refine GY.cons O O O ?_ ?_
  ·intro X mq G o hX
   intro gd a9
   have hsN:=NS (X:=X) u o
   have a9:Sl _ _ AN.int gd t.2:=a9
   exact AI 1 (AY O (AQ a9))
  exact trivial
 intro ag X103 am hX104 ba ao dj bb ge gf
 have a0:=(Zf.nil u am hX104).st
 have ao:Sl _ _ AN.int ba t.1:=ao
 have bb:Sl _ _ AN.int dj t.2:=bb
 refine AZ (kp [7,6,5,0,1] O) (WF.sl (AI 8 (AA O (CN O O (AD CZ O (AD D2 O (AT A6 a0 O mh O G9 O (AA O (AA O ?_)))))))))
 obtain⟨gk,cd,E⟩:=bd E
 refine A0 a0 (mt mh) O O E3 cd O λgl ce=>AG ?_
 obtain⟨dk,cf,E⟩:=bd E
 refine Er (r:=(AN.sl AN.int)) (l:=p0_w.s.Own) (i:=g) (x:=dk) O O (M0 bb) ce cf Lr.id BX (λ_=>rfl) a0 (.tail .head) λgm bc ah=>AZ (kp [6,5,0,1] O) (AC (AC (Bt (.inl O) bc (AA O ?_))))
 obtain⟨gn,cg,E⟩:=bd E
 refine CX O O O NG O (λh' o=>Ek (St.all h') ((ao.mono' ah).mono' (o.all bc.1)) cg) λdl=>?_
 have gp:=dl
 refine Fv O (BQ (kp [32,6,5,0,1] O) λan j aj=>AX O E (λdm E=>?_) (λdm E=>?_))
 ·refine Ad (λaa ww hf hw=>?_)
  cases E
  exact KD hf O hw KC O (e5.trans ((SX.ext u.1 am hX104).trans (ah.trans aj))) ⟨_,_,_,_,O,j⟩
 refine AO (AC (Tx (m:=[(6,ba),(5,q1),(0,vP d 0),(1,vI g)]) 18 [0] (λi v G=>match i with|0=>v=vP d 0|1=>v=vP d 0|2=>v=vP d 0|3=>v=vP d 23|4=>v=ai|5=>v=vP d 0|6=>v=vP d 0|7=>v=vP d 16|8=>v=vP d 16|9=>v=vI p0_w.s.Hour∧AE p0_w.s.Hour|10=>v=vI g∧AE g|11=>Pt (SX S2 h3 ag X103) G AN.int v c.to_|12=>v=vI c.to_∧AE c.to_|13=>Pt (SX S2 h3 ag X103) G AN.int v c.way|14=>v=vI c.way∧AE c.way|15=>Sl (SX S2 h3 ag X103) G AN.int v t.1|16=>Rd (SX S2 h3 ag X103) G BJ v (⟨p0_w.s.Hour,g,c.to_,c.way,t.1⟩:Ah)|17=>Sl (SN (SX S2 h3 ag X103) an G) G BJ v ([(⟨p0_w.s.Hour,g,c.to_,c.way,t.1⟩:Ah)]:List Ah)∧∃ad,v= .slice (some ad) 1 1|_=>False) [[],[],[(1,34)],[(2,35)],[(3,36)],[],[(5,38)],[(6,39)],[(7,40)],[(8,41)],[],[],[(11,44)],[],[(13,46)],[],[(9,42),(10,43),(12,45),(14,47),(15,48)],[(16,49)]] [(0,33),(4,37),(17,50)] mo (by kernel_rfl) [6,5,0,1] O (by kernel_rfl) (by kernel_rfl) (by kernel_rfl) (kp [6,5,0,1] O) (λi v h1 h2 o1 o2 hr=>?_) ?_ ?_ ?_))
 ·match i,hr with
   |0,hr|1,hr|2,hr|3,hr|4,hr|5,hr|6,hr|7,hr|8,hr|9,hr|10,hr|12,hr|14,hr=>exact hr
   |11,hr|13,hr=>exact N6.mono hr (o2.ext λb hb=>Nat.lt_of_lt_of_le (j.1 b hb) o1.siz)
   |15,hr=>exact Sl.mono' hr (o2.ext λb hb=>Nat.lt_of_lt_of_le (j.1 b hb) o1.siz)
   |16,hr=>exact Rd.mono hr (o2.ext λb hb=>Nat.lt_of_lt_of_le (j.1 b hb) o1.siz)
   |17,hr=>exact⟨Sl.mono' hr.1 (SN.mono j.1 o1 o2),hr.2⟩
   |_+18,hr=>exact hr.elim
 ·refine QE.cons [] (by kernel_rfl) O O (by kernel_rfl) ?_ ?_
  ·intro mq G o
   intro a hf
   exact⟨vP d 0,N9 hf O,O⟩
  exact trivial
 ·refine A7.cons O (λ_ _ _=>AI 1 (AA O (AQ O))) (A7.cons O (λ_ _ _=>AI 1 (AA O (AQ O))) (A7.cons O (λ_ _ _ _ dn=>by cases dn;exact AI 1 (CN O O (AQ O))) (A7.cons O (λ_ _ _ _ dp=>by cases dp;exact AI 1 (AD Np O (AQ O))) (A7.cons O (λ_ _ o _ dq=>by cases dq;exact AI 1 (AT A6 (o.st j) O mh O SL O (AQ O))) (A7.cons O (λ_ _ _=>AI 1 (AA O (AQ O))) (A7.cons O (λ_ _ _ _ dr=>by cases dr;exact AI 1 (CN O O (AQ O))) (A7.cons O (λ_ _ _ _ ds=>by cases ds;exact AI 1 (AD CZ O (AQ O))) (A7.cons O (λ_ _ _ _ dt=>by cases dt;exact AI 1 (AD IM O (AQ O))) (A7.cons O (λ_ _ o _ du=>by cases du;exact AI 1 (AT A6 (o.st j) O mh O Ae O (AQ ⟨O,al⟩))) (A7.cons O (λ_ _ _=>AI 1 (AA O (AQ ⟨O,a2⟩))) (A7.cons O (λ_ _ o=>AI 1 (Af O (k6.mono ((SX.ext u.1 am hX104).trans (ah.trans (aj.trans (o.ext j.1))))) Jg Pz O λgq dv=>AQ dv)) ?_)))))))))))
  refine A7.cons O (λ_ _ o dw be=>by have be:Pt _ _ AN.int dw c.to_:=be;exact AI 1 (Ag A6 (o.st j).1 O be Ae O λdx=>AQ ⟨O,dx⟩)) (A7.cons O (λ_ _ o=>AI 1 (Af O (k6.mono ((SX.ext u.1 am hX104).trans (ah.trans (aj.trans (o.ext j.1))))) ON W9 O λgr dy=>AQ dy)) (A7.cons O (λ_ _ o dz bf=>by have bf:Pt _ _ AN.int dz c.way:=bf;exact AI 1 (Ag A6 (o.st j).1 O bf Ae O λd0=>AQ ⟨O,d0⟩)) (A7.cons O (λ_ _ o=>AI 1 (AA O (AQ (ao.mono' (ah.trans (aj.trans (o.ext j.1))))))) ?_)))
  refine A7.cons O ?_ ?_
  ·intro mq G o
   intro gs d1 gt d2 gu d3 gv d4 d5 a3
   have hsN:=o.st j
   obtain⟨rfl,d6⟩:=d1
   obtain⟨rfl,d7⟩:=d2
   obtain⟨rfl,d8⟩:=d3
   obtain⟨rfl,d9⟩:=d4
   have a3:Sl _ _ AN.int d5 t.1:=a3
   refine AI 1 ?_
   obtain⟨ch,bs,rfl,gw⟩:=(a3).len
   exact H1 (cs:=[vI p0_w.s.Hour,vI g,vI c.to_,vI c.way,(.slice ch t.1.length bs)]) ZD O O O (AQ (BJ.mk (x:=(⟨p0_w.s.Hour,g,c.to_,c.way,t.1⟩:Ah)) d6 d7 d8 d9 a3))
  refine A7.cons O ?_ ?_
  ·intro mq G o
   intro ea au
   have hsN:=SN.st j o
   have au:=Rd.mono (S':=(SN (SX S2 h3 ag X103) an G)) au ⟨λb hb=> .inl hb,λ_ _=>rfl,Nat.le_refl _⟩
   have au:Rd _ _ BJ ea (⟨p0_w.s.Hour,g,c.to_,c.way,t.1⟩:Ah):=au
   have hsF:=hsN.fz
   obtain⟨gx,rfl,eb,ec,ed,ee,bu⟩:=BJ.ex au
   obtain⟨ci,bt,rfl,gy⟩:=(bu).len
   refine D0 (cs:=[vI ((⟨p0_w.s.Hour,g,c.to_,c.way,t.1⟩:Ah).Hour),vI ((⟨p0_w.s.Hour,g,c.to_,c.way,t.1⟩:Ah).From),vI ((⟨p0_w.s.Hour,g,c.to_,c.way,t.1⟩:Ah).To),vI ((⟨p0_w.s.Hour,g,c.to_,c.way,t.1⟩:Ah).Way),(.slice ci ((⟨p0_w.s.Hour,g,c.to_,c.way,t.1⟩:Ah).Part).length bt)]) Uo O O O O O O O hsF λgz g0 cj bv=>?_
   have ef:=bu.mono' bv
   have ck:=cj.bxos (r:=BJ) (l:=([(⟨p0_w.s.Hour,g,c.to_,c.way,t.1⟩:Ah)]:List Ah)) .head ⟨_,_,O,⟨_,O,eb,ec,ed,ee,ef⟩,O⟩ (by simp [maxLen])
   obtain⟨g1,cl,eg,eh⟩:=ck.pubs .head
   have bg:=Fz.done o (bv.trans eg) cl
   exact C1 bg.1 ⟨Sl.mono' eh bg.2,_,O⟩
  exact trivial
 intro av ap g2 ei g3 ej g4 bh
 have cm:=SN.st j ap
 cases ei
 cases ej
 obtain⟨bh,gg,rfl⟩:=bh
 obtain⟨cn,E⟩:=MU E
 refine JT (r:=BJ) (l:=p0_w.moves) (xs:=([(⟨p0_w.s.Hour,g,c.to_,c.way,t.1⟩:Ah)]:List Ah)) O O Uo O (Sl.src bh) O cn O cm (λ_=>(.tail (.tail (.tail (.tail (.tail (.tail (.tail .head)))))))) λg5 g6 bi aw=>AI 2 (CN O O (AD Np O (AG ?_)))
 obtain⟨ar,ak,rfl,g7⟩:=bi.oslen (mt (mt (mt (mt (mt (mt (mt mh)))))))
 refine H2 (vs:=[(.slice ar (p0_w.moves++([(⟨p0_w.s.Hour,g,c.to_,c.way,t.1⟩:Ah)]:List Ah)).length ak)]) (cs':=[.string p0_w.b.Name,Q,vI p0_w.b.Cells,U,V,W,Y,Z,ab,ac,vI p0_w.b.Err,H,I,J,K,M,vI p0_w.s.Hour,w,z,A,C,D,af,(.slice ar (p0_w.moves++([(⟨p0_w.s.Hour,g,c.to_,c.way,t.1⟩:Ah)]:List Ah)).length ak),F,ae]) O O O O SL O bi .head O O λbw n ax=>AZ (kp [6,5,0] O) (AC (AH ?_))
 have co:=(SX.ext u.1 am hX104).trans (ah.trans (aj.trans ((SN.ext j.1 ap).trans (aw.trans ax))))
 have bj:=k6.mono co
 refine Af O bj Jg Pz O λg8 ek=>Ag A6 n.1 O ek Ae O λg9=>BK O (AM (kp [56,6,5,0] O) (AX O E (λel E=>?_) (λel E=>?_)))
 ·refine WF.sl (AI 7 (AA O (AA O (CN O O (AD CZ O (AD JL O (AT A6 n O mh O BX O (AA O (AG ?_)))))))))
  obtain⟨bx,cp,E⟩:=bd E
  refine Bf O O O XQ O n (Lf (St.all _) (n.oslAll (mt (mt (mt (mt (mt (mt mh))))))) ((ao.mono' (ah.trans (aj.trans ((SN.ext j.1 ap).trans (aw.trans ax))))).mono (λb hb=>n.1 b hb) (λ_ _=>rfl)) cp) λha hc hd gh em en p=>?_
  have cq:=p
  have a1:=n.join en cq ⟨OS.flat (λ{_ _ _ _ _ _} k=>k),trivial⟩
  simp only[List.cons_append,List.nil_append] at a1
  refine AI 3 (CN O O (AD CZ O (AD JL O (AG ?_))))
  obtain⟨bk,a4,rfl,he⟩:=a1.oslen mh
  refine H2 (vs:=[(.slice bk bx.length a4)]) (cs':=[.string p0_w.b.Name,Q,vI p0_w.b.Cells,U,V,W,Y,Z,ab,ac,vI p0_w.b.Err,H,I,J,K,M,vI p0_w.s.Hour,w,z,A,C,D,(.slice bk bx.length a4),(.slice ar (p0_w.moves++([(⟨p0_w.s.Hour,g,c.to_,c.way,t.1⟩:Ah)]:List Ah)).length ak),F,ae]) O O O O BX O a1 (.tail .head) O O λhg cr eo=>AZ Ov (Ad (λaa ww hf hw=>?_))
  have ct:=cr.sel [1,1,1,1,1,1,0,1,1,1] 1 O
  cases E
  exact KD hf O hw KC O (e5.trans ((SX.ext u.1 am hX104).trans (ah.trans (aj.trans ((SN.ext j.1 ap).trans (aw.trans (ax.trans (em.trans eo)))))))) ⟨_,_,_,_,O,ct⟩
 refine AO ?_
 obtain⟨ay,cu,E⟩:=bd E
 refine Tx (m:=[(6,ba),(5,q1),(0,vP d 0)]) 18 [0] (λi v G=>match i with|0=>v=vP d 0|1=>v=vP d 0|2=>v=vP d 0|3=>v=vP d 25|4=>v=ae|5=>v=vP d 0|6=>v=vP d 0|7=>v=vP d 16|8=>v=vP d 16|9=>v=vI p0_w.s.Hour∧AE p0_w.s.Hour|10=>v=vI (BM (p0_w.s.Hour+1))∧AE (BM (p0_w.s.Hour+1))|11=>Pt (SN (SX S2 h3 ag X103) an av) G AN.int v c.delay|12=>v=vI c.delay∧AE c.delay|13=>v=vI (BM ((BM (p0_w.s.Hour+1))+c.delay))∧AE (BM ((BM (p0_w.s.Hour+1))+c.delay))|14=>Pt (SN (SX S2 h3 ag X103) an av) G AN.int v c.to_|15=>v=vI c.to_∧AE c.to_|16=>Sl (SN (SX S2 h3 ag X103) an av) G AN.int v t.1|17=>Sl (SN (SN (SX S2 h3 ag X103) an av) bw G) G Ar v ay|_=>False) [[],[],[(1,69)],[(2,70)],[(3,71)],[],[(5,73)],[(6,74)],[(7,75)],[(8,76)],[(9,77)],[],[(11,79)],[(10,78),(12,80)],[],[(14,82)],[],[(13,81),(15,83),(16,84)]] [(0,68),(4,72),(17,85)] mo (by kernel_rfl) [6,5,0] O (by kernel_rfl) (by kernel_rfl) (by kernel_rfl) (kp [6,5,0] O) (λi v h1 h2 o1 o2 hr=>?_) ?_ ?_ ?_
 ·match i,hr with
   |0,hr|1,hr|2,hr|3,hr|4,hr|5,hr|6,hr|7,hr|8,hr|9,hr|10,hr|12,hr|13,hr|15,hr=>exact hr
   |11,hr|14,hr=>exact N6.mono hr (o2.ext λb hb=>Nat.lt_of_lt_of_le (n.1 b hb) o1.siz)
   |16,hr=>exact Sl.mono' hr (o2.ext λb hb=>Nat.lt_of_lt_of_le (n.1 b hb) o1.siz)
   |17,hr=>exact Sl.mono' hr (SN.mono n.1 o1 o2)
   |_+18,hr=>exact hr.elim
 ·refine QE.cons [] (by kernel_rfl) O O (by kernel_rfl) ?_ ?_
  ·intro mq G o
   intro a hf
   exact⟨vP d 0,N9 hf O,O⟩
  exact trivial
 ·refine A7.cons O (λ_ _ _=>AI 1 (AA O (AQ O))) (A7.cons O (λ_ _ _=>AI 1 (AA O (AQ O))) (A7.cons O (λ_ _ _ _ ep=>by cases ep;exact AI 1 (CN O O (AQ O))) (A7.cons O (λ_ _ _ _ eq=>by cases eq;exact AI 1 (AD Rh O (AQ O))) (A7.cons O (λ_ _ o _ er=>by cases er;exact AI 1 (AT A6 (o.st n) O mh O Ju O (AQ O))) (A7.cons O (λ_ _ _=>AI 1 (AA O (AQ O))) (A7.cons O (λ_ _ _ _ es=>by cases es;exact AI 1 (CN O O (AQ O))) (A7.cons O (λ_ _ _ _ et=>by cases et;exact AI 1 (AD CZ O (AQ O))) (A7.cons O (λ_ _ _ _ eu=>by cases eu;exact AI 1 (AD IM O (AQ O))) (A7.cons O (λ_ _ o _ ev=>by cases ev;exact AI 1 (AT A6 (o.st n) O mh O Ae O (AQ ⟨O,al⟩))) (A7.cons O (λ_ _ _ _ ew=>by obtain⟨rfl,hi⟩:=ew;exact AI 1 (Ai O (AQ ⟨O,(BG _)⟩))) (A7.cons O (λ_ _ o=>AI 1 (Af O (bj.mono (o.ext n.1)) NV XA O λhj ey=>AQ ey)) ?_)))))))))))
  refine A7.cons O (λ_ _ o ez bl=>by have bl:Pt _ _ AN.int ez c.delay:=bl;exact AI 1 (Ag A6 (o.st n).1 O bl Ae O λe0=>AQ ⟨O,e0⟩)) (A7.cons O (λ_ _ _=>by intro hk e1 hl e2;obtain ⟨rfl,hm⟩:=e1;obtain ⟨rfl,hn⟩:=e2;exact AI 1 (Ai O (AQ ⟨O,(BG _)⟩))) (A7.cons O (λ_ _ o=>AI 1 (Af O (bj.mono (o.ext n.1)) Jg Pz O λho e3=>AQ e3)) (A7.cons O (λ_ _ o e4 bm=>by have bm:Pt _ _ AN.int e4 c.to_:=bm;exact AI 1 (Ag A6 (o.st n).1 O bm Ae O λe6=>AQ ⟨O,e6⟩)) (A7.cons O (λ_ _ o=>AI 1 (AA O (AQ (ao.mono' (ah.trans (aj.trans ((SN.ext j.1 ap).trans (aw.trans (ax.trans (o.ext n.1)))))))))) ?_))))
  refine A7.cons O ?_ ?_
  ·intro mq G o
   intro hp e7 hq e8 e9 az
   have hsN:=SN.st n o
   obtain⟨rfl,fb⟩:=e7
   obtain⟨rfl,fc⟩:=e8
   have az:=Sl.mono' (S':=(SN (SN (SX S2 h3 ag X103) an av) bw G)) az ⟨λb hb=> .inl hb,λ_ _=>rfl,Nat.le_refl _⟩
   have az:Sl _ _ AN.int e9 t.1:=az
   have hsF:=hsN.fz
   refine Ct O O O eX O (Pm hsF fb fc az cu) λht hu hv fd p=>?_
   have cv:=p
   obtain⟨hx,cw,fe,ff⟩:=cv.pubs .head
   have bn:=Fz.done o (fd.trans fe) cw
   exact C1 bn.1 (Sl.mono' ff bn.2)
  exact trivial
 intro hy bz hz fg h0 fh fi bo
 have cx:=SN.st n bz
 cases fg
 cases fh
 have bo:Sl _ _ Ar fi ay:=bo
 obtain⟨cy,E⟩:=MU E
 refine JT (r:=Ar) (l:=p0_w.sent) (xs:=ay) O O Qp O (Sl.src bo) O cy O cx (λ_=>(.tail (.tail (.tail (.tail (.tail (.tail (.tail (.tail (.tail .head)))))))))) λh4 h5 bp fj=>AI 2 (CN O O (AD Rh O (AG ?_)))
 obtain⟨bq,a5,rfl,h6⟩:=bp.oslen (mt (mt (mt (mt (mt (mt (mt (mt (mt mh)))))))))
 refine H2 (vs:=[(.slice bq (p0_w.sent++ay).length a5)]) (cs':=[.string p0_w.b.Name,Q,vI p0_w.b.Cells,U,V,W,Y,Z,ab,ac,vI p0_w.b.Err,H,I,J,K,M,vI p0_w.s.Hour,w,z,A,C,D,af,(.slice ar (p0_w.moves++([(⟨p0_w.s.Hour,g,c.to_,c.way,t.1⟩:Ah)]:List Ah)).length ak),F,(.slice bq (p0_w.sent++ay).length a5)]) O O O O Ju O bp .head O O λh7 cz fk=>AZ Ov (WF.nil (λaa ww hf hw=>?_))
 cases E
 exact KD hf O hw KC O (e5.trans ((SX.ext u.1 am hX104).trans (ah.trans (aj.trans ((SN.ext j.1 ap).trans (aw.trans (ax.trans ((SN.ext n.1 bz).trans (fj.trans fk))))))))) ⟨_,_,_,_,O,cz⟩
end Go.Proofs.YtblcgjadhemlbaaGreat
