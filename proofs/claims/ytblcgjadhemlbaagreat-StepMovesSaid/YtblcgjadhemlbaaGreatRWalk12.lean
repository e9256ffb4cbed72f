import Derived.Test.YtblcgjadhemlbaaGreatRWalk11
namespace Go.Proofs.YtblcgjadhemlbaaGreat
open Go.RowKit
set_option linter.unusedVariables false
set_option linter.unusedSimpArgs false
set_option maxRecDepth 10000
set_option maxHeartbeats 2000000
variable {N:Nat}{S:Nat→Prop}{L:List HP}{h:Aw}
theorem G4 (hs:St S L h) {b:Int}(m:AH b) {r:(List AL)}(E:Bz N b=some r):
 CL Tryz.prog 82 #[vN,vI b] S h (λv S' h'=>St S' (OS Av 111 v r::L) h'):=by
 refine BG (l:=[vN,vI b]) 27 Tryz.func82 O Tryz.ntmps82 O λB=>?_
 rw[Bz] at E
 refine AI (AK O (kp [0,1] O) (AC (AI (AA O (Ar O (AN (kp [6,0,1] O) (AW O E (λC E=>?_) (λC E=>?_))))))))
 ·cases E
 refine AQ (AC (AI (AA O (AA O (Uk O Le O (AA O (M8 O Le O (Ck O (Ck O (AK O (kp [1,0] O) (AI (AA O (Bf O (AN (kp [16,1,0] O) (Ge (λa w=>∃(p:Value) (s:List AL),IV B S h (27,[]) a w [(0,p)] (OS Av 111 p s::L) λ_ _=>Bk N s=some r) ?_ ?_)))))))))))))))
 ·refine AW O E (λD E=>?_) (λD E=>?_)
  ·refine D3 (AG 5 (AA O (AA O (Uk O Le O (aO O O Le O (AA O (AF ?_)))))))
   obtain⟨t,E⟩:=Lr E
   obtain⟨u,E⟩:=Lr E
   refine Yf O O LD iJ (of_decide_eq_true t) u O O hs λF G H I J x y g z=>AG 4 (AA O (M8 O Le O (aN O O Le O ?_)))
   have i:=XH (r:=Av) (l:=([]:List AL)) g (Nat.zero_le _) x y V4
   refine AY O (AF (AZ (kp [0] O) (WF.nil (λn o c d=>?_))))
   exact⟨(.slice (some ⟨F,0,none⟩) 0 G),([]:List AL),_,_,c.sub (kp [0] O),d,i,z,E⟩
  refine AQ (WF.nil (λn o c d=>?_))
  have j:=hs.nil Av 111
  exact⟨(vN),([]:List AL),_,_,c.sub (kp [0] O),d,j,(CA.refl S h),E⟩
 rintro n o ⟨p,s,K,M,c,d,k,A,E⟩
 refine Ac ?_ c d
 clear c d o n
 rw[Bk] at E
 refine AI (AA O (AK O (kp [4] O) (Ad (λn o c d=>?_))))
 cases E
 exact Dx c d O O A k
theorem Gm (hs:St S L h) {b:Value}{c:(List (List AL))}(d:Sl S h (AM.sl Av) b c) {r:(List AL)}(E:Bp N c=some r):
 CL Tryz.prog 61 #[b] S h (λv S' h'=>St S' (OS Av 111 v r::L) h'):=by
 refine BG (l:=[b]) 36 Tryz.func61 O Tryz.ntmps61 O λB=>?_
 rw[Bp] at E
 refine AI (AK O (kp [0] O) (AI (AK O (kp [3,0] O) (AC (AI (AA O (An O d RC O λb1=>AA O (AN (kp [11,10,9,3,0] O) (Am (λa w=>∃(i2:Int),IV B S h (36,[]) a w [(0,b),(3,vI i2)] (L) λ_ _=>AH i2∧Bg N c i2=some r) ?_ ?_)))))))))
 ·refine A5 (λn1=>λa w=>∃(G:Int) (o:Int),IV B S h (36,[]) a w [(10,vI (↑c.length:Int)),(9,b),(0,b),(3,vI G),(11,vI o)] (L) λ_ _=>AH G∧AH o∧BV N c (Bg N c) n1 G o=some r) N ?_ ?_ ?_
  ·intro j k g i
   exact⟨0,0,_,_,g.sub (kp [10,9,0,3,11] O),i,hs,(CA.refl S h),(iq (n:=0) O),(iq (n:=0) O),E⟩
  ·rintro j k ⟨_,_,_,_,_,_,_,_,_,_,E⟩
   rw[BV] at E;cases E
  rintro n1 j k ⟨G,o,ao,ap,g,i,s,y,r9,aq,E⟩
  refine Ac ?_ g i
  clear g i k j
  rw[BV] at E
  refine AI (Ar O (AN (kp [12,10,9,0,3,11] O) (AC (AW O E (λab E=>?_) (λab E=>?_)))))
  ·refine AQ (AC (BB (AI ?_)))
   obtain⟨ac,H,E⟩:=bd E
   refine BE O O (d.mono' y) RC H O λar ad=>Ao A9 s.1 O ad Vd O λau ae=>AK O (kp [5,10,9,0,3,11] O) (AI (AA O (AA O (An O ae Le O λav=>Ai O (AK O (kp [3,10,9,0,11] O) (AI (AA O (Ar O (AN (kp [20,3,10,9,0,11] O) (AW O E (λaf E=>?_) (λaf E=>?_)))))))))))
   ·cases E
   refine AQ (BO (BZ (.inl O) (Ai O (AA O (AN (kp [11,3,10,9,0] O) (WF.nil (λj k g i=>?_)))))))
   exact⟨(BD (G+(↑ac.length:Int))),(BD (o+1)),_,_,g.sub (kp [10,9,0,3,11] O),i,s,y,(BK _),(BK _),E⟩
  refine BC O (λj k g i=>?_)
  exact⟨G,_,_,g.sub (kp [0,3] O),i,s,y,r9,E⟩
 rintro j k ⟨i2,aw,ax,g,i,I,J,r3,E⟩
 refine Ac ?_ g i
 clear g i k j
 rw[Bg] at E
 refine WF.sl (AG 1 (AA O (AF ?_)))
 obtain⟨ag,K,E⟩:=bd E
 refine Cv O O O eL O (G4 I r3 K) λah z A M p=>?_
 have Q:=p
 refine AG 1 (AY O (AF (AZ (kp [6,0] O) (AC (AI (AA O ?_))))))
 have U:=d.mono' (J.trans M)
 refine An O U RC O λay=>AA O (AN (kp [27,26,25,6] O) (Am (λa w=>∃(C:Value) (D:List AL),IV B z A (36,[]) a w [(6,C)] (OS Av 111 C D::L) λ_ _=>CB N D=some r) ?_ ?_))
 ·refine A5 (λn3=>λa w=>∃(x:Value) (m:List AL) (t:Int),IV B z A (36,[]) a w [(26,vI (↑c.length:Int)),(25,b),(6,x),(27,vI t)] (OS Av 111 x m::L) λ_ _=>AH t∧BU N c (CB N) n3 m t=some r) N ?_ ?_ ?_
  ·intro j k g i
   exact⟨ah,ag,0,_,_,g.sub (kp [26,25,6,27] O),i,Q,(CA.refl z A),(iq (n:=0) O),E⟩
  ·rintro j k ⟨_,_,_,_,_,_,_,_,_,_,E⟩
   rw[BU] at E;cases E
  rintro n3 j k ⟨x,m,t,az,a0,g,i,u,F,a1,E⟩
  refine Ac ?_ g i
  clear g i k j
  rw[BU] at E
  refine AI (Ar O (AN (kp [28,26,25,6,27] O) (AC (AW O E (λai E=>?_) (λai E=>?_)))))
  ·refine AQ (AC (BB (AI ?_)))
   obtain⟨V,W,E⟩:=bd E
   refine BE O O (U.mono' F) RC W O λa2 aj=>Ao A9 u.1 O aj Vd O λa3 ak=>AK O (kp [8,26,25,6,27] O) (D3 (AG 2 (AA O (AA O (AF ?_)))))
   obtain⟨X,E⟩:=Lr E
   refine JJ (r:=Av) (l:=m) (xs:=V) O O LD O (Sl.src ak) O X O u (λ_=> .head) λal a4 Y am=>AG 1 (AY O (AF (AZ (kp [6,26,25,27] O) (BO (BZ (.inl O) (Ai O (AA O (AN (kp [27,6,26,25] O) (WF.nil (λj k g i=>?_))))))))))
   exact⟨al,(m++V),(BD (t+1)),_,_,g.sub (kp [26,25,6,27] O),i,Y,(F.trans am),(BK _),E⟩
  refine BC O (λj k g i=>?_)
  exact⟨x,m,_,_,g.sub (kp [6] O),i,u,F,E⟩
 rintro j k ⟨C,D,a5,a6,g,i,Z,an,E⟩
 refine Ac ?_ g i
 clear g i k j
 rw[CB] at E
 refine AI (AA O (AK O (kp [2] O) (Ad (λj k g i=>?_))))
 cases E
 exact Dx g i O O (J.trans (M.trans an)) Z
theorem KF (hs:St S L h) {c:Value}{m:(List Int)}(p:Sl S h AM.int c m) {d:Value}{q:(Int→Option Bool)}(s:Rd S h (AM.fn Tryz.prog (λx:Int=>([vI x]:List Value)) (λx:Int=>AH x) (λy:Bool=> .bool y) (λy:Bool=>True)) d q) {r:Int}(E:EJ N m q=some r):
 CL Tryz.prog 107 #[c,d] S h (λv S' h'=>v=vI r∧AH r∧St S' (L) h'):=by
 refine BG (l:=[c,d]) 19 Tryz.func107 O Tryz.ntmps107 O λB=>?_
 rw[EJ] at E
 obtain⟨H,I,rfl,J,K⟩:=s.fn
 refine AI (AK O (kp [0,1] O) (AC (AI (AA O (An O p BQ O λb5=>AA O (AN (kp [8,7,0,1] O) (Am (λa w=>IV B S h (19,[]) a w [] (L) λ_ _=>De N=some r) ?_ ?_)))))))
 ·refine A5 (λX=>λa w=>∃(A:Int),IV B S h (19,[]) a w [(7,vI (↑m.length:Int)),(0,c),(1,(.func (.func H) #[] I)),(8,vI A)] (L) λ_ _=>AH A∧CU N m q (De N) X A=some r) N ?_ ?_ ?_
  ·intro t u i j
   exact⟨0,_,_,i.sub (kp [7,0,1,8] O),j,hs,(CA.refl S h),(iq (n:=0) O),E⟩
  ·rintro t u ⟨_,_,_,_,_,_,_,_,E⟩
   rw[CU] at E;cases E
  rintro X t u ⟨A,Y,Z,i,j,g,k,r9,E⟩
  refine Ac ?_ i j
  clear i j u t
  rw[CU] at E
  refine AI (Ar O (AN (kp [9,7,0,1,8] O) (AC (AW O E (λM E=>?_) (λM E=>?_)))))
  ·refine AQ (AC (BB (AI (AA O (AK O (kp [5,7,0,1,8] O) (AC (Bq (.inl O) g (AA O (AA O (AA O ?_))))))))))
   obtain⟨ab,C,E⟩:=bd E
   refine BE O O (p.mono' k) BQ C O λac Q=>Af Bd g.1 O Q Ag O λU=>?_
   obtain⟨ad,D,E⟩:=bd E
   refine A6 O O O J O (λh' o=>K _ h' (λb hb=>Nat.lt_of_lt_of_le (g.1 b (k.sub b hb)) o.siz) (λb hb=>(o.same b (g.1 b (k.sub b hb))).trans (k.same b hb)) [] (St.all h') _ _ U D) (BM (kp [16,5,7,0,1,8] O) λae z F=>AW O E (λV E=>?_) (λV E=>?_))
   ·refine AI (AA O (AK O (kp [4] O) (Ad (λt u i j=>?_))))
    cases E
    exact Dx i j O O (k.trans F) ⟨O,r9,z⟩
   refine AQ (BO (BZ (.inl O) (Ai O (AA O (AN (kp [8,7,0,1] O) (WF.nil (λt u i j=>?_)))))))
   exact⟨(BD (A+1)),_,_,i.sub (kp [7,0,1,8] O),j,z,(k.trans F),(BK _),E⟩
  refine BC O (λt u i j=>?_)
  exact⟨_,_,i.sub Oy,j,g,k,E⟩
 rintro t u ⟨af,ag,i,j,G,W,E⟩
 refine Ac ?_ i j
 clear i j u t
 rw[De] at E
 refine AI (AK O (kp [4] O) (Ad (λt u i j=>?_)))
 cases E
 exact Dx i j O O W ⟨O,(iq (n:=(-1)) O),G⟩
theorem Jj (hs:St S L h) {a:Value}{g:(List Int)}(d:Sl S h AM.int a g) {b:Value}{i:(Int→Option Bool)}(c:Rd S h (AM.fn Tryz.prog (λx:Int=>([vI x]:List Value)) (λx:Int=>AH x) (λy:Bool=> .bool y) (λy:Bool=>True)) b i) {r:Bool}(E:Em N g i=some r):
 CL Tryz.prog 99 #[a,b] S h (λv S' h'=>v= .bool r∧St S' (L) h'):=by
 refine BG (l:=[a,b]) 9 Tryz.func99 O Tryz.ntmps99 O λB=>?_
 rw[Em] at E
 obtain⟨n,p,rfl,q,s⟩:=c.fn
 refine AI (AK O (kp [0,1] O) (AC (Bq (.inl O) hs (AA O (AA O ?_)))))
 obtain⟨z,j,E⟩:=bd E
 refine CY O O O aB O (λh' o=>KF (St.all h') (d.mono' (o.all hs.1)) (c.mono (o.all hs.1)) j) λt=>?_
 have A:=t
 refine Gf O (AY O (BM (kp [4] O) λC k m=>Ad (λD F u w=>?_)))
 cases E
 exact Dx u w O O m ⟨O,k⟩
theorem OL (hs:St S L h) {a:Int}(b:AH a) {r:Bool}(E:Gv N a=some r):
 CL Tryz.prog 100 #[vI a] S h (λv S' h'=>v= .bool r∧St S' (L) h'):=by
 refine BG (l:=[vI a]) 5 Tryz.func100 O Tryz.ntmps100 O λB=>?_
 rw[Gv] at E
 refine AI (AK O (kp [0] O) (AI (AA O (Bf O (AK O (kp [2] O) (Ad (λg i c d=>?_)))))))
 cases E
 exact Dx c d O O (CA.refl S h) ⟨O,hs⟩
theorem Ph (hs:St S L h) {c:Int}(m:AH c) {a:Int}(n:AH a) {d:Value}{i:(List Int)}(g:Sl S h AM.int d i) {r:(List Al)}(E:JZ N c a i=some r):
 CL Tryz.prog 87 #[vN,vI c,vI a,d] S h (λv S' h'=>St S' (OS Ap 60 v r::L) h'):=by
 refine BG (l:=[vN,vI c,vI a,d]) 32 Tryz.func87 O Tryz.ntmps87 O λB=>?_
 rw[JZ] at E
 refine AI (AK O (kp [0,1,2,3] O) (AI (AA O (AA O (M8 O H9 O (AA O (M8 O H9 O (YS O O O H9 O (AK O (kp [9,1,2,3] O) (AC (AC (Bq (.inl O) hs (AA O (Ar O (AA O ?_)))))))))))))))
 obtain⟨b2,j,E⟩:=bd E
 refine AV 4 22 (.bool b2) ?_ ?_
 ·cases c1:(decide (a<0))
  ·have j:=F5 c1 j
   refine AB O (AA O (AB O ?_))
   have M:Rd S h (AM.fn Tryz.prog (λx:Int=>([vI x]:List Value)) (λx:Int=>AH x) (λy:Bool=> .bool y) (λy:Bool=>True)) (.func (.func 100) #[] #[]) (λx=>Gv N x):=Rd.ofFn 100 #[] aG λS' h' s' e' L hs x y h1 h2=>(OL hs h1 h2).mono λ_ _ _ _ p=>⟨p.1,trivial,p.2⟩
   obtain⟨y4,Q,j⟩:=bd j
   refine A6 O O O eD O (λh' o=>Jj (St.all h') (g.mono' (o.all hs.1)) (M.mono (o.all hs.1)) Q) (AB O (BY O (AJ O ?_)))
   cases j
   exact AU O
  have j:=Fy c1 j
  cases j
  exact Aa O O
 refine BM (kp [22,9,1,2,3] O) λh6 u U=>AW O E (λc9 E=>?_) (λc9 E=>?_)
 ·refine AI (AA O (AK O (kp [8] O) (Ad (λaa ww V W=>?_))))
  have A:=u.nil Ap 60
  cases E
  exact Dx V W O O U A
 refine AQ (WF.sl (AG 4 (AA O (AA O (AA O (AA O (AF ?_)))))))
 obtain⟨z,C,E⟩:=bd E
 refine BX O O O P5 O u (DC (St.all _) ((g.mono' U).mono (λb hb=>u.1 b hb) (λ_ _=>rfl)) C) λaf ag ah ae X Y p=>?_
 have D:=p
 have s:=u.join Y D ⟨OS.flat (λ{_ _ _ _ _ _} k=>k),trivial⟩
 simp only[List.cons_append,List.nil_append] at s
 refine AG 1 ?_
 obtain⟨w,t,rfl,ai⟩:=s.oslen mh
 refine HA (cs:=[vI c,vI a,(.slice w z.length t)]) Vl O O O (AF (DY (cs:=[vI c,vI a,(.slice w z.length t)]) NN O O O O O O O s λaj ak F Z=>?_))
 have G:=F.nil Ap 60
 obtain⟨al,H,ab,ac⟩:=G.pubs (.tail (.tail .head))
 obtain⟨I,E⟩:=Lr E
 refine OA (r:=Ap) (l:=([]:List Al)) (xs:=([(⟨c,a,z⟩:Al)]:List Al)) O O NN O (mt mh) ⟨_,_,O,⟨_,O,m,n,ac⟩,O⟩ O O I O H (λ_=> .head) λam an J ad=>?_
 have K:=J.drop (.tail .head)
 refine AG 1 (AY O (AF (AZ (kp [8] O) (Ad (λaa ww V W=>?_)))))
 cases E
 exact Dx V W O O (U.trans (X.trans (Z.trans (ab.trans ad)))) K
theorem JL {d:Nat}{p0_w:Aq}{Q:Value}{U:Value}{V:Value}{W:Value}{Y:Value}{Z:Value}{ab:Value}{ac:Value}{H:Value}{I:Value}{J:Value}{K:Value}{M:Value}{w:Value}{z:Value}{A:Value}{C:Value}{D:Value}{af:Value}{ai:Value}{F:Value}{ae:Value}(hs:St S (Bx d 84 [.string p0_w.b.Name,Q,vI p0_w.b.Cells,U,V,W,Y,Z,ab,ac,vI p0_w.b.Err,H,I,J,K,M,vI p0_w.s.Hour,w,z,A,C,D,af,ai,F,ae]::OS (AM.sl AM.int) 29 w p0_w.s.Own::OS AM.int 3 z p0_w.s.Rem::OS Ap 60 A p0_w.s.Queue::OS BJ 69 C p0_w.s.Gates::OS AM.int 3 D p0_w.s.In::OS AM.int 3 af p0_w.s.Out::OS BH 50 ai p0_w.moves::OS AM.int 3 F p0_w.peaks::OS Ap 60 ae p0_w.sent::L) h) (c0:p0_w.b.Name.size≤maxLen) (c1:Sl S h AM.str Q p0_w.b.Owners) (c2:AH p0_w.b.Cells) (c3:Sl S h B0 U p0_w.b.Places) (c4:Sl S h Bu V p0_w.b.Links) (c5:Sl S h GT W p0_w.b.Towns) (c6:Sl S h Ed Y p0_w.b.Gauges) (c7:Sl S h Fv Z p0_w.b.Roads) (c8:Sl S h Cz ab p0_w.b.Shelters) (c9:Sl S h AM.int ac p0_w.b.Room) (b0:AH p0_w.b.Err) (b1:Sl S h AM.int H p0_w.in_.Rain) (b2:Sl S h FT I p0_w.in_.Faults) (b3:Sl S h Ik J p0_w.in_.Cmds) (b4:Sl S h Fd K p0_w.in_.Takes) (b5:Sl S h GH M p0_w.in_.Swaps) (al:AH p0_w.s.Hour) {g:Int}(a2:AH g) {aq:Value}{c:AL}(br:Rd S h Av aq c) {r:(List (List Int))×(List Int)×(List Ak)×(List Al)}(E:Fq N p0_w g c=some r):
 CL Tryz.prog 64 #[vP d 0,vI g,aq] S h (λv S' h'=>∃w_0_17 w_0_22 w_0_23 w_0_25:Value,v= .tuple #[]∧St S' (Bx d 84 [.string p0_w.b.Name,Q,vI p0_w.b.Cells,U,V,W,Y,Z,ab,ac,vI p0_w.b.Err,H,I,J,K,M,vI p0_w.s.Hour,w_0_17,z,A,C,D,w_0_22,w_0_23,F,w_0_25]::OS (AM.sl AM.int) 29 w_0_17 r.1::OS AM.int 3 z p0_w.s.Rem::OS Ap 60 A p0_w.s.Queue::OS BJ 69 C p0_w.s.Gates::OS AM.int 3 D p0_w.s.In::OS AM.int 3 w_0_22 r.2.1::OS BH 50 w_0_23 r.2.2.1::OS AM.int 3 F p0_w.peaks::OS Ap 60 w_0_25 r.2.2.2::L) h'):=by
 refine BG (l:=[vP d 0,vI g,aq]) 89 Tryz.func64 O Tryz.ntmps64 O λB=>?_
 rw[Fq] at E
 refine WF.sl (B4 O br (λe=>by cases e) O hs λq1 S2 h3 u e5 k6=>AZ (kp [5,0,1] O) (AC ?_))
 obtain⟨h8,da,E⟩:=bd E
 obtain⟨b6,db,E⟩:=bd E
 obtain⟨t,dc,E⟩:=bd E
 refine YN (m:=[(5,q1),(0,vP d 0),(1,vI g)]) [] [] [] (λX i v G=>match i with|0=>Pt S2 G (AM.fnr Tryz.prog (λS h vs (x:(List Int))=>∃w0:Value,vs=[w0]∧Sl S h AM.int w0 x) (λS h v (y:((List Int)×(List Int)))=>∃w0 w1:Value,v= .tuple #[w0,w1]∧Sl S h AM.int w0 y.1∧Sl S h AM.int w1 y.2)) v c.take|1=>Rd S2 G (AM.fnr Tryz.prog (λS h vs (x:(List Int))=>∃w0:Value,vs=[w0]∧Sl S h AM.int w0 x) (λS h v (y:((List Int)×(List Int)))=>∃w0 w1:Value,v= .tuple #[w0,w1]∧Sl S h AM.int w0 y.1∧Sl S h AM.int w1 y.2)) v c.take|2=>v=vP d 0|3=>v=vP d 0|4=>v=vP d 16|5=>v=vP d 17|6=>v=w|7=>v=vI g∧AH g|8=>EP w (g.toNat*((AM.sl AM.int)).sz+0) v|9=>Sl S2 G AM.int v b6|10=>∃w0 w1:Value,v= .tuple #[w0,w1]∧(Sl (SX S2 h3 G X) G AM.int w0 t.1)∧(Sl (SX S2 h3 G X) G AM.int w1 t.2)|11=>∃w0 w1:Value,v= .tuple #[w0,w1]∧(Sl (SX S2 h3 G X) G AM.int w0 t.1)∧(Sl (SX S2 h3 G X) G AM.int w1 t.2)|12=>Sl (SX S2 h3 G X) G AM.int v t.1|13=>Sl (SX S2 h3 G X) G AM.int v t.2|14=>Sl (SX S2 h3 G X) G AM.int v t.1|15=>Sl (SX S2 h3 G X) G AM.int v t.2|_=>False) [[],[(0,9)],[],[(2,11)],[(3,12)],[(4,13)],[(5,14)],[],[(6,15),(7,16)],[(8,17)],[(1,10),(9,18)],[(10,19)],[(11,8)],[(11,8)],[(12,20)],[(13,21)]] [(14,6),(15,7)] mo (by kernel_rfl) [5,0,1] O (by kernel_rfl) (by kernel_rfl) (by kernel_rfl) O (kp [5,0,1] O) (λi v h1 h2 X X' o1 o2 u1 u2 hr=>?_) (by kernel_rfl) YH ?_ ?_ ?_
 ·match i,hr with
   |0,hr=>exact(Nd.mono hr (o2.ext λb hb=>Nat.lt_of_lt_of_le (u.1 b hb) o1.siz))
   |1,hr=>exact(Rd.mono hr (o2.ext λb hb=>Nat.lt_of_lt_of_le (u.1 b hb) o1.siz))
   |2,hr|3,hr|4,hr|5,hr|6,hr|7,hr|8,hr=>exact hr
   |9,hr=>exact(Sl.mono' hr (o2.ext λb hb=>Nat.lt_of_lt_of_le (u.1 b hb) o1.siz))
   |10,hr|11,hr=>obtain⟨w0,w1,e,k0,k1⟩:=hr;exact⟨w0,w1,e,(Sl.mono' k0 (SX.mono u.1 o1 o2 u1 u2)),(Sl.mono' k1 (SX.mono u.1 o1 o2 u1 u2))⟩
   |12,hr|13,hr|14,hr|15,hr=>exact(Sl.mono' hr (SX.mono u.1 o1 o2 u1 u2))
   |_+16,hr=>exact hr.elim
 ·exact trivial
 ·refine Gb.cons O O O ?_ ?_
  ·intro X mq G o hX
   have hsN:=o.st u
   exact AG 1 (Ae O (k6.mono (o.ext u.1)) OB Wp O λh9 fl=>AO fl)
  refine Gb.cons O O O ?_ ?_
  ·intro X mq G o hX
   intro fm b7
   have hsN:=o.st u
   have b7:Pt _ _ (AM.fnr Tryz.prog (λS h vs (x:(List Int))=>∃w0:Value,vs=[w0]∧Sl S h AM.int w0 x) (λS h v (y:((List Int)×(List Int)))=>∃w0 w1:Value,v= .tuple #[w0,w1]∧Sl S h AM.int w0 y.1∧Sl S h AM.int w1 y.2)) fm c.take:=b7
   exact AG 1 (B8 A9 hsN.1 O b7 Za (λ_=>rfl) O λia fn=>AO fn)
  refine Gb.cons O O O ?_ ?_
  ·intro X mq G o hX
   have hsN:=o.st u
   exact AG 1 (AA O (AO O))
  refine Gb.cons O O O ?_ ?_
  ·intro X mq G o hX
   intro ib fo
   have hsN:=o.st u
   cases fo
   exact AG 1 (CP O O (AO O))
  refine Gb.cons O O O ?_ ?_
  ·intro X mq G o hX
   intro ic fp
   have hsN:=o.st u
   cases fp
   exact AG 1 (AD Cb O (AO O))
  refine Gb.cons O O O ?_ ?_
  ·intro X mq G o hX
   intro ie fq
   have hsN:=o.st u
   cases fq
   exact AG 1 (AD Dm O (AO O))
  refine Gb.cons O O O ?_ ?_
  ·intro X mq G o hX
   intro ig fr
   have hsN:=o.st u
   cases fr
   exact AG 1 (AS A9 hsN O mh O Gu O (AO O))
  refine Gb.cons O O O ?_ ?_
  ·intro X mq G o hX
   have hsN:=o.st u
   exact AG 1 (AA O (AO ⟨O,a2⟩))
  refine Gb.cons O O O ?_ ?_
  ·intro X mq G o hX
   intro ih fs ii ft
   have hsN:=o.st u
   cases fs
   obtain⟨rfl,ij⟩:=ft
   exact AG 1 (A8 hsN (mt mh) O O Ev da O λik dd=>AO dd)
  refine Gb.cons O O O ?_ ?_
  ·intro X mq G o hX
   intro il fu
   have hsN:=o.st u
   refine AG 1 ?_
   have fv:=hsN.epAt (mt mh) db E9.id fu
   exact Ao A9 (λ_ x=>x) O fv BW O λim fw=>AO fw
  refine Gb.cons O O O ?_ ?_
  ·intro X mq G o hX
   intro fx a6 fy a7
   have hsN:=NY (X:=X) u o
   have a6:=Rd.mono (S':=(SX S2 h3 G X)) a6 ⟨λb hb=>(SX.ext u.1 o hX).sub b hb,λ_ _=>rfl,Nat.le_refl _⟩
   have a6:Rd _ _ (AM.fnr Tryz.prog (λS h vs (x:(List Int))=>∃w0:Value,vs=[w0]∧Sl S h AM.int w0 x) (λS h v (y:((List Int)×(List Int)))=>∃w0 w1:Value,v= .tuple #[w0,w1]∧Sl S h AM.int w0 y.1∧Sl S h AM.int w1 y.2)) fx c.take:=a6
   have a7:=Sl.mono' (S':=(SX S2 h3 G X)) a7 ⟨λb hb=>(SX.ext u.1 o hX).sub b hb,λ_ _=>rfl,Nat.le_refl _⟩
   have a7:Sl _ _ AM.int fy b6:=a7
   have hsF:=hsN.fz
   obtain⟨gi,gj,rfl,de,df⟩:=a6.fnr
   refine Cv O O O de O (df _ _ (λb hb=>(CA.refl (SX S2 h3 G X) G).sub b hb) (λb hb=>(CA.refl (SX S2 h3 G X) G).same b hb) _ hsF b6 _ _ ⟨_,O,a7⟩ dc) λio ip ir f0 p=>?_
   obtain⟨⟨it,iu,rfl,f1,f2⟩,dg⟩:=p
   have a8:=SX.done o hX f0 dg
   exact Cm a8.1 ⟨_,_,O,(Sl.mono' f1 a8.2),(Sl.mono' f2 a8.2)⟩
  refine Gb.cons O O O ?_ ?_
  ·intro X mq G o hX
   intro iv f3
   have hsN:=NY (X:=X) u o
   obtain⟨f4,f5,rfl,b8,b9⟩:=f3
   have b8:Sl _ _ AM.int f4 t.1:=b8
   have b9:Sl _ _ AM.int f5 t.2:=b9
   exact AG 1 (AA O (AO ⟨_,_,O,b8,b9⟩))
  refine Gb.cons O O O ?_ ?_
  ·intro X mq G o hX
   intro iw f6
   have hsN:=NY (X:=X) u o
   obtain⟨f7,f8,rfl,ca,dh⟩:=f6
   have ca:Sl _ _ AM.int f7 t.1:=ca
   have dh:Sl _ _ AM.int f8 t.2:=dh
   exact AG 1 (Bo O (AO ca))
  refine Gb.cons O O O ?_ ?_
  ·intro X mq G o hX
   intro iy f9
   have hsN:=NY (X:=X) u o
   obtain⟨ga,gb,rfl,di,cb⟩:=f9
   have di:Sl _ _ AM.int ga t.1:=di
   have cb:Sl _ _ AM.int gb t.2:=cb
   exact AG 1 (Bo O (AO cb))
  refine Gb.cons O O O ?_ ?_
  ·intro X mq G o hX
   intro gc cc
   have hsN:=NY (X:=X) u o
   have cc:Sl _ _ AM.int gc t.1:=cc
   exact AG 1 (AY O (AO cc))
  refine Gb.cons O O O ?_ ?_
  ·intro X mq G o hX
   intro gd a9
   have hsN:=NY (X:=X) u o
   have a9:Sl _ _ AM.int gd t.2:=a9
   exact AG 1 (AY O (AO a9))
  exact trivial
 intro ag X103 am hX104 ba ao dj bb ge gf
 have a0:=(ZN.nil u am hX104).st
 have ao:Sl _ _ AM.int ba t.1:=ao
 have bb:Sl _ _ AM.int dj t.2:=bb
 refine AZ (kp [7,6,5,0,1] O) (WF.sl (AG 8 (AA O (CP O O (AD Cb O (AD Dm O (AS A9 a0 O mh O Gu O (AA O (AA O ?_)))))))))
 obtain⟨gk,cd,E⟩:=bd E
 refine A8 a0 (mt mh) O O Ev cd O λgl ce=>AF ?_
 obtain⟨dk,cf,E⟩:=bd E
 refine E3 (r:=(AM.sl AM.int)) (l:=p0_w.s.Own) (i:=g) (x:=dk) O O (M7 bb) ce cf Lv.id BW (λ_=>rfl) a0 (.tail .head) λgm bc ah=>AZ (kp [6,5,0,1] O) (AC (AC (Bq (.inl O) bc (AA O ?_))))
 obtain⟨gn,cg,E⟩:=bd E
 refine CY O O O NO O (λh' o=>Ew (St.all h') ((ao.mono' ah).mono' (o.all bc.1)) cg) λdl=>?_
 have gp:=dl
 refine GQ O (BM (kp [32,6,5,0,1] O) λan j aj=>AW O E (λdm E=>?_) (λdm E=>?_))
 ·refine Ad (λaa ww hf hw=>?_)
  cases E
  exact KH hf O hw KG O (e5.trans ((SX.ext u.1 am hX104).trans (ah.trans aj))) ⟨_,_,_,_,O,j⟩
 refine AQ (AC (Tk (m:=[(6,ba),(5,q1),(0,vP d 0),(1,vI g)]) 18 [0] (λi v G=>match i with|0=>v=vP d 0|1=>v=vP d 0|2=>v=vP d 0|3=>v=vP d 23|4=>v=ai|5=>v=vP d 0|6=>v=vP d 0|7=>v=vP d 16|8=>v=vP d 16|9=>v=vI p0_w.s.Hour∧AH p0_w.s.Hour|10=>v=vI g∧AH g|11=>Pt (SX S2 h3 ag X103) G AM.int v c.to_|12=>v=vI c.to_∧AH c.to_|13=>Pt (SX S2 h3 ag X103) G AM.int v c.way|14=>v=vI c.way∧AH c.way|15=>Sl (SX S2 h3 ag X103) G AM.int v t.1|16=>Rd (SX S2 h3 ag X103) G BH v (⟨p0_w.s.Hour,g,c.to_,c.way,t.1⟩:Ak)|17=>Sl (SN (SX S2 h3 ag X103) an G) G BH v ([(⟨p0_w.s.Hour,g,c.to_,c.way,t.1⟩:Ak)]:List Ak)∧∃ad,v= .slice (some ad) 1 1|_=>False) [[],[],[(1,34)],[(2,35)],[(3,36)],[],[(5,38)],[(6,39)],[(7,40)],[(8,41)],[],[],[(11,44)],[],[(13,46)],[],[(9,42),(10,43),(12,45),(14,47),(15,48)],[(16,49)]] [(0,33),(4,37),(17,50)] mo (by kernel_rfl) [6,5,0,1] O (by kernel_rfl) (by kernel_rfl) (by kernel_rfl) (kp [6,5,0,1] O) (λi v h1 h2 o1 o2 hr=>?_) ?_ ?_ ?_))
 ·match i,hr with
   |0,hr|1,hr|2,hr|3,hr|4,hr|5,hr|6,hr|7,hr|8,hr|9,hr|10,hr|12,hr|14,hr=>exact hr
   |11,hr|13,hr=>exact Nd.mono hr (o2.ext λb hb=>Nat.lt_of_lt_of_le (j.1 b hb) o1.siz)
   |15,hr=>exact Sl.mono' hr (o2.ext λb hb=>Nat.lt_of_lt_of_le (j.1 b hb) o1.siz)
   |16,hr=>exact Rd.mono hr (o2.ext λb hb=>Nat.lt_of_lt_of_le (j.1 b hb) o1.siz)
   |17,hr=>exact⟨Sl.mono' hr.1 (SN.mono j.1 o1 o2),hr.2⟩
   |_+18,hr=>exact hr.elim
 ·refine QG.cons [] (by kernel_rfl) O O (by kernel_rfl) ?_ ?_
  ·intro mq G o
   intro a hf
   exact⟨vP d 0,OD hf O,O⟩
  exact trivial
 ·refine A3.cons O (λ_ _ _=>AG 1 (AA O (AO O))) (A3.cons O (λ_ _ _=>AG 1 (AA O (AO O))) (A3.cons O (λ_ _ _ _ dn=>by cases dn;exact AG 1 (CP O O (AO O))) (A3.cons O (λ_ _ _ _ dp=>by cases dp;exact AG 1 (AD Nu O (AO O))) (A3.cons O (λ_ _ o _ dq=>by cases dq;exact AG 1 (AS A9 (o.st j) O mh O SE O (AO O))) (A3.cons O (λ_ _ _=>AG 1 (AA O (AO O))) (A3.cons O (λ_ _ _ _ dr=>by cases dr;exact AG 1 (CP O O (AO O))) (A3.cons O (λ_ _ _ _ ds=>by cases ds;exact AG 1 (AD Cb O (AO O))) (A3.cons O (λ_ _ _ _ dt=>by cases dt;exact AG 1 (AD HK O (AO O))) (A3.cons O (λ_ _ o _ du=>by cases du;exact AG 1 (AS A9 (o.st j) O mh O Ag O (AO ⟨O,al⟩))) (A3.cons O (λ_ _ _=>AG 1 (AA O (AO ⟨O,a2⟩))) (A3.cons O (λ_ _ o=>AG 1 (Ae O (k6.mono ((SX.ext u.1 am hX104).trans (ah.trans (aj.trans (o.ext j.1))))) Js Py O λgq dv=>AO dv)) ?_)))))))))))
  refine A3.cons O (λ_ _ o dw be=>by have be:Pt _ _ AM.int dw c.to_:=be;exact AG 1 (Af A9 (o.st j).1 O be Ag O λdx=>AO ⟨O,dx⟩)) (A3.cons O (λ_ _ o=>AG 1 (Ae O (k6.mono ((SX.ext u.1 am hX104).trans (ah.trans (aj.trans (o.ext j.1))))) OV Wq O λgr dy=>AO dy)) (A3.cons O (λ_ _ o dz bf=>by have bf:Pt _ _ AM.int dz c.way:=bf;exact AG 1 (Af A9 (o.st j).1 O bf Ag O λd0=>AO ⟨O,d0⟩)) (A3.cons O (λ_ _ o=>AG 1 (AA O (AO (ao.mono' (ah.trans (aj.trans (o.ext j.1))))))) ?_)))
  refine A3.cons O ?_ ?_
  ·intro mq G o
   intro gs d1 gt d2 gu d3 gv d4 d5 a3
   have hsN:=o.st j
   obtain⟨rfl,d6⟩:=d1
   obtain⟨rfl,d7⟩:=d2
   obtain⟨rfl,d8⟩:=d3
   obtain⟨rfl,d9⟩:=d4
   have a3:Sl _ _ AM.int d5 t.1:=a3
   refine AG 1 ?_
   obtain⟨ch,bs,rfl,gw⟩:=(a3).len
   exact HA (cs:=[vI p0_w.s.Hour,vI g,vI c.to_,vI c.way,(.slice ch t.1.length bs)]) Yt O O O (AO (BH.mk (x:=(⟨p0_w.s.Hour,g,c.to_,c.way,t.1⟩:Ak)) d6 d7 d8 d9 a3))
  refine A3.cons O ?_ ?_
  ·intro mq G o
   intro ea au
   have hsN:=SN.st j o
   have au:=Rd.mono (S':=(SN (SX S2 h3 ag X103) an G)) au ⟨λb hb=> .inl hb,λ_ _=>rfl,Nat.le_refl _⟩
   have au:Rd _ _ BH ea (⟨p0_w.s.Hour,g,c.to_,c.way,t.1⟩:Ak):=au
   have hsF:=hsN.fz
   obtain⟨gx,rfl,eb,ec,ed,ee,bu⟩:=BH.ex au
   obtain⟨ci,bt,rfl,gy⟩:=(bu).len
   refine DY (cs:=[vI ((⟨p0_w.s.Hour,g,c.to_,c.way,t.1⟩:Ak).Hour),vI ((⟨p0_w.s.Hour,g,c.to_,c.way,t.1⟩:Ak).From),vI ((⟨p0_w.s.Hour,g,c.to_,c.way,t.1⟩:Ak).To),vI ((⟨p0_w.s.Hour,g,c.to_,c.way,t.1⟩:Ak).Way),(.slice ci ((⟨p0_w.s.Hour,g,c.to_,c.way,t.1⟩:Ak).Part).length bt)]) Ua O O O O O O O hsF λgz g0 cj bv=>?_
   have ef:=bu.mono' bv
   have ck:=cj.bxos (r:=BH) (l:=([(⟨p0_w.s.Hour,g,c.to_,c.way,t.1⟩:Ak)]:List Ak)) .head ⟨_,_,O,⟨_,O,eb,ec,ed,ee,ef⟩,O⟩ (by simp [maxLen])
   obtain⟨g1,cl,eg,eh⟩:=ck.pubs .head
   have bg:=Fz.done o (bv.trans eg) cl
   exact Cm bg.1 ⟨Sl.mono' eh bg.2,_,O⟩
  exact trivial
 intro av ap g2 ei g3 ej g4 bh
 have cm:=SN.st j ap
 cases ei
 cases ej
 obtain⟨bh,gg,rfl⟩:=bh
 obtain⟨cn,E⟩:=Lr E
 refine JJ (r:=BH) (l:=p0_w.moves) (xs:=([(⟨p0_w.s.Hour,g,c.to_,c.way,t.1⟩:Ak)]:List Ak)) O O Ua O (Sl.src bh) O cn O cm (λ_=>(.tail (.tail (.tail (.tail (.tail (.tail (.tail .head)))))))) λg5 g6 bi aw=>AG 2 (CP O O (AD Nu O (AF ?_)))
 obtain⟨ar,ak,rfl,g7⟩:=bi.oslen (mt (mt (mt (mt (mt (mt (mt mh)))))))
 refine H6 (vs:=[(.slice ar (p0_w.moves++([(⟨p0_w.s.Hour,g,c.to_,c.way,t.1⟩:Ak)]:List Ak)).length ak)]) (cs':=[.string p0_w.b.Name,Q,vI p0_w.b.Cells,U,V,W,Y,Z,ab,ac,vI p0_w.b.Err,H,I,J,K,M,vI p0_w.s.Hour,w,z,A,C,D,af,(.slice ar (p0_w.moves++([(⟨p0_w.s.Hour,g,c.to_,c.way,t.1⟩:Ak)]:List Ak)).length ak),F,ae]) O O O O SE O bi .head O O λbw n ax=>AZ (kp [6,5,0] O) (AC (AI ?_))
 have co:=(SX.ext u.1 am hX104).trans (ah.trans (aj.trans ((SN.ext j.1 ap).trans (aw.trans ax))))
 have bj:=k6.mono co
 refine Ae O bj Js Py O λg8 ek=>Af A9 n.1 O ek Ag O λg9=>BL O (AN (kp [56,6,5,0] O) (AW O E (λel E=>?_) (λel E=>?_)))
 ·refine WF.sl (AG 7 (AA O (AA O (CP O O (AD Cb O (AD Iq O (AS A9 n O mh O BW O (AA O (AF ?_)))))))))
  obtain⟨bx,cp,E⟩:=bd E
  refine BX O O O Qt O n (Ip (St.all _) (n.oslAll (mt (mt (mt (mt (mt (mt mh))))))) ((ao.mono' (ah.trans (aj.trans ((SN.ext j.1 ap).trans (aw.trans ax))))).mono (λb hb=>n.1 b hb) (λ_ _=>rfl)) cp) λha hc hd gh em en p=>?_
  have cq:=p
  have a1:=n.join en cq ⟨OS.flat (λ{_ _ _ _ _ _} k=>k),trivial⟩
  simp only[List.cons_append,List.nil_append] at a1
  refine AG 3 (CP O O (AD Cb O (AD Iq O (AF ?_))))
  obtain⟨bk,a4,rfl,he⟩:=a1.oslen mh
  refine H6 (vs:=[(.slice bk bx.length a4)]) (cs':=[.string p0_w.b.Name,Q,vI p0_w.b.Cells,U,V,W,Y,Z,ab,ac,vI p0_w.b.Err,H,I,J,K,M,vI p0_w.s.Hour,w,z,A,C,D,(.slice bk bx.length a4),(.slice ar (p0_w.moves++([(⟨p0_w.s.Hour,g,c.to_,c.way,t.1⟩:Ak)]:List Ak)).length ak),F,ae]) O O O O BW O a1 (.tail .head) O O λhg cr eo=>AZ Oy (Ad (λaa ww hf hw=>?_))
  have ct:=cr.sel [1,1,1,1,1,1,0,1,1,1] 1 O
  cases E
  exact KH hf O hw KG O (e5.trans ((SX.ext u.1 am hX104).trans (ah.trans (aj.trans ((SN.ext j.1 ap).trans (aw.trans (ax.trans (em.trans eo)))))))) ⟨_,_,_,_,O,ct⟩
 refine AQ ?_
 obtain⟨ay,cu,E⟩:=bd E
 refine Tk (m:=[(6,ba),(5,q1),(0,vP d 0)]) 18 [0] (λi v G=>match i with|0=>v=vP d 0|1=>v=vP d 0|2=>v=vP d 0|3=>v=vP d 25|4=>v=ae|5=>v=vP d 0|6=>v=vP d 0|7=>v=vP d 16|8=>v=vP d 16|9=>v=vI p0_w.s.Hour∧AH p0_w.s.Hour|10=>v=vI (BD (p0_w.s.Hour+1))∧AH (BD (p0_w.s.Hour+1))|11=>Pt (SN (SX S2 h3 ag X103) an av) G AM.int v c.delay|12=>v=vI c.delay∧AH c.delay|13=>v=vI (BD ((BD (p0_w.s.Hour+1))+c.delay))∧AH (BD ((BD (p0_w.s.Hour+1))+c.delay))|14=>Pt (SN (SX S2 h3 ag X103) an av) G AM.int v c.to_|15=>v=vI c.to_∧AH c.to_|16=>Sl (SN (SX S2 h3 ag X103) an av) G AM.int v t.1|17=>Sl (SN (SN (SX S2 h3 ag X103) an av) bw G) G Ap v ay|_=>False) [[],[],[(1,69)],[(2,70)],[(3,71)],[],[(5,73)],[(6,74)],[(7,75)],[(8,76)],[(9,77)],[],[(11,79)],[(10,78),(12,80)],[],[(14,82)],[],[(13,81),(15,83),(16,84)]] [(0,68),(4,72),(17,85)] mo (by kernel_rfl) [6,5,0] O (by kernel_rfl) (by kernel_rfl) (by kernel_rfl) (kp [6,5,0] O) (λi v h1 h2 o1 o2 hr=>?_) ?_ ?_ ?_
 ·match i,hr with
   |0,hr|1,hr|2,hr|3,hr|4,hr|5,hr|6,hr|7,hr|8,hr|9,hr|10,hr|12,hr|13,hr|15,hr=>exact hr
   |11,hr|14,hr=>exact Nd.mono hr (o2.ext λb hb=>Nat.lt_of_lt_of_le (n.1 b hb) o1.siz)
   |16,hr=>exact Sl.mono' hr (o2.ext λb hb=>Nat.lt_of_lt_of_le (n.1 b hb) o1.siz)
   |17,hr=>exact Sl.mono' hr (SN.mono n.1 o1 o2)
   |_+18,hr=>exact hr.elim
 ·refine QG.cons [] (by kernel_rfl) O O (by kernel_rfl) ?_ ?_
  ·intro mq G o
   intro a hf
   exact⟨vP d 0,OD hf O,O⟩
  exact trivial
 ·refine A3.cons O (λ_ _ _=>AG 1 (AA O (AO O))) (A3.cons O (λ_ _ _=>AG 1 (AA O (AO O))) (A3.cons O (λ_ _ _ _ ep=>by cases ep;exact AG 1 (CP O O (AO O))) (A3.cons O (λ_ _ _ _ eq=>by cases eq;exact AG 1 (AD Ra O (AO O))) (A3.cons O (λ_ _ o _ er=>by cases er;exact AG 1 (AS A9 (o.st n) O mh O I3 O (AO O))) (A3.cons O (λ_ _ _=>AG 1 (AA O (AO O))) (A3.cons O (λ_ _ _ _ es=>by cases es;exact AG 1 (CP O O (AO O))) (A3.cons O (λ_ _ _ _ et=>by cases et;exact AG 1 (AD Cb O (AO O))) (A3.cons O (λ_ _ _ _ eu=>by cases eu;exact AG 1 (AD HK O (AO O))) (A3.cons O (λ_ _ o _ ev=>by cases ev;exact AG 1 (AS A9 (o.st n) O mh O Ag O (AO ⟨O,al⟩))) (A3.cons O (λ_ _ _ _ ew=>by obtain⟨rfl,hi⟩:=ew;exact AG 1 (Ai O (AO ⟨O,(BK _)⟩))) (A3.cons O (λ_ _ o=>AG 1 (Ae O (bj.mono (o.ext n.1)) Na Wr O λhj ey=>AO ey)) ?_)))))))))))
  refine A3.cons O (λ_ _ o ez bl=>by have bl:Pt _ _ AM.int ez c.delay:=bl;exact AG 1 (Af A9 (o.st n).1 O bl Ag O λe0=>AO ⟨O,e0⟩)) (A3.cons O (λ_ _ _=>by intro hk e1 hl e2;obtain ⟨rfl,hm⟩:=e1;obtain ⟨rfl,hn⟩:=e2;exact AG 1 (Ai O (AO ⟨O,(BK _)⟩))) (A3.cons O (λ_ _ o=>AG 1 (Ae O (bj.mono (o.ext n.1)) Js Py O λho e3=>AO e3)) (A3.cons O (λ_ _ o e4 bm=>by have bm:Pt _ _ AM.int e4 c.to_:=bm;exact AG 1 (Af A9 (o.st n).1 O bm Ag O λe6=>AO ⟨O,e6⟩)) (A3.cons O (λ_ _ o=>AG 1 (AA O (AO (ao.mono' (ah.trans (aj.trans ((SN.ext j.1 ap).trans (aw.trans (ax.trans (o.ext n.1)))))))))) ?_))))
  refine A3.cons O ?_ ?_
  ·intro mq G o
   intro hp e7 hq e8 e9 az
   have hsN:=SN.st n o
   obtain⟨rfl,fb⟩:=e7
   obtain⟨rfl,fc⟩:=e8
   have az:=Sl.mono' (S':=(SN (SN (SX S2 h3 ag X103) an av) bw G)) az ⟨λb hb=> .inl hb,λ_ _=>rfl,Nat.le_refl _⟩
   have az:Sl _ _ AM.int e9 t.1:=az
   have hsF:=hsN.fz
   refine Cv O O O eH O (Ph hsF fb fc az cu) λht hu hv fd p=>?_
   have cv:=p
   obtain⟨hx,cw,fe,ff⟩:=cv.pubs .head
   have bn:=Fz.done o (fd.trans fe) cw
   exact Cm bn.1 (Sl.mono' ff bn.2)
  exact trivial
 intro hy bz hz fg h0 fh fi bo
 have cx:=SN.st n bz
 cases fg
 cases fh
 have bo:Sl _ _ Ap fi ay:=bo
 obtain⟨cy,E⟩:=Lr E
 refine JJ (r:=Ap) (l:=p0_w.sent) (xs:=ay) O O NN O (Sl.src bo) O cy O cx (λ_=>(.tail (.tail (.tail (.tail (.tail (.tail (.tail (.tail (.tail .head)))))))))) λh4 h5 bp fj=>AG 2 (CP O O (AD Ra O (AF ?_)))
 obtain⟨bq,a5,rfl,h6⟩:=bp.oslen (mt (mt (mt (mt (mt (mt (mt (mt (mt mh)))))))))
 refine H6 (vs:=[(.slice bq (p0_w.sent++ay).length a5)]) (cs':=[.string p0_w.b.Name,Q,vI p0_w.b.Cells,U,V,W,Y,Z,ab,ac,vI p0_w.b.Err,H,I,J,K,M,vI p0_w.s.Hour,w,z,A,C,D,af,(.slice ar (p0_w.moves++([(⟨p0_w.s.Hour,g,c.to_,c.way,t.1⟩:Ak)]:List Ak)).length ak),F,(.slice bq (p0_w.sent++ay).length a5)]) O O O O I3 O bp .head O O λh7 cz fk=>AZ Oy (WF.nil (λaa ww hf hw=>?_))
 cases E
 exact KH hf O hw KG O (e5.trans ((SX.ext u.1 am hX104).trans (ah.trans (aj.trans ((SN.ext j.1 ap).trans (aw.trans (ax.trans ((SN.ext n.1 bz).trans (fj.trans fk))))))))) ⟨_,_,_,_,O,cz⟩
end Go.Proofs.YtblcgjadhemlbaaGreat
