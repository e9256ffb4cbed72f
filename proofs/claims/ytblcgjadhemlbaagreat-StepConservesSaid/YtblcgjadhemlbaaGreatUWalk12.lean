import Derived.Test.YtblcgjadhemlbaaGreatUWalk11
namespace Go.Proofs.YtblcgjadhemlbaaGreat
open Go.RowKit
set_option linter.unusedVariables false
set_option linter.unusedSimpArgs false
set_option maxRecDepth 10000
set_option maxHeartbeats 2000000
variable {N:Nat}{S:Nat→Prop}{L:List HP}{h:Av}
theorem Gw (hs:St S L h) {b:Int}(m:AG b) {r:(List AK)}(E:Bt N b=some r):
 CG Tryz.prog 82 #[vN,vI b] S h (λv S' h'=>St S' (OS Ar 111 v r::L) h'):=by
 refine BB (l:=[vN,vI b]) 27 Tryz.func82 O Tryz.ntmps82 O λB=>?_
 rw[Bt] at E
 refine AI (AL O (kp [0,1] O) (AD (AI (AA O (Aq O (AN (kp [6,0,1] O) (AX O E (λC E=>?_) (λC E=>?_))))))))
 ·cases E
 refine AT (AD (AI (AA O (AA O (Ux O Ld O (AA O (Mw O Ld O (Cg O (Cg O (AL O (kp [1,0] O) (AI (AA O (Bh O (AN (kp [16,1,0] O) (Gs (λa w=>∃(p:Value) (s:List AK),IV B S h (27,[]) a w [(0,p)] (OS Ar 111 p s::L) λ_ _=>Bg N s=some r) ?_ ?_)))))))))))))))
 ·refine AX O E (λD E=>?_) (λD E=>?_)
  ·refine EQ (AH 5 (AA O (AA O (Ux O Ld O (bN O O Ld O (AA O (AF ?_)))))))
   obtain⟨t,E⟩:=MR E
   obtain⟨u,E⟩:=MR E
   refine Y2 O O K9 jI (of_decide_eq_true t) u O O hs λF G H I J x y g z=>AH 4 (AA O (Mw O Ld O (bM O O Ld O ?_)))
   have i:=Xg (r:=Ar) (l:=([]:List AK)) g (Nat.zero_le _) x y WR
   refine AY O (AF (AZ (kp [0] O) (WF.nil (λn o c d=>?_))))
   exact⟨(.slice (some ⟨F,0,none⟩) 0 G),([]:List AK),_,_,c.sub (kp [0] O),d,i,z,E⟩
  refine AT (WF.nil (λn o c d=>?_))
  have j:=hs.nil Ar 111
  exact⟨(vN),([]:List AK),_,_,c.sub (kp [0] O),d,j,(B9.refl S h),E⟩
 rintro n o ⟨p,s,K,M,c,d,k,A,E⟩
 refine Ad ?_ c d
 clear c d o n
 rw[Bg] at E
 refine AI (AA O (AL O (kp [4] O) (Ac (λn o c d=>?_))))
 cases E
 exact Dm c d O O A k
theorem Gd (hs:St S L h) {b:Value}{c:(List (List AK))}(d:Sl S h (AM.sl Ar) b c) {r:(List AK)}(E:Bk N c=some r):
 CG Tryz.prog 61 #[b] S h (λv S' h'=>St S' (OS Ar 111 v r::L) h'):=by
 refine BB (l:=[b]) 36 Tryz.func61 O Tryz.ntmps61 O λB=>?_
 rw[Bk] at E
 refine AI (AL O (kp [0] O) (AI (AL O (kp [3,0] O) (AD (AI (AA O (Al O d RE O λb1=>AA O (AN (kp [11,10,9,3,0] O) (Am (λa w=>∃(i2:Int),IV B S h (36,[]) a w [(0,b),(3,vI i2)] (L) λ_ _=>AG i2∧Bd N c i2=some r) ?_ ?_)))))))))
 ·refine A3 (λn1=>λa w=>∃(G:Int) (o:Int),IV B S h (36,[]) a w [(10,vI (↑c.length:Int)),(9,b),(0,b),(3,vI G),(11,vI o)] (L) λ_ _=>AG G∧AG o∧BS N c (Bd N c) n1 G o=some r) N ?_ ?_ ?_
  ·intro j k g i
   exact⟨0,0,_,_,g.sub (kp [10,9,0,3,11] O),i,hs,(B9.refl S h),(iq (n:=0) O),(iq (n:=0) O),E⟩
  ·rintro j k ⟨_,_,_,_,_,_,_,_,_,_,E⟩
   rw[BS] at E;cases E
  rintro n1 j k ⟨G,o,ao,ap,g,i,s,y,r9,aq,E⟩
  refine Ad ?_ g i
  clear g i k j
  rw[BS] at E
  refine AI (Aq O (AN (kp [12,10,9,0,3,11] O) (AD (AX O E (λab E=>?_) (λab E=>?_)))))
  ·refine AT (AD (A5 (AI ?_)))
   obtain⟨ac,H,E⟩:=bd E
   refine BD O O (d.mono' y) RE H O λar ad=>An A6 s.1 O ad Vx O λau ae=>AL O (kp [5,10,9,0,3,11] O) (AI (AA O (AA O (Al O ae Ld O λav=>Af O (AL O (kp [3,10,9,0,11] O) (AI (AA O (Aq O (AN (kp [20,3,10,9,0,11] O) (AX O E (λaf E=>?_) (λaf E=>?_)))))))))))
   ·cases E
   refine AT (BK (BY (.inl O) (Af O (AA O (AN (kp [11,3,10,9,0] O) (WF.nil (λj k g i=>?_)))))))
   exact⟨(BC (G+(↑ac.length:Int))),(BC (o+1)),_,_,g.sub (kp [10,9,0,3,11] O),i,s,y,(BI _),(BI _),E⟩
  refine A9 O (λj k g i=>?_)
  exact⟨G,_,_,g.sub (kp [0,3] O),i,s,y,r9,E⟩
 rintro j k ⟨i2,aw,ax,g,i,I,J,r3,E⟩
 refine Ad ?_ g i
 clear g i k j
 rw[Bd] at E
 refine WF.sl (AH 1 (AA O (AF ?_)))
 obtain⟨ag,K,E⟩:=bd E
 refine Cn O O O fL O (Gw I r3 K) λah z A M p=>?_
 have Q:=p
 refine AH 1 (AY O (AF (AZ (kp [6,0] O) (AD (AI (AA O ?_))))))
 have U:=d.mono' (J.trans M)
 refine Al O U RE O λay=>AA O (AN (kp [27,26,25,6] O) (Am (λa w=>∃(C:Value) (D:List AK),IV B z A (36,[]) a w [(6,C)] (OS Ar 111 C D::L) λ_ _=>B6 N D=some r) ?_ ?_))
 ·refine A3 (λn3=>λa w=>∃(x:Value) (m:List AK) (t:Int),IV B z A (36,[]) a w [(26,vI (↑c.length:Int)),(25,b),(6,x),(27,vI t)] (OS Ar 111 x m::L) λ_ _=>AG t∧BR N c (B6 N) n3 m t=some r) N ?_ ?_ ?_
  ·intro j k g i
   exact⟨ah,ag,0,_,_,g.sub (kp [26,25,6,27] O),i,Q,(B9.refl z A),(iq (n:=0) O),E⟩
  ·rintro j k ⟨_,_,_,_,_,_,_,_,_,_,E⟩
   rw[BR] at E;cases E
  rintro n3 j k ⟨x,m,t,az,a0,g,i,u,F,a1,E⟩
  refine Ad ?_ g i
  clear g i k j
  rw[BR] at E
  refine AI (Aq O (AN (kp [28,26,25,6,27] O) (AD (AX O E (λai E=>?_) (λai E=>?_)))))
  ·refine AT (AD (A5 (AI ?_)))
   obtain⟨V,W,E⟩:=bd E
   refine BD O O (U.mono' F) RE W O λa2 aj=>An A6 u.1 O aj Vx O λa3 ak=>AL O (kp [8,26,25,6,27] O) (EQ (AH 2 (AA O (AA O (AF ?_)))))
   obtain⟨X,E⟩:=MR E
   refine JQ (r:=Ar) (l:=m) (xs:=V) O O K9 O (Sl.src ak) O X O u (λ_=> .head) λal a4 Y am=>AH 1 (AY O (AF (AZ (kp [6,26,25,27] O) (BK (BY (.inl O) (Af O (AA O (AN (kp [27,6,26,25] O) (WF.nil (λj k g i=>?_))))))))))
   exact⟨al,(m++V),(BC (t+1)),_,_,g.sub (kp [26,25,6,27] O),i,Y,(F.trans am),(BI _),E⟩
  refine A9 O (λj k g i=>?_)
  exact⟨x,m,_,_,g.sub (kp [6] O),i,u,F,E⟩
 rintro j k ⟨C,D,a5,a6,g,i,Z,an,E⟩
 refine Ad ?_ g i
 clear g i k j
 rw[B6] at E
 refine AI (AA O (AL O (kp [2] O) (Ac (λj k g i=>?_))))
 cases E
 exact Dm g i O O (J.trans (M.trans an)) Z
theorem J7 (hs:St S L h) {c:Value}{m:(List Int)}(p:Sl S h AM.int c m) {d:Value}{q:(Int→Option Bool)}(s:Rd S h (AM.fn Tryz.prog (λx:Int=>([vI x]:List Value)) (λx:Int=>AG x) (λy:Bool=> .bool y) (λy:Bool=>True)) d q) {r:Int}(E:D5 N m q=some r):
 CG Tryz.prog 107 #[c,d] S h (λv S' h'=>v=vI r∧AG r∧St S' (L) h'):=by
 refine BB (l:=[c,d]) 19 Tryz.func107 O Tryz.ntmps107 O λB=>?_
 rw[D5] at E
 obtain⟨H,I,rfl,J,K⟩:=s.fn
 refine AI (AL O (kp [0,1] O) (AD (AI (AA O (Al O p BG O λb5=>AA O (AN (kp [8,7,0,1] O) (Am (λa w=>IV B S h (19,[]) a w [] (L) λ_ _=>DV N=some r) ?_ ?_)))))))
 ·refine A3 (λX=>λa w=>∃(A:Int),IV B S h (19,[]) a w [(7,vI (↑m.length:Int)),(0,c),(1,(.func (.func H) #[] I)),(8,vI A)] (L) λ_ _=>AG A∧CO N m q (DV N) X A=some r) N ?_ ?_ ?_
  ·intro t u i j
   exact⟨0,_,_,i.sub (kp [7,0,1,8] O),j,hs,(B9.refl S h),(iq (n:=0) O),E⟩
  ·rintro t u ⟨_,_,_,_,_,_,_,_,E⟩
   rw[CO] at E;cases E
  rintro X t u ⟨A,Y,Z,i,j,g,k,r9,E⟩
  refine Ad ?_ i j
  clear i j u t
  rw[CO] at E
  refine AI (Aq O (AN (kp [9,7,0,1,8] O) (AD (AX O E (λM E=>?_) (λM E=>?_)))))
  ·refine AT (AD (A5 (AI (AA O (AL O (kp [5,7,0,1,8] O) (AD (Bl (.inl O) g (AA O (AA O (AA O ?_))))))))))
   obtain⟨ab,C,E⟩:=bd E
   refine BD O O (p.mono' k) BG C O λac Q=>Ah Bb g.1 O Q Ag O λU=>?_
   obtain⟨ad,D,E⟩:=bd E
   refine Az O O O J O (λh' o=>K _ h' (λb hb=>Nat.lt_of_lt_of_le (g.1 b (k.sub b hb)) o.siz) (λb hb=>(o.same b (g.1 b (k.sub b hb))).trans (k.same b hb)) [] (St.all h') _ _ U D) (BJ (kp [16,5,7,0,1,8] O) λae z F=>AX O E (λV E=>?_) (λV E=>?_))
   ·refine AI (AA O (AL O (kp [4] O) (Ac (λt u i j=>?_))))
    cases E
    exact Dm i j O O (k.trans F) ⟨O,r9,z⟩
   refine AT (BK (BY (.inl O) (Af O (AA O (AN (kp [8,7,0,1] O) (WF.nil (λt u i j=>?_)))))))
   exact⟨(BC (A+1)),_,_,i.sub (kp [7,0,1,8] O),j,z,(k.trans F),(BI _),E⟩
  refine A9 O (λt u i j=>?_)
  exact⟨_,_,i.sub Ou,j,g,k,E⟩
 rintro t u ⟨af,ag,i,j,G,W,E⟩
 refine Ad ?_ i j
 clear i j u t
 rw[DV] at E
 refine AI (AL O (kp [4] O) (Ac (λt u i j=>?_)))
 cases E
 exact Dm i j O O W ⟨O,(iq (n:=(-1)) O),G⟩
theorem JV (hs:St S L h) {a:Value}{g:(List Int)}(d:Sl S h AM.int a g) {b:Value}{i:(Int→Option Bool)}(c:Rd S h (AM.fn Tryz.prog (λx:Int=>([vI x]:List Value)) (λx:Int=>AG x) (λy:Bool=> .bool y) (λy:Bool=>True)) b i) {r:Bool}(E:EW N g i=some r):
 CG Tryz.prog 99 #[a,b] S h (λv S' h'=>v= .bool r∧St S' (L) h'):=by
 refine BB (l:=[a,b]) 9 Tryz.func99 O Tryz.ntmps99 O λB=>?_
 rw[EW] at E
 obtain⟨n,p,rfl,q,s⟩:=c.fn
 refine AI (AL O (kp [0,1] O) (AD (Bl (.inl O) hs (AA O (AA O ?_)))))
 obtain⟨z,j,E⟩:=bd E
 refine CE O O O bA O (λh' o=>J7 (St.all h') (d.mono' (o.all hs.1)) (c.mono (o.all hs.1)) j) λt=>?_
 have A:=t
 refine Gv O (AY O (BJ (kp [4] O) λC k m=>Ac (λD F u w=>?_)))
 cases E
 exact Dm u w O O m ⟨O,k⟩
theorem OG (hs:St S L h) {a:Int}(b:AG a) {r:Bool}(E:Gl N a=some r):
 CG Tryz.prog 100 #[vI a] S h (λv S' h'=>v= .bool r∧St S' (L) h'):=by
 refine BB (l:=[vI a]) 5 Tryz.func100 O Tryz.ntmps100 O λB=>?_
 rw[Gl] at E
 refine AI (AL O (kp [0] O) (AI (AA O (Bh O (AL O (kp [2] O) (Ac (λg i c d=>?_)))))))
 cases E
 exact Dm c d O O (B9.refl S h) ⟨O,hs⟩
theorem Pd (hs:St S L h) {c:Int}(m:AG c) {a:Int}(n:AG a) {d:Value}{i:(List Int)}(g:Sl S h AM.int d i) {r:(List Ao)}(E:JI N c a i=some r):
 CG Tryz.prog 87 #[vN,vI c,vI a,d] S h (λv S' h'=>St S' (OS Ap 60 v r::L) h'):=by
 refine BB (l:=[vN,vI c,vI a,d]) 32 Tryz.func87 O Tryz.ntmps87 O λB=>?_
 rw[JI] at E
 refine AI (AL O (kp [0,1,2,3] O) (AI (AA O (AA O (Mw O JX O (AA O (Mw O JX O (Yp O O O JX O (AL O (kp [9,1,2,3] O) (AD (AD (Bl (.inl O) hs (AA O (Aq O (AA O ?_)))))))))))))))
 obtain⟨b2,j,E⟩:=bd E
 refine AV 4 22 (.bool b2) ?_ ?_
 ·cases c1:(decide (a<0))
  ·have j:=GB c1 j
   refine AB O (AA O (AB O ?_))
   have M:Rd S h (AM.fn Tryz.prog (λx:Int=>([vI x]:List Value)) (λx:Int=>AG x) (λy:Bool=> .bool y) (λy:Bool=>True)) (.func (.func 100) #[] #[]) (λx=>Gl N x):=Rd.ofFn 100 #[] bF λS' h' s' e' L hs x y h1 h2=>(OG hs h1 h2).mono λ_ _ _ _ p=>⟨p.1,trivial,p.2⟩
   obtain⟨y4,Q,j⟩:=bd j
   refine Az O O O fD O (λh' o=>JV (St.all h') (g.mono' (o.all hs.1)) (M.mono (o.all hs.1)) Q) (AB O (BV O (AJ O ?_)))
   cases j
   exact AU O
  have j:=GA c1 j
  cases j
  exact Aa O O
 refine BJ (kp [22,9,1,2,3] O) λh6 u U=>AX O E (λc9 E=>?_) (λc9 E=>?_)
 ·refine AI (AA O (AL O (kp [8] O) (Ac (λaa ww V W=>?_))))
  have A:=u.nil Ap 60
  cases E
  exact Dm V W O O U A
 refine AT (WF.sl (AH 4 (AA O (AA O (AA O (AA O (AF ?_)))))))
 obtain⟨z,C,E⟩:=bd E
 refine BZ O O O P0 O u (C8 (St.all _) ((g.mono' U).mono (λb hb=>u.1 b hb) (λ_ _=>rfl)) C) λaf ag ah ae X Y p=>?_
 have D:=p
 have s:=u.join Y D ⟨OS.flat (λ{_ _ _ _ _ _} k=>k),trivial⟩
 simp only[List.cons_append,List.nil_append] at s
 refine AH 1 ?_
 obtain⟨w,t,rfl,ai⟩:=s.oslen mh
 refine Hy (cs:=[vI c,vI a,(.slice w z.length t)]) ZH O O O (AF (Dw (cs:=[vI c,vI a,(.slice w z.length t)]) Qn O O O O O O O s λaj ak F Z=>?_))
 have G:=F.nil Ap 60
 obtain⟨al,H,ab,ac⟩:=G.pubs (.tail (.tail .head))
 obtain⟨I,E⟩:=MR E
 refine U1 (r:=Ap) (l:=([]:List Ao)) (xs:=([(⟨c,a,z⟩:Ao)]:List Ao)) O O Qn O (mt mh) ⟨_,_,O,⟨_,O,m,n,ac⟩,O⟩ O O I O H (λ_=> .head) λam an J ad=>?_
 have K:=J.drop (.tail .head)
 refine AH 1 (AY O (AF (AZ (kp [8] O) (Ac (λaa ww V W=>?_)))))
 cases E
 exact Dm V W O O (U.trans (X.trans (Z.trans (ab.trans ad)))) K
theorem I4 {d:Nat}{p0_w:Aj}{Q:Value}{U:Value}{V:Value}{W:Value}{Y:Value}{Z:Value}{ab:Value}{ac:Value}{H:Value}{I:Value}{J:Value}{K:Value}{M:Value}{w:Value}{z:Value}{A:Value}{C:Value}{D:Value}{af:Value}{ai:Value}{F:Value}{ae:Value}(hs:St S (Bx d 84 [.string p0_w.b.Name,Q,vI p0_w.b.Cells,U,V,W,Y,Z,ab,ac,vI p0_w.b.Err,H,I,J,K,M,vI p0_w.s.Hour,w,z,A,C,D,af,ai,F,ae]::OS (AM.sl AM.int) 29 w p0_w.s.Own::OS AM.int 3 z p0_w.s.Rem::OS Ap 60 A p0_w.s.Queue::OS A8 69 C p0_w.s.Gates::OS AM.int 3 D p0_w.s.In::OS AM.int 3 af p0_w.s.Out::OS BT 50 ai p0_w.moves::OS AM.int 3 F p0_w.peaks::OS Ap 60 ae p0_w.sent::L) h) (c0:p0_w.b.Name.size≤maxLen) (c1:Sl S h AM.str Q p0_w.b.Owners) (c2:AG p0_w.b.Cells) (c3:Sl S h Bw U p0_w.b.Places) (c4:Sl S h Bu V p0_w.b.Links) (c5:Sl S h GL W p0_w.b.Towns) (c6:Sl S h EN Y p0_w.b.Gauges) (c7:Sl S h F8 Z p0_w.b.Roads) (c8:Sl S h Cr ab p0_w.b.Shelters) (c9:Sl S h AM.int ac p0_w.b.Room) (b0:AG p0_w.b.Err) (b1:Sl S h AM.int H p0_w.in_.Rain) (b2:Sl S h FL I p0_w.in_.Faults) (b3:Sl S h IX J p0_w.in_.Cmds) (b4:Sl S h FX K p0_w.in_.Takes) (b5:Sl S h GM M p0_w.in_.Swaps) (al:AG p0_w.s.Hour) {g:Int}(a2:AG g) {aq:Value}{c:AK}(br:Rd S h Ar aq c) {r:(List (List Int))×(List Int)×(List Ae)×(List Ao)}(E:Fk N p0_w g c=some r):
 CG Tryz.prog 64 #[vP d 0,vI g,aq] S h (λv S' h'=>∃w_0_17 w_0_22 w_0_23 w_0_25:Value,v= .tuple #[]∧St S' (Bx d 84 [.string p0_w.b.Name,Q,vI p0_w.b.Cells,U,V,W,Y,Z,ab,ac,vI p0_w.b.Err,H,I,J,K,M,vI p0_w.s.Hour,w_0_17,z,A,C,D,w_0_22,w_0_23,F,w_0_25]::OS (AM.sl AM.int) 29 w_0_17 r.1::OS AM.int 3 z p0_w.s.Rem::OS Ap 60 A p0_w.s.Queue::OS A8 69 C p0_w.s.Gates::OS AM.int 3 D p0_w.s.In::OS AM.int 3 w_0_22 r.2.1::OS BT 50 w_0_23 r.2.2.1::OS AM.int 3 F p0_w.peaks::OS Ap 60 w_0_25 r.2.2.2::L) h'):=by
 refine BB (l:=[vP d 0,vI g,aq]) 89 Tryz.func64 O Tryz.ntmps64 O λB=>?_
 rw[Fk] at E
 refine WF.sl (B5 O br (λe=>by cases e) O hs λq1 S2 h3 u e5 k6=>AZ (kp [5,0,1] O) (AD ?_))
 obtain⟨h9,da,E⟩:=bd E
 obtain⟨b6,db,E⟩:=bd E
 obtain⟨t,dc,E⟩:=bd E
 refine Yk (m:=[(5,q1),(0,vP d 0),(1,vI g)]) [] [] [] (λX i v G=>match i with|0=>Pt S2 G (AM.fnr Tryz.prog (λS h vs (x:(List Int))=>∃w0:Value,vs=[w0]∧Sl S h AM.int w0 x) (λS h v (y:((List Int)×(List Int)))=>∃w0 w1:Value,v= .tuple #[w0,w1]∧Sl S h AM.int w0 y.1∧Sl S h AM.int w1 y.2)) v c.take|1=>Rd S2 G (AM.fnr Tryz.prog (λS h vs (x:(List Int))=>∃w0:Value,vs=[w0]∧Sl S h AM.int w0 x) (λS h v (y:((List Int)×(List Int)))=>∃w0 w1:Value,v= .tuple #[w0,w1]∧Sl S h AM.int w0 y.1∧Sl S h AM.int w1 y.2)) v c.take|2=>v=vP d 0|3=>v=vP d 0|4=>v=vP d 16|5=>v=vP d 17|6=>v=w|7=>v=vI g∧AG g|8=>EP w (g.toNat*((AM.sl AM.int)).sz+0) v|9=>Sl S2 G AM.int v b6|10=>∃w0 w1:Value,v= .tuple #[w0,w1]∧(Sl (SX S2 h3 G X) G AM.int w0 t.1)∧(Sl (SX S2 h3 G X) G AM.int w1 t.2)|11=>∃w0 w1:Value,v= .tuple #[w0,w1]∧(Sl (SX S2 h3 G X) G AM.int w0 t.1)∧(Sl (SX S2 h3 G X) G AM.int w1 t.2)|12=>Sl (SX S2 h3 G X) G AM.int v t.1|13=>Sl (SX S2 h3 G X) G AM.int v t.2|14=>Sl (SX S2 h3 G X) G AM.int v t.1|15=>Sl (SX S2 h3 G X) G AM.int v t.2|_=>False) [[],[(0,9)],[],[(2,11)],[(3,12)],[(4,13)],[(5,14)],[],[(6,15),(7,16)],[(8,17)],[(1,10),(9,18)],[(10,19)],[(11,8)],[(11,8)],[(12,20)],[(13,21)]] [(14,6),(15,7)] mo (by kernel_rfl) [5,0,1] O (by kernel_rfl) (by kernel_rfl) (by kernel_rfl) O (kp [5,0,1] O) (λi v h1 h2 X X' o1 o2 u1 u2 hr=>?_) (by kernel_rfl) Ye ?_ ?_ ?_
 ·match i,hr with
   |0,hr=>exact(N5.mono hr (o2.ext λb hb=>Nat.lt_of_lt_of_le (u.1 b hb) o1.siz))
   |1,hr=>exact(Rd.mono hr (o2.ext λb hb=>Nat.lt_of_lt_of_le (u.1 b hb) o1.siz))
   |2,hr|3,hr|4,hr|5,hr|6,hr|7,hr|8,hr=>exact hr
   |9,hr=>exact(Sl.mono' hr (o2.ext λb hb=>Nat.lt_of_lt_of_le (u.1 b hb) o1.siz))
   |10,hr|11,hr=>obtain⟨w0,w1,e,k0,k1⟩:=hr;exact⟨w0,w1,e,(Sl.mono' k0 (SX.mono u.1 o1 o2 u1 u2)),(Sl.mono' k1 (SX.mono u.1 o1 o2 u1 u2))⟩
   |12,hr|13,hr|14,hr|15,hr=>exact(Sl.mono' hr (SX.mono u.1 o1 o2 u1 u2))
   |_+16,hr=>exact hr.elim
 ·exact trivial
 ·refine GU.cons O O O ?_ ?_
  ·intro X mq G o hX
   have hsN:=o.st u
   exact AH 1 (Ai O (k6.mono (o.ext u.1)) N6 XB O λia fl=>AO fl)
  refine GU.cons O O O ?_ ?_
  ·intro X mq G o hX
   intro fm b7
   have hsN:=o.st u
   have b7:Pt _ _ (AM.fnr Tryz.prog (λS h vs (x:(List Int))=>∃w0:Value,vs=[w0]∧Sl S h AM.int w0 x) (λS h v (y:((List Int)×(List Int)))=>∃w0 w1:Value,v= .tuple #[w0,w1]∧Sl S h AM.int w0 y.1∧Sl S h AM.int w1 y.2)) fm c.take:=b7
   exact AH 1 (B4 A6 hsN.1 O b7 Zy (λ_=>rfl) O λib fn=>AO fn)
  refine GU.cons O O O ?_ ?_
  ·intro X mq G o hX
   have hsN:=o.st u
   exact AH 1 (AA O (AO O))
  refine GU.cons O O O ?_ ?_
  ·intro X mq G o hX
   intro ic fo
   have hsN:=o.st u
   cases fo
   exact AH 1 (CI O O (AO O))
  refine GU.cons O O O ?_ ?_
  ·intro X mq G o hX
   intro ie fp
   have hsN:=o.st u
   cases fp
   exact AH 1 (AC CU O (AO O))
  refine GU.cons O O O ?_ ?_
  ·intro X mq G o hX
   intro ig fq
   have hsN:=o.st u
   cases fq
   exact AH 1 (AC D4 O (AO O))
  refine GU.cons O O O ?_ ?_
  ·intro X mq G o hX
   intro ih fr
   have hsN:=o.st u
   cases fr
   exact AH 1 (AS A6 hsN O mh O HN O (AO O))
  refine GU.cons O O O ?_ ?_
  ·intro X mq G o hX
   have hsN:=o.st u
   exact AH 1 (AA O (AO ⟨O,a2⟩))
  refine GU.cons O O O ?_ ?_
  ·intro X mq G o hX
   intro ii fs ij ft
   have hsN:=o.st u
   cases fs
   obtain⟨rfl,ik⟩:=ft
   exact AH 1 (A4 hsN (mt mh) O O FO da O λil dd=>AO dd)
  refine GU.cons O O O ?_ ?_
  ·intro X mq G o hX
   intro im fu
   have hsN:=o.st u
   refine AH 1 ?_
   have fv:=hsN.epAt (mt mh) db FM.id fu
   exact An A6 (λ_ x=>x) O fv BP O λio fw=>AO fw
  refine GU.cons O O O ?_ ?_
  ·intro X mq G o hX
   intro fx a6 fy a7
   have hsN:=NP (X:=X) u o
   have a6:=Rd.mono (S':=(SX S2 h3 G X)) a6 ⟨λb hb=>(SX.ext u.1 o hX).sub b hb,λ_ _=>rfl,Nat.le_refl _⟩
   have a6:Rd _ _ (AM.fnr Tryz.prog (λS h vs (x:(List Int))=>∃w0:Value,vs=[w0]∧Sl S h AM.int w0 x) (λS h v (y:((List Int)×(List Int)))=>∃w0 w1:Value,v= .tuple #[w0,w1]∧Sl S h AM.int w0 y.1∧Sl S h AM.int w1 y.2)) fx c.take:=a6
   have a7:=Sl.mono' (S':=(SX S2 h3 G X)) a7 ⟨λb hb=>(SX.ext u.1 o hX).sub b hb,λ_ _=>rfl,Nat.le_refl _⟩
   have a7:Sl _ _ AM.int fy b6:=a7
   have hsF:=hsN.fz
   obtain⟨gi,gj,rfl,de,df⟩:=a6.fnr
   refine Cn O O O de O (df _ _ (λb hb=>(B9.refl (SX S2 h3 G X) G).sub b hb) (λb hb=>(B9.refl (SX S2 h3 G X) G).same b hb) _ hsF b6 _ _ ⟨_,O,a7⟩ dc) λip ir it f0 p=>?_
   obtain⟨⟨iu,iv,rfl,f1,f2⟩,dg⟩:=p
   have a8:=SX.done o hX f0 dg
   exact Cv a8.1 ⟨_,_,O,(Sl.mono' f1 a8.2),(Sl.mono' f2 a8.2)⟩
  refine GU.cons O O O ?_ ?_
  ·intro X mq G o hX
   intro iw f3
   have hsN:=NP (X:=X) u o
   obtain⟨f4,f5,rfl,b8,b9⟩:=f3
   have b8:Sl _ _ AM.int f4 t.1:=b8
   have b9:Sl _ _ AM.int f5 t.2:=b9
   exact AH 1 (AA O (AO ⟨_,_,O,b8,b9⟩))
  refine GU.cons O O O ?_ ?_
  ·intro X mq G o hX
   intro iy f6
   have hsN:=NP (X:=X) u o
   obtain⟨f7,f8,rfl,ca,dh⟩:=f6
   have ca:Sl _ _ AM.int f7 t.1:=ca
   have dh:Sl _ _ AM.int f8 t.2:=dh
   exact AH 1 (Bi O (AO ca))
  refine GU.cons O O O ?_ ?_
  ·intro X mq G o hX
   intro iz f9
   have hsN:=NP (X:=X) u o
   obtain⟨ga,gb,rfl,di,cb⟩:=f9
   have di:Sl _ _ AM.int ga t.1:=di
   have cb:Sl _ _ AM.int gb t.2:=cb
   exact AH 1 (Bi O (AO cb))
  refine GU.cons O O O ?_ ?_
  ·intro X mq G o hX
   intro gc cc
   have hsN:=NP (X:=X) u o
   have cc:Sl _ _ AM.int gc t.1:=cc
   exact AH 1 (AY O (AO cc))
  refine GU.cons O O O ?_ ?_
  ·intro X mq G o hX
   intro gd a9
   have hsN:=NP (X:=X) u o
   have a9:Sl _ _ AM.int gd t.2:=a9
   exact AH 1 (AY O (AO a9))
  exact trivial
 intro ag X103 am hX104 ba ao dj bb ge gf
 have a0:=(Zl.nil u am hX104).st
 have ao:Sl _ _ AM.int ba t.1:=ao
 have bb:Sl _ _ AM.int dj t.2:=bb
 refine AZ (kp [7,6,5,0,1] O) (WF.sl (AH 8 (AA O (CI O O (AC CU O (AC D4 O (AS A6 a0 O mh O HN O (AA O (AA O ?_)))))))))
 obtain⟨gl,cd,E⟩:=bd E
 refine A4 a0 (mt mh) O O FO cd O λgm ce=>AF ?_
 obtain⟨dk,cf,E⟩:=bd E
 refine En (r:=(AM.sl AM.int)) (l:=p0_w.s.Own) (i:=g) (x:=dk) O O (Mv bb) ce cf Lq.id BP (λ_=>rfl) a0 (.tail .head) λgn bc ah=>AZ (kp [6,5,0,1] O) (AD (AD (Bl (.inl O) bc (AA O ?_))))
 obtain⟨gp,cg,E⟩:=bd E
 refine CE O O O NC O (λh' o=>Ef (St.all h') ((ao.mono' ah).mono' (o.all bc.1)) cg) λdl=>?_
 have gq:=dl
 refine Ft O (BJ (kp [32,6,5,0,1] O) λan j aj=>AX O E (λdm E=>?_) (λdm E=>?_))
 ·refine Ac (λaa ww hf hw=>?_)
  cases E
  exact J9 hf O hw J8 O (e5.trans ((SX.ext u.1 am hX104).trans (ah.trans aj))) ⟨_,_,_,_,O,j⟩
 refine AT (AD (Ts (m:=[(6,ba),(5,q1),(0,vP d 0),(1,vI g)]) 18 [0] (λi v G=>match i with|0=>v=vP d 0|1=>v=vP d 0|2=>v=vP d 0|3=>v=vP d 23|4=>v=ai|5=>v=vP d 0|6=>v=vP d 0|7=>v=vP d 16|8=>v=vP d 16|9=>v=vI p0_w.s.Hour∧AG p0_w.s.Hour|10=>v=vI g∧AG g|11=>Pt (SX S2 h3 ag X103) G AM.int v c.to_|12=>v=vI c.to_∧AG c.to_|13=>Pt (SX S2 h3 ag X103) G AM.int v c.way|14=>v=vI c.way∧AG c.way|15=>Sl (SX S2 h3 ag X103) G AM.int v t.1|16=>Rd (SX S2 h3 ag X103) G BT v (⟨p0_w.s.Hour,g,c.to_,c.way,t.1⟩:Ae)|17=>Sl (SN (SX S2 h3 ag X103) an G) G BT v ([(⟨p0_w.s.Hour,g,c.to_,c.way,t.1⟩:Ae)]:List Ae)∧∃ad,v= .slice (some ad) 1 1|_=>False) [[],[],[(1,34)],[(2,35)],[(3,36)],[],[(5,38)],[(6,39)],[(7,40)],[(8,41)],[],[],[(11,44)],[],[(13,46)],[],[(9,42),(10,43),(12,45),(14,47),(15,48)],[(16,49)]] [(0,33),(4,37),(17,50)] mo (by kernel_rfl) [6,5,0,1] O (by kernel_rfl) (by kernel_rfl) (by kernel_rfl) (kp [6,5,0,1] O) (λi v h1 h2 o1 o2 hr=>?_) ?_ ?_ ?_))
 ·match i,hr with
   |0,hr|1,hr|2,hr|3,hr|4,hr|5,hr|6,hr|7,hr|8,hr|9,hr|10,hr|12,hr|14,hr=>exact hr
   |11,hr|13,hr=>exact N5.mono hr (o2.ext λb hb=>Nat.lt_of_lt_of_le (j.1 b hb) o1.siz)
   |15,hr=>exact Sl.mono' hr (o2.ext λb hb=>Nat.lt_of_lt_of_le (j.1 b hb) o1.siz)
   |16,hr=>exact Rd.mono hr (o2.ext λb hb=>Nat.lt_of_lt_of_le (j.1 b hb) o1.siz)
   |17,hr=>exact⟨Sl.mono' hr.1 (SN.mono j.1 o1 o2),hr.2⟩
   |_+18,hr=>exact hr.elim
 ·refine QB.cons [] (by kernel_rfl) O O (by kernel_rfl) ?_ ?_
  ·intro mq G o
   intro a hf
   exact⟨vP d 0,N8 hf O,O⟩
  exact trivial
 ·refine A0.cons O (λ_ _ _=>AH 1 (AA O (AO O))) (A0.cons O (λ_ _ _=>AH 1 (AA O (AO O))) (A0.cons O (λ_ _ _ _ dn=>by cases dn;exact AH 1 (CI O O (AO O))) (A0.cons O (λ_ _ _ _ dp=>by cases dp;exact AH 1 (AC Nn O (AO O))) (A0.cons O (λ_ _ o _ dq=>by cases dq;exact AH 1 (AS A6 (o.st j) O mh O SG O (AO O))) (A0.cons O (λ_ _ _=>AH 1 (AA O (AO O))) (A0.cons O (λ_ _ _ _ dr=>by cases dr;exact AH 1 (CI O O (AO O))) (A0.cons O (λ_ _ _ _ ds=>by cases ds;exact AH 1 (AC CU O (AO O))) (A0.cons O (λ_ _ _ _ dt=>by cases dt;exact AH 1 (AC Id O (AO O))) (A0.cons O (λ_ _ o _ du=>by cases du;exact AH 1 (AS A6 (o.st j) O mh O Ag O (AO ⟨O,al⟩))) (A0.cons O (λ_ _ _=>AH 1 (AA O (AO ⟨O,a2⟩))) (A0.cons O (λ_ _ o=>AH 1 (Ai O (k6.mono ((SX.ext u.1 am hX104).trans (ah.trans (aj.trans (o.ext j.1))))) Jf Pq O λgr dv=>AO dv)) ?_)))))))))))
  refine A0.cons O (λ_ _ o dw be=>by have be:Pt _ _ AM.int dw c.to_:=be;exact AH 1 (Ah A6 (o.st j).1 O be Ag O λdx=>AO ⟨O,dx⟩)) (A0.cons O (λ_ _ o=>AH 1 (Ai O (k6.mono ((SX.ext u.1 am hX104).trans (ah.trans (aj.trans (o.ext j.1))))) ON XC O λgs dy=>AO dy)) (A0.cons O (λ_ _ o dz bf=>by have bf:Pt _ _ AM.int dz c.way:=bf;exact AH 1 (Ah A6 (o.st j).1 O bf Ag O λd0=>AO ⟨O,d0⟩)) (A0.cons O (λ_ _ o=>AH 1 (AA O (AO (ao.mono' (ah.trans (aj.trans (o.ext j.1))))))) ?_)))
  refine A0.cons O ?_ ?_
  ·intro mq G o
   intro gt d1 gu d2 gv d3 gw d4 d5 a3
   have hsN:=o.st j
   obtain⟨rfl,d6⟩:=d1
   obtain⟨rfl,d7⟩:=d2
   obtain⟨rfl,d8⟩:=d3
   obtain⟨rfl,d9⟩:=d4
   have a3:Sl _ _ AM.int d5 t.1:=a3
   refine AH 1 ?_
   obtain⟨ch,bs,rfl,gx⟩:=(a3).len
   exact Hy (cs:=[vI p0_w.s.Hour,vI g,vI c.to_,vI c.way,(.slice ch t.1.length bs)]) ZI O O O (AO (BT.mk (x:=(⟨p0_w.s.Hour,g,c.to_,c.way,t.1⟩:Ae)) d6 d7 d8 d9 a3))
  refine A0.cons O ?_ ?_
  ·intro mq G o
   intro ea au
   have hsN:=SN.st j o
   have au:=Rd.mono (S':=(SN (SX S2 h3 ag X103) an G)) au ⟨λb hb=> .inl hb,λ_ _=>rfl,Nat.le_refl _⟩
   have au:Rd _ _ BT ea (⟨p0_w.s.Hour,g,c.to_,c.way,t.1⟩:Ae):=au
   have hsF:=hsN.fz
   obtain⟨gy,rfl,eb,ec,ed,ee,bu⟩:=BT.ex au
   obtain⟨ci,bt,rfl,gz⟩:=(bu).len
   refine Dw (cs:=[vI ((⟨p0_w.s.Hour,g,c.to_,c.way,t.1⟩:Ae).Hour),vI ((⟨p0_w.s.Hour,g,c.to_,c.way,t.1⟩:Ae).From),vI ((⟨p0_w.s.Hour,g,c.to_,c.way,t.1⟩:Ae).To),vI ((⟨p0_w.s.Hour,g,c.to_,c.way,t.1⟩:Ae).Way),(.slice ci ((⟨p0_w.s.Hour,g,c.to_,c.way,t.1⟩:Ae).Part).length bt)]) Un O O O O O O O hsF λg0 g1 cj bv=>?_
   have ef:=bu.mono' bv
   have ck:=cj.bxos (r:=BT) (l:=([(⟨p0_w.s.Hour,g,c.to_,c.way,t.1⟩:Ae)]:List Ae)) .head ⟨_,_,O,⟨_,O,eb,ec,ed,ee,ef⟩,O⟩ (by simp [maxLen])
   obtain⟨g2,cl,eg,eh⟩:=ck.pubs .head
   have bg:=Fz.done o (bv.trans eg) cl
   exact Cv bg.1 ⟨Sl.mono' eh bg.2,_,O⟩
  exact trivial
 intro av ap g3 ei g4 ej g5 bh
 have cm:=SN.st j ap
 cases ei
 cases ej
 obtain⟨bh,gg,rfl⟩:=bh
 obtain⟨cn,E⟩:=MR E
 refine JQ (r:=BT) (l:=p0_w.moves) (xs:=([(⟨p0_w.s.Hour,g,c.to_,c.way,t.1⟩:Ae)]:List Ae)) O O Un O (Sl.src bh) O cn O cm (λ_=>(.tail (.tail (.tail (.tail (.tail (.tail (.tail .head)))))))) λg6 g7 bi aw=>AH 2 (CI O O (AC Nn O (AF ?_)))
 obtain⟨ar,ak,rfl,g8⟩:=bi.oslen (mt (mt (mt (mt (mt (mt (mt mh)))))))
 refine Hz (vs:=[(.slice ar (p0_w.moves++([(⟨p0_w.s.Hour,g,c.to_,c.way,t.1⟩:Ae)]:List Ae)).length ak)]) (cs':=[.string p0_w.b.Name,Q,vI p0_w.b.Cells,U,V,W,Y,Z,ab,ac,vI p0_w.b.Err,H,I,J,K,M,vI p0_w.s.Hour,w,z,A,C,D,af,(.slice ar (p0_w.moves++([(⟨p0_w.s.Hour,g,c.to_,c.way,t.1⟩:Ae)]:List Ae)).length ak),F,ae]) O O O O SG O bi .head O O λbw n ax=>AZ (kp [6,5,0] O) (AD (AI ?_))
 have co:=(SX.ext u.1 am hX104).trans (ah.trans (aj.trans ((SN.ext j.1 ap).trans (aw.trans ax))))
 have bj:=k6.mono co
 refine Ai O bj Jf Pq O λg9 ek=>Ah A6 n.1 O ek Ag O λha=>BH O (AN (kp [56,6,5,0] O) (AX O E (λel E=>?_) (λel E=>?_)))
 ·refine WF.sl (AH 7 (AA O (AA O (CI O O (AC CU O (AC HR O (AS A6 n O mh O BP O (AA O (AF ?_)))))))))
  obtain⟨bx,cp,E⟩:=bd E
  refine BZ O O O XV O n (Lg (St.all _) (n.oslAll (mt (mt (mt (mt (mt (mt mh))))))) ((ao.mono' (ah.trans (aj.trans ((SN.ext j.1 ap).trans (aw.trans ax))))).mono (λb hb=>n.1 b hb) (λ_ _=>rfl)) cp) λhc hd he gh em en p=>?_
  have cq:=p
  have a1:=n.join en cq ⟨OS.flat (λ{_ _ _ _ _ _} k=>k),trivial⟩
  simp only[List.cons_append,List.nil_append] at a1
  refine AH 3 (CI O O (AC CU O (AC HR O (AF ?_))))
  obtain⟨bk,a4,rfl,hg⟩:=a1.oslen mh
  refine Hz (vs:=[(.slice bk bx.length a4)]) (cs':=[.string p0_w.b.Name,Q,vI p0_w.b.Cells,U,V,W,Y,Z,ab,ac,vI p0_w.b.Err,H,I,J,K,M,vI p0_w.s.Hour,w,z,A,C,D,(.slice bk bx.length a4),(.slice ar (p0_w.moves++([(⟨p0_w.s.Hour,g,c.to_,c.way,t.1⟩:Ae)]:List Ae)).length ak),F,ae]) O O O O BP O a1 (.tail .head) O O λhi cr eo=>AZ Ou (Ac (λaa ww hf hw=>?_))
  have ct:=cr.sel [1,1,1,1,1,1,0,1,1,1] 1 O
  cases E
  exact J9 hf O hw J8 O (e5.trans ((SX.ext u.1 am hX104).trans (ah.trans (aj.trans ((SN.ext j.1 ap).trans (aw.trans (ax.trans (em.trans eo)))))))) ⟨_,_,_,_,O,ct⟩
 refine AT ?_
 obtain⟨ay,cu,E⟩:=bd E
 refine Ts (m:=[(6,ba),(5,q1),(0,vP d 0)]) 18 [0] (λi v G=>match i with|0=>v=vP d 0|1=>v=vP d 0|2=>v=vP d 0|3=>v=vP d 25|4=>v=ae|5=>v=vP d 0|6=>v=vP d 0|7=>v=vP d 16|8=>v=vP d 16|9=>v=vI p0_w.s.Hour∧AG p0_w.s.Hour|10=>v=vI (BC (p0_w.s.Hour+1))∧AG (BC (p0_w.s.Hour+1))|11=>Pt (SN (SX S2 h3 ag X103) an av) G AM.int v c.delay|12=>v=vI c.delay∧AG c.delay|13=>v=vI (BC ((BC (p0_w.s.Hour+1))+c.delay))∧AG (BC ((BC (p0_w.s.Hour+1))+c.delay))|14=>Pt (SN (SX S2 h3 ag X103) an av) G AM.int v c.to_|15=>v=vI c.to_∧AG c.to_|16=>Sl (SN (SX S2 h3 ag X103) an av) G AM.int v t.1|17=>Sl (SN (SN (SX S2 h3 ag X103) an av) bw G) G Ap v ay|_=>False) [[],[],[(1,69)],[(2,70)],[(3,71)],[],[(5,73)],[(6,74)],[(7,75)],[(8,76)],[(9,77)],[],[(11,79)],[(10,78),(12,80)],[],[(14,82)],[],[(13,81),(15,83),(16,84)]] [(0,68),(4,72),(17,85)] mo (by kernel_rfl) [6,5,0] O (by kernel_rfl) (by kernel_rfl) (by kernel_rfl) (kp [6,5,0] O) (λi v h1 h2 o1 o2 hr=>?_) ?_ ?_ ?_
 ·match i,hr with
   |0,hr|1,hr|2,hr|3,hr|4,hr|5,hr|6,hr|7,hr|8,hr|9,hr|10,hr|12,hr|13,hr|15,hr=>exact hr
   |11,hr|14,hr=>exact N5.mono hr (o2.ext λb hb=>Nat.lt_of_lt_of_le (n.1 b hb) o1.siz)
   |16,hr=>exact Sl.mono' hr (o2.ext λb hb=>Nat.lt_of_lt_of_le (n.1 b hb) o1.siz)
   |17,hr=>exact Sl.mono' hr (SN.mono n.1 o1 o2)
   |_+18,hr=>exact hr.elim
 ·refine QB.cons [] (by kernel_rfl) O O (by kernel_rfl) ?_ ?_
  ·intro mq G o
   intro a hf
   exact⟨vP d 0,N8 hf O,O⟩
  exact trivial
 ·refine A0.cons O (λ_ _ _=>AH 1 (AA O (AO O))) (A0.cons O (λ_ _ _=>AH 1 (AA O (AO O))) (A0.cons O (λ_ _ _ _ ep=>by cases ep;exact AH 1 (CI O O (AO O))) (A0.cons O (λ_ _ _ _ eq=>by cases eq;exact AH 1 (AC Rb O (AO O))) (A0.cons O (λ_ _ o _ er=>by cases er;exact AH 1 (AS A6 (o.st n) O mh O LG O (AO O))) (A0.cons O (λ_ _ _=>AH 1 (AA O (AO O))) (A0.cons O (λ_ _ _ _ es=>by cases es;exact AH 1 (CI O O (AO O))) (A0.cons O (λ_ _ _ _ et=>by cases et;exact AH 1 (AC CU O (AO O))) (A0.cons O (λ_ _ _ _ eu=>by cases eu;exact AH 1 (AC Id O (AO O))) (A0.cons O (λ_ _ o _ ev=>by cases ev;exact AH 1 (AS A6 (o.st n) O mh O Ag O (AO ⟨O,al⟩))) (A0.cons O (λ_ _ _ _ ew=>by obtain⟨rfl,hj⟩:=ew;exact AH 1 (Af O (AO ⟨O,(BI _)⟩))) (A0.cons O (λ_ _ o=>AH 1 (Ai O (bj.mono (o.ext n.1)) NR XD O λhk ey=>AO ey)) ?_)))))))))))
  refine A0.cons O (λ_ _ o ez bl=>by have bl:Pt _ _ AM.int ez c.delay:=bl;exact AH 1 (Ah A6 (o.st n).1 O bl Ag O λe0=>AO ⟨O,e0⟩)) (A0.cons O (λ_ _ _=>by intro hl e1 hm e2;obtain ⟨rfl,hn⟩:=e1;obtain ⟨rfl,ho⟩:=e2;exact AH 1 (Af O (AO ⟨O,(BI _)⟩))) (A0.cons O (λ_ _ o=>AH 1 (Ai O (bj.mono (o.ext n.1)) Jf Pq O λhp e3=>AO e3)) (A0.cons O (λ_ _ o e4 bm=>by have bm:Pt _ _ AM.int e4 c.to_:=bm;exact AH 1 (Ah A6 (o.st n).1 O bm Ag O λe6=>AO ⟨O,e6⟩)) (A0.cons O (λ_ _ o=>AH 1 (AA O (AO (ao.mono' (ah.trans (aj.trans ((SN.ext j.1 ap).trans (aw.trans (ax.trans (o.ext n.1)))))))))) ?_))))
  refine A0.cons O ?_ ?_
  ·intro mq G o
   intro hq e7 ht e8 e9 az
   have hsN:=SN.st n o
   obtain⟨rfl,fb⟩:=e7
   obtain⟨rfl,fc⟩:=e8
   have az:=Sl.mono' (S':=(SN (SN (SX S2 h3 ag X103) an av) bw G)) az ⟨λb hb=> .inl hb,λ_ _=>rfl,Nat.le_refl _⟩
   have az:Sl _ _ AM.int e9 t.1:=az
   have hsF:=hsN.fz
   refine Cn O O O fH O (Pd hsF fb fc az cu) λhu hv hx fd p=>?_
   have cv:=p
   obtain⟨hy,cw,fe,ff⟩:=cv.pubs .head
   have bn:=Fz.done o (fd.trans fe) cw
   exact Cv bn.1 (Sl.mono' ff bn.2)
  exact trivial
 intro hz bz h0 fg h4 fh fi bo
 have cx:=SN.st n bz
 cases fg
 cases fh
 have bo:Sl _ _ Ap fi ay:=bo
 obtain⟨cy,E⟩:=MR E
 refine JQ (r:=Ap) (l:=p0_w.sent) (xs:=ay) O O Qn O (Sl.src bo) O cy O cx (λ_=>(.tail (.tail (.tail (.tail (.tail (.tail (.tail (.tail (.tail .head)))))))))) λh5 h6 bp fj=>AH 2 (CI O O (AC Rb O (AF ?_)))
 obtain⟨bq,a5,rfl,h7⟩:=bp.oslen (mt (mt (mt (mt (mt (mt (mt (mt (mt mh)))))))))
 refine Hz (vs:=[(.slice bq (p0_w.sent++ay).length a5)]) (cs':=[.string p0_w.b.Name,Q,vI p0_w.b.Cells,U,V,W,Y,Z,ab,ac,vI p0_w.b.Err,H,I,J,K,M,vI p0_w.s.Hour,w,z,A,C,D,af,(.slice ar (p0_w.moves++([(⟨p0_w.s.Hour,g,c.to_,c.way,t.1⟩:Ae)]:List Ae)).length ak),F,(.slice bq (p0_w.sent++ay).length a5)]) O O O O LG O bp .head O O λh8 cz fk=>AZ Ou (WF.nil (λaa ww hf hw=>?_))
 cases E
 exact J9 hf O hw J8 O (e5.trans ((SX.ext u.1 am hX104).trans (ah.trans (aj.trans ((SN.ext j.1 ap).trans (aw.trans (ax.trans ((SN.ext n.1 bz).trans (fj.trans fk))))))))) ⟨_,_,_,_,O,cz⟩
end Go.Proofs.YtblcgjadhemlbaaGreat
