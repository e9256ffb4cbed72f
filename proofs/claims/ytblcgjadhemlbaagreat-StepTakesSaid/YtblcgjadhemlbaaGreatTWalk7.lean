import Derived.Test.YtblcgjadhemlbaaGreatTWalk6
namespace Go.Proofs.YtblcgjadhemlbaaGreat
open Go.RowKit
set_option linter.unusedVariables false
set_option linter.unusedSimpArgs false
set_option maxRecDepth 10000
set_option maxHeartbeats 2000000
variable {N:Nat}{S:Nat→Prop}{L:List HP}{h:Aw}
theorem Re (hs:St S L h) {d:Value}{u:A4}(m:Rd S h Bv d u) {g:Value}{b:Ax}(o:Rd S h BE g b) {c:Int}(i:AE c) {r:Ax}(E:JB N u b c=some r):
 CL Tryz.prog 22 #[d,g,vI c] S h (λv S' h'=>v= .agg #[vI r.Pos,vI r.Target,.bool r.Stuck,.bool r.Open]∧Ax.ok r∧St S' (L) h'):=by
 refine BF (l:=[d,g,vI c]) 16 Tryz.func22 O Tryz.ntmps22 O λB=>?_
 rw[JB] at E
 refine WF.sl (B3 O m (λe=>by cases e) O hs λq1 S2 h3 X e5 k6=>?_)
 obtain⟨rfl,⟨r9,Y⟩⟩:=BE.ex (o.mono e5)
 refine P9 O O O X λA am C D=>Cn SH O C λF G j H=>AZ (kp [6,4,3,2] O) (AC (AH ?_))
 have I:=k6.mono (D.trans H)
 refine Af O I D5 JI O λan Z=>Ag A6 j.1 O Z Ae O λao=>Bl O (AM (kp [9,6,4,3,2] O) (Ga (λa w=>∃(k:Int),IV B S2 G (16,[]) a w [(6,vP F 0),(4,vP A 0)] (Bx F 69 [vI 0,vI 0,.bool false,.bool false]::Bx A 69 [vI b.Pos,vI k,.bool b.Stuck,.bool b.Open]::L) λ_ _=>AE k∧Jo N b k=some r) ?_ ?_))
 ·refine AX O E (λab E=>?_) (λab E=>?_)
  ·refine EX (AI 3 (AA O (Af O I D5 JI O λap ac=>Ag A6 j.1 O ac Ae O λad=>AG ?_)))
   obtain⟨z,J,E⟩:=bd E
   refine Bf O O O Ur O j (I8 (St.all _) i (iq (n:=0) O) ad J) λaq ar au K ae av p=>?_
   obtain⟨rfl,af,ak⟩:=p
   refine AI 1 (AD PK O (AG (H2 (vs:=[vI z]) (cs':=[vI b.Pos,vI z,.bool b.Stuck,.bool b.Open]) O O O O Ae O K (.tail .head) O O λaw M ag=>AZ (kp [6,4] O) (WF.nil (λV W s t=>?_)))))
   exact⟨z,_,_,s.sub (kp [6,4] O),t,M,(ae.trans ag),af,E⟩
  refine AO (WF.nil (λV W s t=>?_))
  exact⟨b.Target,_,_,s.sub (kp [6,4] O),t,j,(B9.refl S2 G),Y,E⟩
 rintro V W ⟨k,ax,ay,s,t,x,ah,ai,E⟩
 refine Ac ?_ s t
 clear s t W V
 rw[Jo] at E
 refine WF.sl (AI 1 (Dk (vs:=[vI b.Pos,vI k,.bool b.Stuck,.bool b.Open]) A6 x O (mt mh) O O Gn O O (AG (DW (vs:=[vI b.Pos,vI k,.bool b.Stuck,.bool b.Open]) O O O O Gn O x .head O λaz Q aj=>AZ (kp [6] O) (Ad (λV W s t=>?_))))))
 have y:=Q.drop (.tail .head)
 have U:=y.drop .head
 cases E
 exact KD s O t (IF (Xq s t y O mh Gn O) KC) O (e5.trans (D.trans (H.trans (ah.trans aj)))) ⟨O,⟨r9,ai⟩,U⟩
theorem Iz (hs:St S L h) {b:Int}(g:AE b) {a:Int}(i:AE a) {r:Int}(E:Ge N b a=some r):
 CL Tryz.prog 46 #[vI b,vI a] S h (λv S' h'=>v=vI r∧AE r∧St S' (L) h'):=by
 refine BF (l:=[vI b,vI a]) 24 Tryz.func46 O Tryz.ntmps46 O λB=>?_
 rw[Ge] at E
 refine AH (AL O (kp [0,1] O) (AC (AH (AA O (Ao O (AA O (AV 5 12 (.bool ((decide (a<0))&&(decide ((BM (9223372036854775807+a))<b)))) ?_ ?_)))))))
 ·cases p:(decide (a<0))
  ·exact Aa O O
  exact AB O (AA O (AB O (AA O (AB O (Ai O (AB O (Bk O (AJ O (AU O)))))))))
 refine AM (kp [12,0,1] O) (AX O E (λm E=>?_) (λm E=>?_))
 ·refine AH (AL O (kp [4] O) (Ad (λj k c d=>?_)))
  cases E
  exact Dr c d O O (B9.refl S h) ⟨O,(iq (n:=9223372036854775807) O),hs⟩
 refine AO (AC (AH (AA O (Bk O (AA O (AV 5 20 (.bool ((decide (0<a))&&(decide (b<(BM ((-9223372036854775808)+a)))))) ?_ ?_))))))
 ·cases q:(decide (0<a))
  ·exact Aa O O
  exact AB O (AA O (AB O (AA O (AB O (Ai O (AB O (Ao O (AJ O (AU O)))))))))
 refine AM (kp [20,0,1] O) (AX O E (λo E=>?_) (λo E=>?_))
 ·refine AH (AL O (kp [4] O) (Ad (λj k c d=>?_)))
  cases E
  exact Dr c d O O (B9.refl S h) ⟨O,(iq (n:=(-9223372036854775808)) O),hs⟩
 refine AO (AH (AA O (AA O (Cz O (AL O (kp [4] O) (Ad (λj k c d=>?_)))))))
 cases E
 exact Dr c d O O (B9.refl S h) ⟨O,(BG _),hs⟩
theorem QR (hs:St S L h) {c:Value}{k:A4}(g:Rd S h Bv c k) {d:Value}{a:Ax}(i:Rd S h BE d a) {r:Ax}(E:IY N k a=some r):
 CL Tryz.prog 24 #[c,d] S h (λv S' h'=>v= .agg #[vI r.Pos,vI r.Target,.bool r.Stuck,.bool r.Open]∧Ax.ok r∧St S' (L) h'):=by
 refine BF (l:=[c,d]) 26 Tryz.func24 O Tryz.ntmps24 O λB=>?_
 rw[IY] at E
 refine WF.sl (B3 O g (λe=>by cases e) O hs λq1 S2 h3 V W k6=>?_)
 obtain⟨rfl,⟨X,w⟩⟩:=BE.ex (i.mono W)
 refine P9 O O O V λau av z x=>Cn SH O z λaw ax b y=>AZ (kp [4,3,2] O) (AC (AH (AD Rj O (AT A6 b O (mt mh) O Ol O (AM (kp [7,4,3,2] O) (AX O E (λY E=>?_) (λY E=>?_)))))))
 ·refine WF.sl (AI 1 (Dk (vs:=[vI a.Pos,vI a.Target,.bool a.Stuck,.bool a.Open]) A6 b O (mt mh) O O Gn O O (AG (DW (vs:=[vI a.Pos,vI a.Target,.bool a.Stuck,.bool a.Open]) O O O O Gn O b .head O λay A Z=>AZ (kp [4] O) (Ad (λaa ww C D=>?_))))))
  have m:=A.drop (.tail .head)
  have F:=m.drop .head
  cases E
  exact KD C O D (IF (Xq C D m O mh Gn O) KC) O (W.trans (x.trans (y.trans Z))) ⟨O,⟨X,w⟩,F⟩
 refine AO (AC (Bt (.inr ⟨mo,by kernel_rfl⟩) b (AD PK O (AT Bg b O (mt mh) O Ae O (AD Mt O (AT Bg b O (mt mh) O Ae O ?_))))))
 obtain⟨az,G,E⟩:=bd E
 refine CX O O O TK O (λh' o=>Iz (St.all h') w X G) λab=>?_
 have ac:=ab
 have H:=k6.mono (x.trans y)
 refine Af O H I2 Nr O λa0 ad=>Ag Bg b.1 O ad Ae O λae=>?_
 obtain⟨a1,I,E⟩:=bd E
 refine CX O O O TK O (λh' o=>Iz (St.all h') (iq (n:=0) O) ae I) λaf=>?_
 have ag:=af
 refine Af O H I2 Nr O λa2 ah=>Ag Bg b.1 O ah Ae O λai=>?_
 obtain⟨a3,J,E⟩:=bd E
 refine CX O O O Ur O (λh' o=>I8 (St.all h') ac ag ai J) λaj=>?_
 have ak:=aj
 refine AY O (BQ (kp [5,4,3] O) λa4 s am=>WF.sl (AI 3 (AD Mt O (AT A6 s O (mt mh) O Ae O (AA O (AG ?_))))))
 obtain⟨j,K,E⟩:=bd E
 refine Bf O O O Qt O s (IH (St.all _) X ak K) λa5 a6 a7 M an a8 p=>?_
 obtain⟨rfl,ao,ar⟩:=p
 refine AI 1 (AD Mt O (AG (H2 (vs:=[vI j]) (cs':=[vI j,vI a.Target,.bool a.Stuck,.bool a.Open]) O O O O Ae O M (.tail .head) O O λa9 t ap=>AZ (kp [4,3] O) (WF.sl (AI 1 (Dk (vs:=[vI j,vI a.Target,.bool a.Stuck,.bool a.Open]) A6 t O (mt mh) O O Gn O O (AG (DW (vs:=[vI j,vI a.Target,.bool a.Stuck,.bool a.Open]) O O O O Gn O t .head O λba Q aq=>AZ (kp [4] O) (Ad (λaa ww C D=>?_))))))))))
 have u:=Q.drop (.tail .head)
 have U:=u.drop .head
 cases E
 exact KD C O D (IF (Xq C D u O mh Gn O) KC) O (W.trans (x.trans (y.trans (am.trans (an.trans (ap.trans aq)))))) ⟨O,⟨ao,w⟩,U⟩
theorem M4 {A:Nat}{p0_w:An}{I:Value}{J:Value}{H:Value}{K:Value}{M:Value}{Q:Value}{U:Value}{V:Value}{C:Value}{y:Value}{z:Value}{D:Value}{F:Value}{c:Value}{d:Value}{G:Value}{u:Value}{g:Value}{j:Value}{k:Value}{m:Value}{p:Value}(hs:St S (Bx A 84 [.string p0_w.b.Name,I,vI p0_w.b.Cells,J,H,K,M,Q,U,V,vI p0_w.b.Err,C,y,z,D,F,vI p0_w.s.Hour,c,d,G,u,g,j,k,m,p]::OO AN.int 3 29 c p0_w.s.Own::OS AN.int 3 d p0_w.s.Rem::OS BE 69 u p0_w.s.Gates::OS AN.int 3 g p0_w.s.In::OS AN.int 3 j p0_w.s.Out::OS BJ 50 k p0_w.moves::OS AN.int 3 m p0_w.peaks::OS Ar 60 p p0_w.sent::L) h) (cn:p0_w.b.Name.size≤maxLen) (co:Sl S h AN.str I p0_w.b.Owners) (cp:AE p0_w.b.Cells) (cq:Sl S h B1 J p0_w.b.Places) (ab:Sl S h Bv H p0_w.b.Links) (cr:Sl S h GQ K p0_w.b.Towns) (cs:Sl S h EV M p0_w.b.Gauges) (ct:Sl S h Fp Q p0_w.b.Roads) (cu:Sl S h Cx U p0_w.b.Shelters) (cv:Sl S h AN.int V p0_w.b.Room) (bl:AE p0_w.b.Err) (bm:Sl S h AN.int C p0_w.in_.Rain) (ac:Sl S h FM y p0_w.in_.Faults) (ag:Sl S h Ic z p0_w.in_.Cmds) (bn:Sl S h FO D p0_w.in_.Takes) (bo:Sl S h GC F p0_w.in_.Swaps) (bp:AE p0_w.s.Hour) (bq:Sl S h Ar G p0_w.s.Queue) {r:(List Ax)}(E:HD N p0_w=some r):
 CL Tryz.prog 30 #[vP A 0] S h (λv S' h'=>∃w_0_20:Value,v= .tuple #[]∧St S' (Bx A 84 [.string p0_w.b.Name,I,vI p0_w.b.Cells,J,H,K,M,Q,U,V,vI p0_w.b.Err,C,y,z,D,F,vI p0_w.s.Hour,c,d,G,w_0_20,g,j,k,m,p]::OO AN.int 3 29 c p0_w.s.Own::OS AN.int 3 d p0_w.s.Rem::OS BE 69 w_0_20 r::OS AN.int 3 g p0_w.s.In::OS AN.int 3 j p0_w.s.Out::OS BJ 50 k p0_w.moves::OS AN.int 3 m p0_w.peaks::OS Ar 60 p p0_w.sent::L) h'):=by
 refine BF (l:=[vP A 0]) 135 Tryz.func30 O Tryz.ntmps30 O λB=>?_
 rw[HD] at E
 refine AC (AH (AA O (CN O O (AD Ms O (AD Ul O (AT A6 hs O mh O Y9 O (Ak O ac V7 O λb1=>AA O (AM (kp [14,13,12,0] O) (Aj (λa w=>∃(l2:List Ax),IV B S h (135,[]) a w [(0,vP A 0)] (Bx A 84 [.string p0_w.b.Name,I,vI p0_w.b.Cells,J,H,K,M,Q,U,V,vI p0_w.b.Err,C,y,z,D,F,vI p0_w.s.Hour,c,d,G,u,g,j,k,m,p]::OO AN.int 3 29 c p0_w.s.Own::OS AN.int 3 d p0_w.s.Rem::OS BE 69 u l2::OS AN.int 3 g p0_w.s.In::OS AN.int 3 j p0_w.s.Out::OS BJ 50 k p0_w.moves::OS AN.int 3 m p0_w.peaks::OS Ar 60 p p0_w.sent::L) λ_ _=>Cg N p0_w l2=some r) ?_ ?_)))))))))
 ·refine A3 (λn1=>λa w=>∃(i6:Int) (l8:List Ax),IV B S h (135,[]) a w [(13,vI (↑p0_w.in_.Faults.length:Int)),(12,y),(0,vP A 0),(14,vI i6)] (Bx A 84 [.string p0_w.b.Name,I,vI p0_w.b.Cells,J,H,K,M,Q,U,V,vI p0_w.b.Err,C,y,z,D,F,vI p0_w.s.Hour,c,d,G,u,g,j,k,m,p]::OO AN.int 3 29 c p0_w.s.Own::OS AN.int 3 d p0_w.s.Rem::OS BE 69 u l8::OS AN.int 3 g p0_w.s.In::OS AN.int 3 j p0_w.s.Out::OS BJ 50 k p0_w.moves::OS AN.int 3 m p0_w.peaks::OS Ar 60 p p0_w.sent::L) λ_ _=>AE i6∧CR N p0_w (Cg N p0_w) n1 i6 l8=some r) N ?_ ?_ ?_
  ·intro aa ww Z hw
   exact⟨0,p0_w.s.Gates,_,_,Z.sub (kp [13,12,0,14] O),hw,hs,(B9.refl S h),(iq (n:=0) O),E⟩
  ·rintro aa ww ⟨_,_,_,_,_,_,_,_,_,E⟩
   rw[CR] at E;cases E
  rintro n1 aa ww ⟨i6,l8,S9,em,Z,hw,ao,ap,r7,E⟩
  refine Ac ?_ Z hw
  clear Z hw ww aa
  rw[CR] at E
  refine AH (Ao O (AM (kp [15,13,12,0,14] O) (AC (AX O E (λen E=>?_) (λen E=>?_)))))
  ·refine AO (AC (Aj (λa w=>∃(a3:List Ax),IV B S9 em (135,[]) a w [(13,vI (↑p0_w.in_.Faults.length:Int)),(12,y),(0,vP A 0),(14,vI i6)] (Bx A 84 [.string p0_w.b.Name,I,vI p0_w.b.Cells,J,H,K,M,Q,U,V,vI p0_w.b.Err,C,y,z,D,F,vI p0_w.s.Hour,c,d,G,u,g,j,k,m,p]::OO AN.int 3 29 c p0_w.s.Own::OS AN.int 3 d p0_w.s.Rem::OS BE 69 u a3::OS AN.int 3 g p0_w.s.In::OS AN.int 3 j p0_w.s.Out::OS BJ 50 k p0_w.moves::OS AN.int 3 m p0_w.peaks::OS Ar 60 p p0_w.sent::L) λ_ _=>F7 N i6 (CR N p0_w (Cg N p0_w) n1) a3=some r) ?_ ?_))
   ·refine WF.sl (AI 2 ?_)
    obtain⟨a4,cw,E⟩:=bd E
    refine A9 O O (ac.mono' ap) V7 cw O λga eo=>B6 A6 ao.1 O eo Y7 (λe=>by cases e) O λgb ep=>AG (Cn cJ O ao λgc gd cx aq=>?_)
    obtain⟨rfl,⟨eq,er⟩⟩:=FM.ex (ep.mono aq)
    refine DW (vs:=[vI a4.Kind,vI a4.Link]) O O O O Y7 O cx .head O λge ar a5=>AZ (kp [3,13,12,0,14] O) (AC (Bt (.inr ⟨mo,by kernel_rfl⟩) ar (AD PJ O (AT Bg ar O mh O Ae O (AA O (CN O O (AD GE O (AD HA O (AT Bg ar O (mt mh) O Jv O (Ak O (ab.mono' (ap.trans (aq.trans a5))) H6 O λes=>?_))))))))))
    obtain⟨gf,cy,E⟩:=bd E
    refine A5 O O O Of O (λh' o=>Fx (St.all h') er (JY es) cy) (BQ (kp [26,3,13,12,0,14] O) λgg X br=>AX O E (λet E=>?_) (λet E=>?_))
    ·refine LD 29 mo (by kernel_rfl) O X (AA O (CN O O (AD CZ O (AD Hw O (AT Bg X O (mt mh) O Ke O (AD PJ O (AT Bg X O mh O Ae O (AA O (CN O O (AD GE O (AD HA O (AT Bg X O (mt mh) O Jv O (AD PJ O (AT Bg X O mh O Ae O ?_))))))))))))))
     obtain⟨gh,cz,E⟩:=bd E
     refine A9 O O (ab.mono' (ap.trans (aq.trans (a5.trans br)))) H6 cz O λgi eu=>B6 Bg X.1 O eu HW (λe=>by cases e) O λgj ev=>AA O (CN O O (AD CZ O (AD Hw O (AT Bg X O (mt mh) O Ke O (AD PJ O (AT Bg X O mh O Ae O ?_))))))
     obtain⟨gk,c0,E⟩:=bd E
     refine A0 X (mt (mt (mt (mt mh)))) O O KJ c0 O λgl c1=>?_
     obtain⟨gm,c2,E⟩:=bd E
     have ew:=X.epAt (mt (mt (mt (mt mh)))) c2 FL.id c1
     refine B6 Bg (λ_ x=>x) O ew Gn (λe=>by cases e) O λgn ey=>AD YQ O (AT Bg X O mh O Ae O ?_)
     obtain⟨c3,c4,E⟩:=bd E
     refine CX O O O gR O (λh' o=>Pv (St.all h') (ev.mono (o.all X.1)) (ey.mono (o.all X.1)) eq c4) λez=>?_
     obtain⟨e0,e1⟩:=ez
     obtain⟨gp,c5,E⟩:=bd E
     refine A0 X (mt (mt (mt (mt mh)))) O O KJ c5 O λgq c6=>Jp λgr c7 e2=>?_
     obtain⟨e3,c8,E⟩:=bd E
     refine Er (r:=BE) (l:=l8) (i:=a4.Link) (x:=e3) O O (BE.mk (x:=c3) ⟨e0,e1⟩) c6 c8 Lr.id Gn (λe=>by cases e) c7 (.tail (.tail (.tail (.tail .head)))) λgs c9 e4=>AZ (kp [13,12,0,14] O) (WF.nil (λaa ww Z hw=>?_))
     have da:=c9.sel [1,1,1,1,1,1,1,1,1] 1 O
     exact⟨(upd l8 a4.Link c3),_,_,Z.sub (kp [13,12,0,14] O),hw,da,(aq.trans (a5.trans (br.trans (e2.trans e4)))),E⟩
    refine AO (WF.nil (λaa ww Z hw=>?_))
    have db:=X.sel [1,1,1,1,1,1,1,1,1] 1 O
    exact⟨l8,_,_,Z.sub (kp [13,12,0,14] O),hw,db,(aq.trans (a5.trans br)),E⟩
   rintro aa ww ⟨a3,gt,gu,Z,hw,dc,e5,E⟩
   refine Ac ?_ Z hw
   clear Z hw ww aa
   rw[F7] at E
   refine BY (.inl O) (Ai O (AA O (AM (kp [14,13,12,0] O) (WF.nil (λaa ww Z hw=>?_)))))
   exact⟨(BM (i6+1)),a3,_,_,Z.sub (kp [13,12,0,14] O),hw,dc,(ap.trans e5),(BG _),E⟩
  refine BA O (λaa ww Z hw=>?_)
  exact⟨l8,_,_,Z.sub (kp [0] O),hw,ao,ap,E⟩
 rintro aa ww ⟨l2,bs,bt,Z,hw,a9,au,E⟩
 refine Ac ?_ Z hw
 clear Z hw ww aa
 rw[Cg] at E
 refine AC (AH (AA O (CN O O (AD Ms O (AD Uk O (AT A6 a9 O mh O Y8 O ?_))))))
 have dd:=ag.mono' au
 refine Ak O dd V6 O λgv=>AA O (AM (kp [63,62,61,0] O) (Aj (λa w=>∃(a6:List Ax),IV B bs bt (135,[]) a w [(0,vP A 0)] (Bx A 84 [.string p0_w.b.Name,I,vI p0_w.b.Cells,J,H,K,M,Q,U,V,vI p0_w.b.Err,C,y,z,D,F,vI p0_w.s.Hour,c,d,G,u,g,j,k,m,p]::OO AN.int 3 29 c p0_w.s.Own::OS AN.int 3 d p0_w.s.Rem::OS BE 69 u a6::OS AN.int 3 g p0_w.s.In::OS AN.int 3 j p0_w.s.Out::OS BJ 50 k p0_w.moves::OS AN.int 3 m p0_w.peaks::OS Ar 60 p p0_w.sent::L) λ_ _=>Cf N p0_w a6=some r) ?_ ?_))
 ·refine A3 (λn4=>λa w=>∃(ah:Int) (ai:List Ax),IV B bs bt (135,[]) a w [(62,vI (↑p0_w.in_.Cmds.length:Int)),(61,z),(0,vP A 0),(63,vI ah)] (Bx A 84 [.string p0_w.b.Name,I,vI p0_w.b.Cells,J,H,K,M,Q,U,V,vI p0_w.b.Err,C,y,z,D,F,vI p0_w.s.Hour,c,d,G,u,g,j,k,m,p]::OO AN.int 3 29 c p0_w.s.Own::OS AN.int 3 d p0_w.s.Rem::OS BE 69 u ai::OS AN.int 3 g p0_w.s.In::OS AN.int 3 j p0_w.s.Out::OS BJ 50 k p0_w.moves::OS AN.int 3 m p0_w.peaks::OS Ar 60 p p0_w.sent::L) λ_ _=>AE ah∧CQ N p0_w (Cf N p0_w) n4 ah ai=some r) N ?_ ?_ ?_
  ·intro aa ww Z hw
   exact⟨0,l2,_,_,Z.sub (kp [62,61,0,63] O),hw,a9,(B9.refl bs bt),(iq (n:=0) O),E⟩
  ·rintro aa ww ⟨_,_,_,_,_,_,_,_,_,E⟩
   rw[CQ] at E;cases E
  rintro n4 aa ww ⟨ah,ai,e6,e7,Z,hw,av,aw,gw,E⟩
  refine Ac ?_ Z hw
  clear Z hw ww aa
  rw[CQ] at E
  refine AH (Ao O (AM (kp [64,62,61,0,63] O) (AC (AX O E (λe8 E=>?_) (λe8 E=>?_)))))
  ·refine AO (AC (Aj (λa w=>∃(a7:List Ax),IV B e6 e7 (135,[]) a w [(62,vI (↑p0_w.in_.Cmds.length:Int)),(61,z),(0,vP A 0),(63,vI ah)] (Bx A 84 [.string p0_w.b.Name,I,vI p0_w.b.Cells,J,H,K,M,Q,U,V,vI p0_w.b.Err,C,y,z,D,F,vI p0_w.s.Hour,c,d,G,u,g,j,k,m,p]::OO AN.int 3 29 c p0_w.s.Own::OS AN.int 3 d p0_w.s.Rem::OS BE 69 u a7::OS AN.int 3 g p0_w.s.In::OS AN.int 3 j p0_w.s.Out::OS BJ 50 k p0_w.moves::OS AN.int 3 m p0_w.peaks::OS Ar 60 p p0_w.sent::L) λ_ _=>F6 N ah (CQ N p0_w (Cf N p0_w) n4) a7=some r) ?_ ?_))
   ·refine WF.sl (AI 2 ?_)
    obtain⟨a8,de,E⟩:=bd E
    refine A9 O O (dd.mono' aw) V6 de O λgx e9=>B6 A6 av.1 O e9 Y6 (λe=>by cases e) O λfa df=>AG (Cn cI O av λfb fc bu ae=>?_)
    obtain⟨rfl,⟨dg,dh⟩⟩:=Ic.ex (df.mono ae)
    refine DW (vs:=[vI a8.Link,vI a8.Target]) O O O O Y6 O bu .head O λfd aj am=>AZ (kp [5,62,61,0,63] O) (AC (Bt (.inr ⟨mo,by kernel_rfl⟩) aj (AD PI O (AT Bg aj O mh O Ae O (AA O (CN O O (AD GE O (AD HA O (AT Bg aj O (mt mh) O Jv O (Ak O (ab.mono' (au.trans (aw.trans (ae.trans am)))) H6 O λdi=>?_))))))))))
    obtain⟨fe,bv,E⟩:=bd E
    refine A5 O O O Of O (λh' o=>Fx (St.all h') dg (JY di) bv) (BQ (kp [75,5,62,61,0,63] O) λff W ax=>AX O E (λdj E=>?_) (λdj E=>?_))
    ·refine LD 29 mo (by kernel_rfl) O W (AA O (CN O O (AD CZ O (AD Hw O (AT Bg W O (mt mh) O Ke O (AD PI O (AT Bg W O mh O Ae O (AA O (CN O O (AD GE O (AD HA O (AT Bg W O (mt mh) O Jv O (AD PI O (AT Bg W O mh O Ae O ?_))))))))))))))
     obtain⟨fg,bw,E⟩:=bd E
     refine A9 O O (ab.mono' (au.trans (aw.trans (ae.trans (am.trans ax))))) H6 bw O λfh dk=>B6 Bg W.1 O dk HW (λe=>by cases e) O λfi dl=>AA O (CN O O (AD CZ O (AD Hw O (AT Bg W O (mt mh) O Ke O (AD PI O (AT Bg W O mh O Ae O ?_))))))
     obtain⟨fj,bx,E⟩:=bd E
     refine A0 W (mt (mt (mt (mt mh)))) O O KJ bx O λfk bz=>?_
     obtain⟨fl,b0,E⟩:=bd E
     have dm:=W.epAt (mt (mt (mt (mt mh)))) b0 FL.id bz
     refine B6 Bg (λ_ x=>x) O dm Gn (λe=>by cases e) O λfm dn=>AD YP O (AT Bg W O mh O Ae O ?_)
     obtain⟨ba,b2,E⟩:=bd E
     refine CX O O O gQ O (λh' o=>Re (St.all h') (dl.mono (o.all W.1)) (dn.mono (o.all W.1)) dh b2) λdp=>?_
     obtain⟨dq,dr⟩:=dp
     obtain⟨fn,b3,E⟩:=bd E
     refine A0 W (mt (mt (mt (mt mh)))) O O KJ b3 O λfo b4=>Jp λfp b5 ds=>?_
     obtain⟨dt,b6,E⟩:=bd E
     refine Er (r:=BE) (l:=ai) (i:=a8.Link) (x:=dt) O O (BE.mk (x:=ba) ⟨dq,dr⟩) b4 b6 Lr.id Gn (λe=>by cases e) b5 (.tail (.tail (.tail (.tail .head)))) λfq b7 du=>AZ (kp [62,61,0,63] O) (WF.nil (λaa ww Z hw=>?_))
     have b8:=b7.sel [1,1,1,1,1,1,1,1,1] 1 O
     exact⟨(upd ai a8.Link ba),_,_,Z.sub (kp [62,61,0,63] O),hw,b8,(ae.trans (am.trans (ax.trans (ds.trans du)))),E⟩
    refine AO (WF.nil (λaa ww Z hw=>?_))
    have b9:=W.sel [1,1,1,1,1,1,1,1,1] 1 O
    exact⟨ai,_,_,Z.sub (kp [62,61,0,63] O),hw,b9,(ae.trans (am.trans ax)),E⟩
   rintro aa ww ⟨a7,fr,fs,Z,hw,ca,dv,E⟩
   refine Ac ?_ Z hw
   clear Z hw ww aa
   rw[F6] at E
   refine BY (.inl O) (Ai O (AA O (AM (kp [63,62,61,0] O) (WF.nil (λaa ww Z hw=>?_)))))
   exact⟨(BM (ah+1)),a7,_,_,Z.sub (kp [62,61,0,63] O),hw,ca,(aw.trans dv),(BG _),E⟩
  refine BA O (λaa ww Z hw=>?_)
  exact⟨ai,_,_,Z.sub (kp [0] O),hw,av,aw,E⟩
 rintro aa ww ⟨a6,bb,bc,Z,hw,ay,be,E⟩
 refine Ac ?_ Z hw
 clear Z hw ww aa
 rw[Cf] at E
 refine AH (AA O (CN O O (AD GE O (AD HA O (AT A6 ay O mh O Jv O ?_)))))
 have bf:=ab.mono' (au.trans be)
 refine Ak O bf H6 O λft=>AA O (AM (kp [112,111,110,0] O) (A8 (A3 (λn6=>λa w=>∃(ad:Int) (af:List Ax),IV B bb bc (135,[]) a w [(111,vI (↑p0_w.b.Links.length:Int)),(110,H),(0,vP A 0),(112,vI ad)] (Bx A 84 [.string p0_w.b.Name,I,vI p0_w.b.Cells,J,H,K,M,Q,U,V,vI p0_w.b.Err,C,y,z,D,F,vI p0_w.s.Hour,c,d,G,u,g,j,k,m,p]::OO AN.int 3 29 c p0_w.s.Own::OS AN.int 3 d p0_w.s.Rem::OS BE 69 u af::OS AN.int 3 g p0_w.s.In::OS AN.int 3 j p0_w.s.Out::OS BJ 50 k p0_w.moves::OS AN.int 3 m p0_w.peaks::OS Ar 60 p p0_w.sent::L) λ_ _=>AE ad∧DY N p0_w n6 ad af=some r) N ?_ ?_ ?_)))
 ·intro aa ww Z hw
  exact⟨0,a6,_,_,Z.sub (kp [111,110,0,112] O),hw,ay,(B9.refl bb bc),(iq (n:=0) O),E⟩
 ·rintro aa ww ⟨_,_,_,_,_,_,_,_,_,E⟩
  rw[DY] at E;cases E
 rintro n6 aa ww ⟨ad,af,fu,fv,Z,hw,ak,az,fw,E⟩
 refine Ac ?_ Z hw
 clear Z hw ww aa
 rw[DY] at E
 refine AH (Ao O (AM (kp [113,111,110,0,112] O) (AC (AX O E (λdw E=>?_) (λdw E=>?_)))))
 ·refine AO (AC (A8 (WF.sl (AI 3 (AA O ?_)))))
  obtain⟨t,cb,E⟩:=bd E
  refine A9 O O (bf.mono' az) H6 cb O λfx dx=>B6 A6 ak.1 O dx HW (λe=>by cases e) O λfy dy=>AG (Cn OQ O ak λfz f0 cc bg=>AI 1 (AY O (AG ?_)))
  obtain⟨a0,a1,a2,rfl,dz,d0,d1,d2,bh,bi,bj,d3,d4,d5,d6,d7,d8,d9,ea,eb,ec,ed⟩:=Bv.ex (dy.mono bg)
  refine HM (vs:=[.string t.Name,vI t.Kind,vI t.From,vI t.To,a0,a1,a2,vI t.Positions,vI t.Speed,vI t.Leak,vI t.Crest,vI t.Num,vI t.Den,vI t.Prime,vI t.Break,vI t.BackNum,vI t.BackDen,vI t.Delay]) (cs':=[.string t.Name,vI t.Kind,vI t.From,vI t.To,a0,a1,a2,vI t.Positions,vI t.Speed,vI t.Leak,vI t.Crest,vI t.Num,vI t.Den,vI t.Prime,vI t.Break,vI t.BackNum,vI t.BackDen,vI t.Delay]) O O O (AF O (AF O (AF O (AF O (AF bh.one (AF bi.one (AF bj.one (AF O (AF O (AF O (AF O (AF O (AF O (AF O (AF O (AF O (AF O (AF O EG)))))))))))))))))) HW O cc .head O O λf1 Y an=>AZ (kp [6,7,111,110,0,112] O) (LD 17 mo (by kernel_rfl) O Y (AA O (CN O O (AD CZ O (AD Hw O (AT Bg Y O (mt mh) O Ke O (AA O (Dk (vs:=[.string t.Name,vI t.Kind,vI t.From,vI t.To,a0,a1,a2,vI t.Positions,vI t.Speed,vI t.Leak,vI t.Crest,vI t.Num,vI t.Den,vI t.Prime,vI t.Break,vI t.BackNum,vI t.BackDen,vI t.Delay]) Bg Y O mh O O HW O O (AA O (CN O O (AD CZ O (AD Hw O (AT Bg Y O (mt mh) O Ke O (AA O ?_))))))))))))))
  obtain⟨f2,cd,E⟩:=bd E
  refine A0 Y (mt (mt (mt (mt mh)))) O O KJ cd O λf3 ce=>?_
  obtain⟨f4,cf,E⟩:=bd E
  have ee:=Y.epAt (mt (mt (mt (mt mh)))) cf FL.id ce
  refine B6 Bg (λ_ x=>x) O ee Gn (λe=>by cases e) O λf5 ef=>?_
  obtain⟨bk,cg,E⟩:=bd E
  refine CX O O O gO O (λh' o=>QR (St.all h') (Bv.mk (x:=t) dz d0 d1 d2 ((bh.mono' an).mono' (o.all Y.1)) ((bi.mono' an).mono' (o.all Y.1)) ((bj.mono' an).mono' (o.all Y.1)) d3 d4 d5 d6 d7 d8 d9 ea eb ec ed) (ef.mono (o.all Y.1)) cg) λeg=>?_
  obtain⟨eh,ei⟩:=eg
  obtain⟨f6,ch,E⟩:=bd E
  refine A0 Y (mt (mt (mt (mt mh)))) O O KJ ch O λf7 ci=>Jp λf8 cj ej=>?_
  obtain⟨ek,ck,E⟩:=bd E
  refine Er (r:=BE) (l:=af) (i:=ad) (x:=ek) O O (BE.mk (x:=bk) ⟨eh,ei⟩) ci ck Lr.id Gn (λe=>by cases e) cj (.tail (.tail (.tail (.tail .head)))) λf9 cl el=>AZ (kp [111,110,0,112] O) (BP (BY (.inl O) (Ai O (AA O (AM (kp [112,111,110,0] O) (WF.nil (λaa ww Z hw=>?_)))))))
  have cm:=cl.sel [1,1,1,1,1,1,1,1,1] 1 O
  exact⟨(BM (ad+1)),(upd af ad bk),_,_,Z.sub (kp [111,110,0,112] O),hw,cm,(az.trans (bg.trans (an.trans (ej.trans el)))),(BG _),E⟩
 refine J8 O (WF.nil (λaa ww Z hw=>?_))
 cases E
 exact KD Z O hw KC O (au.trans (be.trans az)) ⟨_,O,ak⟩
theorem Nj (hs:St S L h) {b:Value}{g:(List Int)}(c:Sl S h AN.int b g) {a:Int}(j:AE a) {r:Int}(E:Km N g a=some r):
 CL Tryz.prog 81 #[b,vI a] S h (λv S' h'=>v=vI r∧AE r∧St S' (L) h'):=by
 refine BF (l:=[b,vI a]) 24 Tryz.func81 O Tryz.ntmps81 O λB=>?_
 rw[Km] at E
 refine AH (AL O (kp [0,1] O) (AC (AH (AA O (Ao O (AA O (AV 5 12 (.bool ((decide (a<0))||(decide ((↑g.length:Int)≤a)))) ?_ ?_)))))))
 ·cases C:(decide (a<0))
  ·exact AB O (AA O (AB O (AA O (AB O (Ak O c BR O λD=>AB O (Gb O (AJ O (AU O))))))))
  exact Aa O O
 refine AA O ?_
 obtain⟨t,d,E⟩:=bd E
 refine AV 6 19 (.bool t) ?_ ?_
 ·cases s:((decide (a<0))||(decide ((↑g.length:Int)≤a)))
  ·have d:=GM s d
   refine AB O (AA O (AB O (AA O (AB O ?_))))
   obtain⟨F,k,d⟩:=bd d
   refine A9 O O c BR k O λG u=>AB O (Ag A6 hs.1 O u Ae O λH=>AB O (Ao O (AJ O ?_)))
   cases d
   exact AU O
  have d:=GL s d
  cases d
  exact Aa O O
 refine AM (kp [19,0,1] O) (AX O E (λw E=>?_) (λw E=>?_))
 ·refine AH (AL O (kp [4] O) (Ad (λx y m o=>?_)))
  cases E
  exact Dr m o O O (B9.refl S h) ⟨O,(iq (n:=0) O),hs⟩
 refine AO (AH (AA O (AA O ?_)))
 obtain⟨z,i,E⟩:=bd E
 refine A9 O O c BR i O λA p=>Ag A6 hs.1 O p Ae O λq=>AL O (kp [4] O) (Ad (λx y m o=>?_))
 cases E
 exact Dr m o O O (B9.refl S h) ⟨O,q,hs⟩
theorem QL (hs:St S L h) {k:Value}{d:(List Int)}(j:Sl S h AN.int k d) {c:Int}(s:AE c) {b:Int}(G:AE b) {g:Int}(u:AE g) {r:(List Int)}(E:MT N d c b g=some r):
 CL Tryz.prog 58 #[k,vI c,vI b,vI g] S h (λv S' h'=>St S' (OS AN.int 3 v r::L) h'):=by
 refine BF (l:=[k,vI c,vI b,vI g]) 56 Tryz.func58 O Tryz.ntmps58 O λB=>?_
 rw[MT] at E
 refine AH (AL O (kp [0,1,2,3] O) (WF.sl (AI 2 (AA O (Ak O j BR O λb1=>AG ?_)))))
 obtain⟨aj,E⟩:=MU E
 refine JD (r:=AN.int) (zx:=0) FJ O ⟨O,by unfold AE;omega⟩ O O aj O O hs λv3 h4 ak e6=>AI 1 (AY O (AG (AZ (kp [9,0,1,2,3] O) (WF.sl (AI 2 (AA O (AA O (AG (SB (r:=AN.int) (l:=(List.replicate ((↑d.length:Int):Int).toNat (0:Int))) (xs:=d) O O BR (Sl.src (j.mono' e6)) O ak .head λh8 H C=>AZ (kp [9,0,1,2,3] O) (AC (Bt (.inl O) H (AA O (AA O (AA O ?_))))))))))))))
 obtain⟨m,I,E⟩:=bd E
 refine CX O O O ZV O (λh' o=>Nj (St.all h') ((j.mono' (e6.trans C)).mono' (o.all H.1)) s I) λal=>?_
 have am:=al
 refine NT O O O (AY O (BQ (kp [10,9,0,1,2] O) λJ n K=>AC (AH (AA O (Bk O (AA O (AV 3 27 (.bool ((decide (0<(min g m)))&&(decide (0≤b)))) ?_ ?_)))))))
 ·cases a1:(decide (0<(min g m)))
  ·exact Aa O O
  exact AB O (AA O (AB O (Gb O (AJ O (AU O)))))
 refine AA O (AV 5 33 (.bool (((decide (0<(min g m)))&&(decide (0≤b)))&&(decide (b<(↑d.length:Int))))) ?_ ?_)
 ·cases a2:((decide (0<(min g m)))&&(decide (0≤b)))
  ·exact Aa O O
  exact AB O (AA O (AB O (AA O (AB O (Ak O (j.mono' (e6.trans (C.trans K))) BR O λa3=>AB O (Ao O (AJ O (AU O))))))))
 refine AA O (AV 4 38 (.bool ((((decide (0<(min g m)))&&(decide (0≤b)))&&(decide (b<(↑d.length:Int))))&&(decide (c≠b)))) ?_ ?_)
 ·cases a4:(((decide (0<(min g m)))&&(decide (0≤b)))&&(decide (b<(↑d.length:Int))))
  ·exact Aa O O
  exact AB O (AA O (AB O (AA O (AB O (Bl O (AJ O (AU O)))))))
 refine AM (kp [38,10,9,1,2] O) (Ga (λa w=>∃(D:List Int),IV B S J (56,[]) a w [(9,v3)] (OS AN.int 3 v3 D::L) λ_ _=>JO N D=some r) ?_ ?_)
 ·refine AX O E (λan E=>?_) (λan E=>?_)
  ·refine WF.sl (AI 7 (AA O (AA O ?_)))
   obtain⟨a5,M,E⟩:=bd E
   refine A0 n mh O O BR M O λa6 Q=>?_
   obtain⟨F,U,E⟩:=bd E
   have ao:=n.epAt mh U FL.id Q
   refine Ag A6 (λ_ x=>x) O ao Ae O λa7=>AA O (Cz O ?_)
   obtain⟨a8,V,E⟩:=bd E
   refine A0 n mh O O BR V O λa9 W=>AG ?_
   obtain⟨ap,X,E⟩:=bd E
   refine Er (r:=AN.int) (l:=(Mw (List.replicate ((↑d.length:Int):Int).toNat (0:Int)) d)) (i:=c) (x:=ap) O O (⟨_,O,O,(BG _)⟩:Rd _ _ AN.int _ (BM (F-(min g m)))) W X Lr.id Ae (λ_=>rfl) n .head λba t aq=>AZ (kp [10,9,2] O) (EX (AI 7 (AA O (AA O (AA O (AA O ?_))))))
   obtain⟨bb,Y,E⟩:=bd E
   refine A0 t mh O O BR Y O λbc Z=>?_
   obtain⟨be,ab,E⟩:=bd E
   have ar:=t.epAt mh ab FL.id Z
   refine Ag A6 (λ_ x=>x) O ar Ae O λau=>AA O (AG ?_)
   obtain⟨ac,ad,E⟩:=bd E
   refine Bf O O O Qt O t (IH (St.all _) au (Kb u am) ad) λbf bg bh y av bi p=>?_
   obtain⟨rfl,aw,a0⟩:=p
   refine AI 1 ?_
   obtain⟨bj,ae,E⟩:=bd E
   refine A0 y mh O O BR ae O λbk af=>AG ?_
   obtain⟨ax,ag,E⟩:=bd E
   refine Er (r:=AN.int) (l:=(upd (Mw (List.replicate ((↑d.length:Int):Int).toNat (0:Int)) d) c (BM (F-(min g m))))) (i:=b) (x:=ax) O O (⟨_,O,O,aw⟩:Rd _ _ AN.int _ ac) af ag Lr.id Ae (λ_=>rfl) y .head λbl ah ay=>AZ (kp [9] O) (WF.nil (λaa ww z A=>?_))
   exact⟨(upd (upd (Mw (List.replicate ((↑d.length:Int):Int).toNat (0:Int)) d) c (BM (F-(min g m)))) b ac),_,_,z.sub (kp [9] O),A,ah,(aq.trans (av.trans ay)),E⟩
  refine AO (WF.nil (λaa ww z A=>?_))
  exact⟨(Mw (List.replicate ((↑d.length:Int):Int).toNat (0:Int)) d),_,_,z.sub (kp [9] O),A,n,(B9.refl S J),E⟩
 rintro aa ww ⟨D,bm,bn,z,A,ai,az,E⟩
 refine Ac ?_ z A
 clear z A ww aa
 rw[JO] at E
 refine AH (AA O (AL O (kp [8] O) (Ad (λaa ww z A=>?_))))
 cases E
 exact Dr z A O O (e6.trans (C.trans (K.trans az))) ai
theorem M3 {c:Nat}{p0_w:An}{M:Value}{Q:Value}{U:Value}{V:Value}{W:Value}{Y:Value}{Z:Value}{ab:Value}{G:Value}{H:Value}{I:Value}{J:Value}{t:Value}{g:Value}{u:Value}{K:Value}{x:Value}{y:Value}{z:Value}{A:Value}{C:Value}{D:Value}(hs:St S (Bx c 84 [.string p0_w.b.Name,M,vI p0_w.b.Cells,Q,U,V,W,Y,Z,ab,vI p0_w.b.Err,G,H,I,J,t,vI p0_w.s.Hour,g,u,K,x,y,z,A,C,D]::OO AN.int 3 29 g p0_w.s.Own::OS AN.int 3 u p0_w.s.Rem::OS BE 69 x p0_w.s.Gates::OS AN.int 3 y p0_w.s.In::OS AN.int 3 z p0_w.s.Out::OS BJ 50 A p0_w.moves::OS AN.int 3 C p0_w.peaks::OS Ar 60 D p0_w.sent::L) h) (b5:p0_w.b.Name.size≤maxLen) (ah:Sl S h AN.str M p0_w.b.Owners) (b6:AE p0_w.b.Cells) (ai:Sl S h B1 Q p0_w.b.Places) (b7:Sl S h Bv U p0_w.b.Links) (b8:Sl S h GQ V p0_w.b.Towns) (b9:Sl S h EV W p0_w.b.Gauges) (ca:Sl S h Fp Y p0_w.b.Roads) (cb:Sl S h Cx Z p0_w.b.Shelters) (cc:Sl S h AN.int ab p0_w.b.Room) (bc:AE p0_w.b.Err) (be:Sl S h AN.int G p0_w.in_.Rain) (bf:Sl S h FM H p0_w.in_.Faults) (bg:Sl S h Ic I p0_w.in_.Cmds) (bh:Sl S h FO J p0_w.in_.Takes) (af:Sl S h GC t p0_w.in_.Swaps) (bi:AE p0_w.s.Hour) (bj:Sl S h Ar K p0_w.s.Queue) {r:(List (List Int))}(E:GH N p0_w=some r):
 CL Tryz.prog 31 #[vP c 0] S h (λv S' h'=>∃w_0_17:Value,v= .tuple #[]∧St S' (Bx c 84 [.string p0_w.b.Name,M,vI p0_w.b.Cells,Q,U,V,W,Y,Z,ab,vI p0_w.b.Err,G,H,I,J,t,vI p0_w.s.Hour,w_0_17,u,K,x,y,z,A,C,D]::OO AN.int 3 29 w_0_17 r::OS AN.int 3 u p0_w.s.Rem::OS BE 69 x p0_w.s.Gates::OS AN.int 3 y p0_w.s.In::OS AN.int 3 z p0_w.s.Out::OS BJ 50 A p0_w.moves::OS AN.int 3 C p0_w.peaks::OS Ar 60 D p0_w.sent::L) h'):=by
 refine BF (l:=[vP c 0]) 70 Tryz.func31 O Tryz.ntmps31 O λB=>?_
 rw[GH] at E
 refine AH (AA O (CN O O (AD Ms O (AD Rp O (AT A6 hs O mh O Vr O (Ak O af UH O λb1=>AA O (AM (kp [10,9,8,0] O) (A8 (A3 (λn0=>λa w=>∃(i5:Int) (l7:List (List Int)),IV B S h (70,[]) a w [(9,vI (↑p0_w.in_.Swaps.length:Int)),(8,t),(0,vP c 0),(10,vI i5)] (Bx c 84 [.string p0_w.b.Name,M,vI p0_w.b.Cells,Q,U,V,W,Y,Z,ab,vI p0_w.b.Err,G,H,I,J,t,vI p0_w.s.Hour,g,u,K,x,y,z,A,C,D]::OO AN.int 3 29 g l7::OS AN.int 3 u p0_w.s.Rem::OS BE 69 x p0_w.s.Gates::OS AN.int 3 y p0_w.s.In::OS AN.int 3 z p0_w.s.Out::OS BJ 50 A p0_w.moves::OS AN.int 3 C p0_w.peaks::OS Ar 60 D p0_w.sent::L) λ_ _=>AE i5∧DX N p0_w n0 i5 l7=some r) N ?_ ?_ ?_)))))))))
 ·intro aa ww hf hw
  exact⟨0,p0_w.s.Own,_,_,hf.sub (kp [9,8,0,10] O),hw,hs,(B9.refl S h),(iq (n:=0) O),E⟩
 ·rintro aa ww ⟨_,_,_,_,_,_,_,_,_,E⟩
  rw[DX] at E;cases E
 rintro n0 aa ww ⟨i5,l7,S8,h9,hf,hw,an,aj,r6,E⟩
 refine Ac ?_ hf hw
 clear hf hw ww aa
 rw[DX] at E
 refine AH (Ao O (AM (kp [11,9,8,0,10] O) (AC (AX O E (λc3 E=>?_) (λc3 E=>?_)))))
 ·refine AO (AC (Aj (λa w=>∃(ba:List (List Int)),IV B S8 h9 (70,[]) a w [(9,vI (↑p0_w.in_.Swaps.length:Int)),(8,t),(0,vP c 0),(10,vI i5)] (Bx c 84 [.string p0_w.b.Name,M,vI p0_w.b.Cells,Q,U,V,W,Y,Z,ab,vI p0_w.b.Err,G,H,I,J,t,vI p0_w.s.Hour,g,u,K,x,y,z,A,C,D]::OO AN.int 3 29 g ba::OS AN.int 3 u p0_w.s.Rem::OS BE 69 x p0_w.s.Gates::OS AN.int 3 y p0_w.s.In::OS AN.int 3 z p0_w.s.Out::OS BJ 50 A p0_w.moves::OS AN.int 3 C p0_w.peaks::OS Ar 60 D p0_w.sent::L) λ_ _=>HC N i5 (DX N p0_w n0) ba=some r) ?_ ?_))
  ·refine WF.sl (AI 2 ?_)
   obtain⟨ac,cd,E⟩:=bd E
   refine A9 O O (af.mono' aj) UH cd O λe2 c4=>B6 A6 an.1 O c4 Vx (λe=>by cases e) O λe3 c5=>AG (Cn Zm O an λak e4 ce am=>?_)
   obtain⟨rfl,⟨bk,cf,cg,c6⟩⟩:=GC.ex (c5.mono am)
   refine DW (vs:=[vI ac.Place,vI ac.From,vI ac.To,vI ac.Litres]) O O O O Vx O ce .head O λe5 ag ao=>AZ (kp [3,9,8,0,10] O) (AC (Bt (.inr ⟨mo,by kernel_rfl⟩) ag (AD P0 O (AT Bg ag O mh O Ae O (AA O (CN O O (AD GE O (AD C0 O (AT Bg ag O (mt mh) O Fq O (Ak O (ai.mono' (aj.trans (am.trans ao))) Ez O λc7=>?_))))))))))
   obtain⟨c8,ch,E⟩:=bd E
   refine A5 O O O Of O (λh' o=>Fx (St.all h') bk (JY c7) ch) (AA O ?_)
   obtain⟨ci,ad,E⟩:=bd E
   refine AV 10 33 (.bool ci) ?_ ?_
   ·cases cj:c8
    ·have ad:=GM cj ad
     cases ad
     exact Aa O O
    have ad:=GL cj ad
    refine AB O (AD TD O (AB O (AT Bg ag O mh O Ae O (AB O (AA O (AB O (CN O O (AB O (AD GE O (AB O (AD HT O (AB O (AT Bg ag O (mt mh) O KI O (AB O (Ak O (ah.mono' (aj.trans (am.trans ao))) Jx O λc9=>AB O ?_)))))))))))))))
    obtain⟨e6,ck,ad⟩:=bd ad
    refine A5 O O O Of O (λh' o=>Fx (St.all h') cf (JY c9) ck) (AJ O ?_)
    cases ad
    exact AU O
   refine AA O ?_
   obtain⟨da,ae,E⟩:=bd E
   refine AV 10 44 (.bool da) ?_ ?_
   ·cases cl:ci
    ·have ae:=GM cl ae
     cases ae
     exact Aa O O
    have ae:=GL cl ae
    refine AB O (AD TC O (AB O (AT Bg ag O mh O Ae O (AB O (AA O (AB O (CN O O (AB O (AD GE O (AB O (AD HT O (AB O (AT Bg ag O (mt mh) O KI O (AB O (Ak O (ah.mono' (aj.trans (am.trans ao))) Jx O λdb=>AB O ?_)))))))))))))))
    obtain⟨e7,cm,ae⟩:=bd ae
    refine A5 O O O Of O (λh' o=>Fx (St.all h') cg (JY db) cm) (AJ O ?_)
    cases ae
    exact AU O
   refine BQ (kp [44,3,9,8,0,10] O) λdc d cn=>AX O E (λdd E=>?_) (λdd E=>?_)
   ·obtain ⟨e8,co,E⟩:=bd E
    obtain⟨de,cp,E⟩:=bd E
    obtain⟨cq,cr,E⟩:=bd E
    obtain⟨e9,cs,E⟩:=bd E
    refine R3 (m:=[(3,vP ak 0),(9,vI (↑p0_w.in_.Swaps.length:Int)),(8,t),(0,vP c 0),(10,vI i5)]) [24] [] [] (by kernel_rfl) (λgv X F i v hh=>match i with|0=>v=vP c 0|1=>v=vP c 0|2=>v=vP c 16|3=>v=vP c 17|4=>v=g|5=>v=vP ak 0|6=>v=vI ac.Place∧AE ac.Place|7=>v=vP c 0|8=>v=vP c 0|9=>v=vP c 16|10=>v=vP c 17|11=>v=g|12=>v=vP ak 0|13=>v=vI ac.Place∧AE ac.Place|14=>EP g (ac.Place.toNat*((AN.sl AN.int)).sz+0) v|15=>Sl (λb=>b<hh.size) hh AN.int v de|16=>v=vP ak 1|17=>v=vI ac.From∧AE ac.From|18=>v=vP ak 2|19=>v=vI ac.To∧AE ac.To|20=>v=vP ak 3|21=>v=vI ac.Litres∧AE ac.Litres|22=>OW S8 dc X F [OS AN.int 3 v cq] hh|23=>EP g (ac.Place.toNat*((AN.sl AN.int)).sz+0) v|_=>False) [[],[(0,45)],[(1,46)],[(2,47)],[(3,48)],[],[(5,50)],[],[(7,52)],[(8,53)],[(9,54)],[(10,55)],[],[(12,57)],[(11,56),(13,58)],[(14,59)],[],[(16,61)],[],[(18,63)],[],[(20,65)],[(15,60),(17,62),(19,64),(21,66)],[(4,49),(6,51)],[]] [(22,67),(23,68)] mo (by kernel_rfl) [3,9,8,0,10] O (by kernel_rfl) (by kernel_rfl) (by kernel_rfl) O (kp [3,9,8,0,10] O) (λgv i v h1 h2 X X' F o1 o2 hF u1 u2 hr=>?_) (λgv gv' X F i v h1 hz hr=>?_) ?_ ?_ ?_
    ·match i,hr with
      |0,hr|1,hr|2,hr|3,hr|4,hr|5,hr|6,hr|7,hr|8,hr|9,hr|10,hr|11,hr|12,hr|13,hr|14,hr|16,hr|17,hr|18,hr|19,hr|20,hr|21,hr|23,hr=>exact hr
      |15,hr=>exact Sl.mono hr (λb hb=>Nat.lt_of_lt_of_le hb o2.siz) (λb hb=>o2.same b hb)
      |22,hr=>exact OW.mono d.1 o1 o2 hF u1 u2 hr
      |_+24,hr=>exact hr.elim
    ·match i,hr with
      |0,hr|1,hr|2,hr|3,hr|4,hr|5,hr|6,hr|7,hr|8,hr|9,hr|10,hr|11,hr|12,hr|13,hr|14,hr|15,hr|16,hr|17,hr|18,hr|19,hr|20,hr|21,hr|22,hr|23,hr=>exact hr
      |_+24,hr=>exact hr.elim
    ·exact trivial
    ·refine CC.cons O O ?_ ?_
     ·intro gv X mq hh o hX
      have hsN:=o.st d
      exact AI 1 (AA O (AQ O))
     refine CC.cons O O ?_ ?_
     ·intro gv X mq hh o hX
      have hsN:=o.st d
      intro fa bl
      obtain⟨d0,_,_,bl⟩:=bl
      cases bl
      exact AI 1 (CN O O (AQ O))
     refine CC.cons O O ?_ ?_
     ·intro gv X mq hh o hX
      have hsN:=o.st d
      intro fb bm
      obtain⟨d1,_,_,bm⟩:=bm
      cases bm
      exact AI 1 (AD CZ O (AQ O))
     refine CC.cons O O ?_ ?_
     ·intro gv X mq hh o hX
      have hsN:=o.st d
      intro fc bn
      obtain⟨d2,_,_,bn⟩:=bn
      cases bn
      exact AI 1 (AD D2 O (AQ O))
     refine CC.cons O O ?_ ?_
     ·intro gv X mq hh o hX
      have hsN:=o.st d
      intro fd bo
      obtain⟨d3,_,_,bo⟩:=bo
      cases bo
      exact AI 1 (AT A6 hsN O (mt mh) O G9 O (AQ O))
     refine CC.cons O O ?_ ?_
     ·intro gv X mq hh o hX
      have hsN:=o.st d
      exact AI 1 (AD P0 O (AQ O))
     refine CC.cons O O ?_ ?_
     ·intro gv X mq hh o hX
      have hsN:=o.st d
      intro fe bp
      obtain⟨d4,_,_,bp⟩:=bp
      cases bp
      exact AI 1 (AT A6 hsN O mh O Ae O (AQ ⟨O,bk⟩))
     refine CC.cons O O ?_ ?_
     ·intro gv X mq hh o hX
      have hsN:=o.st d
      exact AI 1 (AA O (AQ O))
     refine CC.cons O O ?_ ?_
     ·intro gv X mq hh o hX
      have hsN:=o.st d
      intro ff bq
      obtain⟨d5,_,_,bq⟩:=bq
      cases bq
      exact AI 1 (CN O O (AQ O))
     refine CC.cons O O ?_ ?_
     ·intro gv X mq hh o hX
      have hsN:=o.st d
      intro fg br
      obtain⟨d6,_,_,br⟩:=br
      cases br
      exact AI 1 (AD CZ O (AQ O))
     refine CC.cons O O ?_ ?_
     ·intro gv X mq hh o hX
      have hsN:=o.st d
      intro fh bs
      obtain⟨d7,_,_,bs⟩:=bs
      cases bs
      exact AI 1 (AD D2 O (AQ O))
     refine CC.cons O O ?_ ?_
     ·intro gv X mq hh o hX
      have hsN:=o.st d
      intro fi ap
      obtain⟨df,_,_,ap⟩:=ap
      cases ap
      exact AI 1 (AT A6 hsN O (mt mh) O G9 O (AQ O))
     refine CC.cons O O ?_ ?_
     ·intro gv X mq hh o hX
      have hsN:=o.st d
      exact AI 1 (AD P0 O (AQ O))
     refine CC.cons O O ?_ ?_
     ·intro gv X mq hh o hX
      have hsN:=o.st d
      intro d8 aq
      obtain⟨dg,_,_,aq⟩:=aq
      cases aq
      exact AI 1 (AT A6 hsN O mh O Ae O (AQ ⟨O,bk⟩))
     refine CC.cons O O ?_ ?_
     ·intro gv X mq hh o hX
      have hsN:=o.st d
      intro d9 ar ea au
      obtain⟨dh,_,_,ar⟩:=ar
      cases ar
      obtain⟨di,_,_,au⟩:=au
      obtain⟨rfl,eb⟩:=au
      exact AI 1 (N3 (r:=AN.int) hsN (mt (mt mh)) O O E3 co O λec bt=>AQ bt)
     refine CC.cons O O ?_ ?_
     ·intro gv X mq hh o hX
      have hsN:=o.st d
      intro ed av
      obtain⟨dj,_,_,av⟩:=av
      exact AI 1 (R9 (r:=AN.int) A6 hsN (mt (mt mh)) O cp av BX O λee dk ct=>AQ ct)
     refine CC.cons O O ?_ ?_
     ·intro gv X mq hh o hX
      have hsN:=o.st d
      exact AI 1 (AD TD O (AQ O))
     refine CC.cons O O ?_ ?_
     ·intro gv X mq hh o hX
      have hsN:=o.st d
      intro ef aw
      obtain⟨dl,_,_,aw⟩:=aw
      cases aw
      exact AI 1 (AT A6 hsN O mh O Ae O (AQ ⟨O,cf⟩))
     refine CC.cons O O ?_ ?_
     ·intro gv X mq hh o hX
      have hsN:=o.st d
      exact AI 1 (AD TC O (AQ O))
     refine CC.cons O O ?_ ?_
     ·intro gv X mq hh o hX
      have hsN:=o.st d
      intro eg ax
      obtain⟨dm,_,_,ax⟩:=ax
      cases ax
      exact AI 1 (AT A6 hsN O mh O Ae O (AQ ⟨O,cg⟩))
     refine CC.cons O O ?_ ?_
     ·intro gv X mq hh o hX
      have hsN:=o.st d
      exact AI 1 (AD XB O (AQ O))
     refine CC.cons O O ?_ ?_
     ·intro gv X mq hh o hX
      have hsN:=o.st d
      intro eh ay
      obtain⟨dn,_,_,ay⟩:=ay
      cases ay
      exact AI 1 (AT A6 hsN O mh O Ae O (AQ ⟨O,c6⟩))
     refine Md O O ?_ ?_
     ·intro gv X mq hh o hX
      have hsN:=SX.fz (X:=X) d o
      intro ei az ej a0 ek a1 el a2
      obtain⟨dp,_,_,az⟩:=az
      obtain⟨dq,_,_,a0⟩:=a0
      obtain⟨rfl,cu⟩:=a0
      obtain⟨dr,_,_,a1⟩:=a1
      obtain⟨rfl,cv⟩:=a1
      obtain⟨ds,_,_,a2⟩:=a2
      obtain⟨rfl,cw⟩:=a2
      refine Bf O O O fL O hsN (QL (St.all _) az cu cv cw cr) λem en eo dt cx cy p=>?_
      have bu:=p
      have a3:=hsN.join cy bu ⟨OS.flat (λ{_ _ _ _ _ _} k=>k),trivial⟩
      simp only[List.cons_append,List.nil_append] at a3
      have hsG:=a3.pick (.tail .head)
      obtain⟨F152,hF153,cz,ep,c0⟩:=OW.done d.1 o hX cx hsG
      exact C1 cz ⟨F152,hF153,c0⟩
     refine CC.cons O O ?_ ?_
     ·intro gv X mq hh o hX
      have hsN:=o.st d
      intro eq a4 er a5
      obtain⟨du,_,_,a4⟩:=a4
      cases a4
      obtain⟨dv,_,_,a5⟩:=a5
      obtain⟨rfl,es⟩:=a5
      exact AI 1 (N3 (r:=AN.int) hsN (mt (mt mh)) O O E3 cs O λet bv=>AQ bv)
     exact CC.skip (by kernel_rfl) (trivial)
    intro eu dw dx bb a6 bw ev a7 ew a8
    obtain⟨dy,a7⟩:=a7
    obtain⟨dz,a8⟩:=a8
    have a9:=(T3.cons (T3.nil d bb a6) bw (j:=22) O a7).st
    simp only[List.cons_append,List.nil_append] at a9
    obtain⟨ey,bx,E⟩:=bd E
    have bz:=a9.sel [0,2,0,0,0,0,0,0,0,0,0] 0 O
    refine U1 (r:=AN.int) (i:=ac.Place) O O a8 bx BX bz λez b0 c1=>AZ (kp [9,8,0,10] O) (WF.nil (λaa ww hf hw=>?_))
    have b2:=b0.sel [2,0,1,1,1,1,1,1,1] 1 O
    exact⟨(upd l7 ac.Place cq),_,_,hf.sub (kp [9,8,0,10] O),hw,b2,(am.trans (ao.trans (cn.trans ((SX.ext d.1 bb (Xw a6)).trans c1)))),E⟩
   refine AO (WF.nil (λaa ww hf hw=>?_))
   have b3:=d.sel [1,1,1,1,1,1,1,1,1] 1 O
   exact⟨l7,_,_,hf.sub (kp [9,8,0,10] O),hw,b3,(am.trans (ao.trans cn)),E⟩
  rintro aa ww ⟨ba,e0,e1,hf,hw,b4,c2,E⟩
  refine Ac ?_ hf hw
  clear hf hw ww aa
  rw[HC] at E
  refine BY (.inl O) (Ai O (AA O (AM (kp [10,9,8,0] O) (WF.nil (λaa ww hf hw=>?_)))))
  exact⟨(BM (i5+1)),ba,_,_,hf.sub (kp [9,8,0,10] O),hw,b4,(aj.trans c2),(BG _),E⟩
 refine J8 O (WF.nil (λaa ww hf hw=>?_))
 cases E
 exact KD hf O hw KC O aj ⟨_,O,an⟩
end Go.Proofs.YtblcgjadhemlbaaGreat
