import Derived.Test.YtblcgjadhemlbaaGreatRWalk6
namespace Go.Proofs.YtblcgjadhemlbaaGreat
open Go.RowKit
set_option linter.unusedVariables false
set_option linter.unusedSimpArgs false
set_option maxRecDepth 10000
set_option maxHeartbeats 2000000
variable {N:Nat}{S:Nat→Prop}{L:List HP}{h:Aw}
theorem RX (hs:St S L h) {d:Value}{u:A7}(m:Rd S h Bu d u) {g:Value}{b:Ax}(o:Rd S h BJ g b) {c:Int}(i:AH c) {r:Ax}(E:JM N u b c=some r):
 CL Tryz.prog 22 #[d,g,vI c] S h (λv S' h'=>v= .agg #[vI r.Pos,vI r.Target,.bool r.Stuck,.bool r.Open]∧Ax.ok r∧St S' (L) h'):=by
 refine BG (l:=[d,g,vI c]) 16 Tryz.func22 O Tryz.ntmps22 O λB=>?_
 rw[JM] at E
 refine WF.sl (B4 O m (λe=>by cases e) O hs λq1 S2 h3 X e5 k6=>?_)
 obtain⟨rfl,⟨r9,Y⟩⟩:=BJ.ex (o.mono e5)
 refine P9 O O O X λA am C D=>Cp SA O C λF G j H=>AZ (kp [6,4,3,2] O) (AC (AI ?_))
 have I:=k6.mono (D.trans H)
 refine Ae O I ED JV O λan Z=>Af A9 j.1 O Z Ag O λao=>Bt O (AN (kp [9,6,4,3,2] O) (Ge (λa w=>∃(k:Int),IV B S2 G (16,[]) a w [(6,vP F 0),(4,vP A 0)] (Bx F 69 [vI 0,vI 0,.bool false,.bool false]::Bx A 69 [vI b.Pos,vI k,.bool b.Stuck,.bool b.Open]::L) λ_ _=>AH k∧J0 N b k=some r) ?_ ?_))
 ·refine AW O E (λab E=>?_) (λab E=>?_)
  ·refine D3 (AG 3 (AA O (Ae O I ED JV O λap ac=>Af A9 j.1 O ac Ag O λad=>AF ?_)))
   obtain⟨z,J,E⟩:=bd E
   refine BX O O O Ud O j (JH (St.all _) i (iq (n:=0) O) ad J) λaq ar au K ae av p=>?_
   obtain⟨rfl,af,ak⟩:=p
   refine AG 1 (AD PK O (AF (H6 (vs:=[vI z]) (cs':=[vI b.Pos,vI z,.bool b.Stuck,.bool b.Open]) O O O O Ag O K (.tail .head) O O λaw M ag=>AZ (kp [6,4] O) (WF.nil (λV W s t=>?_)))))
   exact⟨z,_,_,s.sub (kp [6,4] O),t,M,(ae.trans ag),af,E⟩
  refine AQ (WF.nil (λV W s t=>?_))
  exact⟨b.Target,_,_,s.sub (kp [6,4] O),t,j,(CA.refl S2 G),Y,E⟩
 rintro V W ⟨k,ax,ay,s,t,x,ah,ai,E⟩
 refine Ac ?_ s t
 clear s t W V
 rw[J0] at E
 refine WF.sl (AG 1 (Db (vs:=[vI b.Pos,vI k,.bool b.Stuck,.bool b.Open]) A9 x O (mt mh) O O Gt O O (AF (Du (vs:=[vI b.Pos,vI k,.bool b.Stuck,.bool b.Open]) O O O O Gt O x .head O λaz Q aj=>AZ (kp [6] O) (Ad (λV W s t=>?_))))))
 have y:=Q.drop (.tail .head)
 have U:=y.drop .head
 cases E
 exact KH s O t (IK (XX s t y O mh Gt O) KG) O (e5.trans (D.trans (H.trans (ah.trans aj)))) ⟨O,⟨r9,ai⟩,U⟩
theorem JB (hs:St S L h) {b:Int}(g:AH b) {a:Int}(i:AH a) {r:Int}(E:Gi N b a=some r):
 CL Tryz.prog 46 #[vI b,vI a] S h (λv S' h'=>v=vI r∧AH r∧St S' (L) h'):=by
 refine BG (l:=[vI b,vI a]) 24 Tryz.func46 O Tryz.ntmps46 O λB=>?_
 rw[Gi] at E
 refine AI (AK O (kp [0,1] O) (AC (AI (AA O (Ar O (AA O (AV 5 12 (.bool ((decide (a<0))&&(decide ((BD (9223372036854775807+a))<b)))) ?_ ?_)))))))
 ·cases p:(decide (a<0))
  ·exact Aa O O
  exact AB O (AA O (AB O (AA O (AB O (Ai O (AB O (Bf O (AJ O (AU O)))))))))
 refine AN (kp [12,0,1] O) (AW O E (λm E=>?_) (λm E=>?_))
 ·refine AI (AK O (kp [4] O) (Ad (λj k c d=>?_)))
  cases E
  exact Dx c d O O (CA.refl S h) ⟨O,(iq (n:=9223372036854775807) O),hs⟩
 refine AQ (AC (AI (AA O (Bf O (AA O (AV 5 20 (.bool ((decide (0<a))&&(decide (b<(BD ((-9223372036854775808)+a)))))) ?_ ?_))))))
 ·cases q:(decide (0<a))
  ·exact Aa O O
  exact AB O (AA O (AB O (AA O (AB O (Ai O (AB O (Ar O (AJ O (AU O)))))))))
 refine AN (kp [20,0,1] O) (AW O E (λo E=>?_) (λo E=>?_))
 ·refine AI (AK O (kp [4] O) (Ad (λj k c d=>?_)))
  cases E
  exact Dx c d O O (CA.refl S h) ⟨O,(iq (n:=(-9223372036854775808)) O),hs⟩
 refine AQ (AI (AA O (AA O (Ck O (AK O (kp [4] O) (Ad (λj k c d=>?_)))))))
 cases E
 exact Dx c d O O (CA.refl S h) ⟨O,(BK _),hs⟩
theorem QS (hs:St S L h) {c:Value}{k:A7}(g:Rd S h Bu c k) {d:Value}{a:Ax}(i:Rd S h BJ d a) {r:Ax}(E:Ig N k a=some r):
 CL Tryz.prog 24 #[c,d] S h (λv S' h'=>v= .agg #[vI r.Pos,vI r.Target,.bool r.Stuck,.bool r.Open]∧Ax.ok r∧St S' (L) h'):=by
 refine BG (l:=[c,d]) 26 Tryz.func24 O Tryz.ntmps24 O λB=>?_
 rw[Ig] at E
 refine WF.sl (B4 O g (λe=>by cases e) O hs λq1 S2 h3 V W k6=>?_)
 obtain⟨rfl,⟨X,w⟩⟩:=BJ.ex (i.mono W)
 refine P9 O O O V λau av z x=>Cp SA O z λaw ax b y=>AZ (kp [4,3,2] O) (AC (AI (AD Rb O (AS A9 b O (mt mh) O Oo O (AN (kp [7,4,3,2] O) (AW O E (λY E=>?_) (λY E=>?_)))))))
 ·refine WF.sl (AG 1 (Db (vs:=[vI a.Pos,vI a.Target,.bool a.Stuck,.bool a.Open]) A9 b O (mt mh) O O Gt O O (AF (Du (vs:=[vI a.Pos,vI a.Target,.bool a.Stuck,.bool a.Open]) O O O O Gt O b .head O λay A Z=>AZ (kp [4] O) (Ad (λaa ww C D=>?_))))))
  have m:=A.drop (.tail .head)
  have F:=m.drop .head
  cases E
  exact KH C O D (IK (XX C D m O mh Gt O) KG) O (W.trans (x.trans (y.trans Z))) ⟨O,⟨X,w⟩,F⟩
 refine AQ (AC (Bq (.inr ⟨mo,by kernel_rfl⟩) b (AD PK O (AS Bd b O (mt mh) O Ag O (AD M1 O (AS Bd b O (mt mh) O Ag O ?_))))))
 obtain⟨az,G,E⟩:=bd E
 refine CY O O O S7 O (λh' o=>JB (St.all h') w X G) λab=>?_
 have ac:=ab
 have H:=k6.mono (x.trans y)
 refine Ae O H JC Nw O λa0 ad=>Af Bd b.1 O ad Ag O λae=>?_
 obtain⟨a1,I,E⟩:=bd E
 refine CY O O O S7 O (λh' o=>JB (St.all h') (iq (n:=0) O) ae I) λaf=>?_
 have ag:=af
 refine Ae O H JC Nw O λa2 ah=>Af Bd b.1 O ah Ag O λai=>?_
 obtain⟨a3,J,E⟩:=bd E
 refine CY O O O Ud O (λh' o=>JH (St.all h') ac ag ai J) λaj=>?_
 have ak:=aj
 refine AY O (BM (kp [5,4,3] O) λa4 s am=>WF.sl (AG 3 (AD M1 O (AS A9 s O (mt mh) O Ag O (AA O (AF ?_))))))
 obtain⟨j,K,E⟩:=bd E
 refine BX O O O Qs O s (IM (St.all _) X ak K) λa5 a6 a7 M an a8 p=>?_
 obtain⟨rfl,ao,ar⟩:=p
 refine AG 1 (AD M1 O (AF (H6 (vs:=[vI j]) (cs':=[vI j,vI a.Target,.bool a.Stuck,.bool a.Open]) O O O O Ag O M (.tail .head) O O λa9 t ap=>AZ (kp [4,3] O) (WF.sl (AG 1 (Db (vs:=[vI j,vI a.Target,.bool a.Stuck,.bool a.Open]) A9 t O (mt mh) O O Gt O O (AF (Du (vs:=[vI j,vI a.Target,.bool a.Stuck,.bool a.Open]) O O O O Gt O t .head O λba Q aq=>AZ (kp [4] O) (Ad (λaa ww C D=>?_))))))))))
 have u:=Q.drop (.tail .head)
 have U:=u.drop .head
 cases E
 exact KH C O D (IK (XX C D u O mh Gt O) KG) O (W.trans (x.trans (y.trans (am.trans (an.trans (ap.trans aq)))))) ⟨O,⟨ao,w⟩,U⟩
theorem NB {A:Nat}{p0_w:Aq}{I:Value}{J:Value}{H:Value}{K:Value}{M:Value}{Q:Value}{U:Value}{V:Value}{C:Value}{y:Value}{z:Value}{D:Value}{F:Value}{c:Value}{d:Value}{G:Value}{u:Value}{g:Value}{j:Value}{k:Value}{m:Value}{p:Value}(hs:St S (Bx A 84 [.string p0_w.b.Name,I,vI p0_w.b.Cells,J,H,K,M,Q,U,V,vI p0_w.b.Err,C,y,z,D,F,vI p0_w.s.Hour,c,d,G,u,g,j,k,m,p]::OO AM.int 3 29 c p0_w.s.Own::OS AM.int 3 d p0_w.s.Rem::OS BJ 69 u p0_w.s.Gates::OS AM.int 3 g p0_w.s.In::OS AM.int 3 j p0_w.s.Out::OS BH 50 k p0_w.moves::OS AM.int 3 m p0_w.peaks::OS Ap 60 p p0_w.sent::L) h) (cn:p0_w.b.Name.size≤maxLen) (co:Sl S h AM.str I p0_w.b.Owners) (cp:AH p0_w.b.Cells) (cq:Sl S h B0 J p0_w.b.Places) (ab:Sl S h Bu H p0_w.b.Links) (cr:Sl S h GT K p0_w.b.Towns) (cs:Sl S h Ed M p0_w.b.Gauges) (ct:Sl S h Fv Q p0_w.b.Roads) (cu:Sl S h Cz U p0_w.b.Shelters) (cv:Sl S h AM.int V p0_w.b.Room) (bl:AH p0_w.b.Err) (bm:Sl S h AM.int C p0_w.in_.Rain) (ac:Sl S h FT y p0_w.in_.Faults) (ag:Sl S h Ik z p0_w.in_.Cmds) (bn:Sl S h Fd D p0_w.in_.Takes) (bo:Sl S h GH F p0_w.in_.Swaps) (bp:AH p0_w.s.Hour) (bq:Sl S h Ap G p0_w.s.Queue) {r:(List Ax)}(E:HO N p0_w=some r):
 CL Tryz.prog 30 #[vP A 0] S h (λv S' h'=>∃w_0_20:Value,v= .tuple #[]∧St S' (Bx A 84 [.string p0_w.b.Name,I,vI p0_w.b.Cells,J,H,K,M,Q,U,V,vI p0_w.b.Err,C,y,z,D,F,vI p0_w.s.Hour,c,d,G,w_0_20,g,j,k,m,p]::OO AM.int 3 29 c p0_w.s.Own::OS AM.int 3 d p0_w.s.Rem::OS BJ 69 w_0_20 r::OS AM.int 3 g p0_w.s.In::OS AM.int 3 j p0_w.s.Out::OS BH 50 k p0_w.moves::OS AM.int 3 m p0_w.peaks::OS Ap 60 p p0_w.sent::L) h'):=by
 refine BG (l:=[vP A 0]) 135 Tryz.func30 O Tryz.ntmps30 O λB=>?_
 rw[HO] at E
 refine AC (AI (AA O (CP O O (AD M0 O (AD UW O (AS A9 hs O mh O Yr O (An O ac Vp O λb1=>AA O (AN (kp [14,13,12,0] O) (Am (λa w=>∃(l2:List Ax),IV B S h (135,[]) a w [(0,vP A 0)] (Bx A 84 [.string p0_w.b.Name,I,vI p0_w.b.Cells,J,H,K,M,Q,U,V,vI p0_w.b.Err,C,y,z,D,F,vI p0_w.s.Hour,c,d,G,u,g,j,k,m,p]::OO AM.int 3 29 c p0_w.s.Own::OS AM.int 3 d p0_w.s.Rem::OS BJ 69 u l2::OS AM.int 3 g p0_w.s.In::OS AM.int 3 j p0_w.s.Out::OS BH 50 k p0_w.moves::OS AM.int 3 m p0_w.peaks::OS Ap 60 p p0_w.sent::L) λ_ _=>Ch N p0_w l2=some r) ?_ ?_)))))))))
 ·refine A5 (λn1=>λa w=>∃(i6:Int) (l8:List Ax),IV B S h (135,[]) a w [(13,vI (↑p0_w.in_.Faults.length:Int)),(12,y),(0,vP A 0),(14,vI i6)] (Bx A 84 [.string p0_w.b.Name,I,vI p0_w.b.Cells,J,H,K,M,Q,U,V,vI p0_w.b.Err,C,y,z,D,F,vI p0_w.s.Hour,c,d,G,u,g,j,k,m,p]::OO AM.int 3 29 c p0_w.s.Own::OS AM.int 3 d p0_w.s.Rem::OS BJ 69 u l8::OS AM.int 3 g p0_w.s.In::OS AM.int 3 j p0_w.s.Out::OS BH 50 k p0_w.moves::OS AM.int 3 m p0_w.peaks::OS Ap 60 p p0_w.sent::L) λ_ _=>AH i6∧CT N p0_w (Ch N p0_w) n1 i6 l8=some r) N ?_ ?_ ?_
  ·intro aa ww Z hw
   exact⟨0,p0_w.s.Gates,_,_,Z.sub (kp [13,12,0,14] O),hw,hs,(CA.refl S h),(iq (n:=0) O),E⟩
  ·rintro aa ww ⟨_,_,_,_,_,_,_,_,_,E⟩
   rw[CT] at E;cases E
  rintro n1 aa ww ⟨i6,l8,S9,em,Z,hw,ao,ap,r7,E⟩
  refine Ac ?_ Z hw
  clear Z hw ww aa
  rw[CT] at E
  refine AI (Ar O (AN (kp [15,13,12,0,14] O) (AC (AW O E (λen E=>?_) (λen E=>?_)))))
  ·refine AQ (AC (Am (λa w=>∃(a3:List Ax),IV B S9 em (135,[]) a w [(13,vI (↑p0_w.in_.Faults.length:Int)),(12,y),(0,vP A 0),(14,vI i6)] (Bx A 84 [.string p0_w.b.Name,I,vI p0_w.b.Cells,J,H,K,M,Q,U,V,vI p0_w.b.Err,C,y,z,D,F,vI p0_w.s.Hour,c,d,G,u,g,j,k,m,p]::OO AM.int 3 29 c p0_w.s.Own::OS AM.int 3 d p0_w.s.Rem::OS BJ 69 u a3::OS AM.int 3 g p0_w.s.In::OS AM.int 3 j p0_w.s.Out::OS BH 50 k p0_w.moves::OS AM.int 3 m p0_w.peaks::OS Ap 60 p p0_w.sent::L) λ_ _=>GC N i6 (CT N p0_w (Ch N p0_w) n1) a3=some r) ?_ ?_))
   ·refine WF.sl (AG 2 ?_)
    obtain⟨a4,cw,E⟩:=bd E
    refine BE O O (ac.mono' ap) Vp cw O λga eo=>B8 A9 ao.1 O eo Yo (λe=>by cases e) O λgb ep=>AF (Cp bS O ao λgc gd cx aq=>?_)
    obtain⟨rfl,⟨eq,er⟩⟩:=FT.ex (ep.mono aq)
    refine Du (vs:=[vI a4.Kind,vI a4.Link]) O O O O Yo O cx .head O λge ar a5=>AZ (kp [3,13,12,0,14] O) (AC (Bq (.inr ⟨mo,by kernel_rfl⟩) ar (AD PJ O (AS Bd ar O mh O Ag O (AA O (CP O O (AD GJ O (AD Gc O (AS Bd ar O (mt mh) O JR O (An O (ab.mono' (ap.trans (aq.trans a5))) Hf O λes=>?_))))))))))
    obtain⟨gf,cy,E⟩:=bd E
    refine A6 O O O Oi O (λh' o=>F8 (St.all h') er (Jl es) cy) (BM (kp [26,3,13,12,0,14] O) λgg X br=>AW O E (λet E=>?_) (λet E=>?_))
    ·refine LE 29 mo (by kernel_rfl) O X (AA O (CP O O (AD Cb O (AD H0 O (AS Bd X O (mt mh) O Ki O (AD PJ O (AS Bd X O mh O Ag O (AA O (CP O O (AD GJ O (AD Gc O (AS Bd X O (mt mh) O JR O (AD PJ O (AS Bd X O mh O Ag O ?_))))))))))))))
     obtain⟨gh,cz,E⟩:=bd E
     refine BE O O (ab.mono' (ap.trans (aq.trans (a5.trans br)))) Hf cz O λgi eu=>B8 Bd X.1 O eu Hd (λe=>by cases e) O λgj ev=>AA O (CP O O (AD Cb O (AD H0 O (AS Bd X O (mt mh) O Ki O (AD PJ O (AS Bd X O mh O Ag O ?_))))))
     obtain⟨gk,c0,E⟩:=bd E
     refine A8 X (mt (mt (mt (mt mh)))) O O KM c0 O λgl c1=>?_
     obtain⟨gm,c2,E⟩:=bd E
     have ew:=X.epAt (mt (mt (mt (mt mh)))) c2 E9.id c1
     refine B8 Bd (λ_ x=>x) O ew Gt (λe=>by cases e) O λgn ey=>AD X6 O (AS Bd X O mh O Ag O ?_)
     obtain⟨c3,c4,E⟩:=bd E
     refine CY O O O fW O (λh' o=>Pu (St.all h') (ev.mono (o.all X.1)) (ey.mono (o.all X.1)) eq c4) λez=>?_
     obtain⟨e0,e1⟩:=ez
     obtain⟨gp,c5,E⟩:=bd E
     refine A8 X (mt (mt (mt (mt mh)))) O O KM c5 O λgq c6=>J1 λgr c7 e2=>?_
     obtain⟨e3,c8,E⟩:=bd E
     refine E3 (r:=BJ) (l:=l8) (i:=a4.Link) (x:=e3) O O (BJ.mk (x:=c3) ⟨e0,e1⟩) c6 c8 Lv.id Gt (λe=>by cases e) c7 (.tail (.tail (.tail (.tail .head)))) λgs c9 e4=>AZ (kp [13,12,0,14] O) (WF.nil (λaa ww Z hw=>?_))
     have da:=c9.sel [1,1,1,1,1,1,1,1,1] 1 O
     exact⟨(upd l8 a4.Link c3),_,_,Z.sub (kp [13,12,0,14] O),hw,da,(aq.trans (a5.trans (br.trans (e2.trans e4)))),E⟩
    refine AQ (WF.nil (λaa ww Z hw=>?_))
    have db:=X.sel [1,1,1,1,1,1,1,1,1] 1 O
    exact⟨l8,_,_,Z.sub (kp [13,12,0,14] O),hw,db,(aq.trans (a5.trans br)),E⟩
   rintro aa ww ⟨a3,gt,gu,Z,hw,dc,e5,E⟩
   refine Ac ?_ Z hw
   clear Z hw ww aa
   rw[GC] at E
   refine BZ (.inl O) (Ai O (AA O (AN (kp [14,13,12,0] O) (WF.nil (λaa ww Z hw=>?_)))))
   exact⟨(BD (i6+1)),a3,_,_,Z.sub (kp [13,12,0,14] O),hw,dc,(ap.trans e5),(BK _),E⟩
  refine BC O (λaa ww Z hw=>?_)
  exact⟨l8,_,_,Z.sub (kp [0] O),hw,ao,ap,E⟩
 rintro aa ww ⟨l2,bs,bt,Z,hw,a9,au,E⟩
 refine Ac ?_ Z hw
 clear Z hw ww aa
 rw[Ch] at E
 refine AC (AI (AA O (CP O O (AD M0 O (AD UV O (AS A9 a9 O mh O Yq O ?_))))))
 have dd:=ag.mono' au
 refine An O dd Vo O λgv=>AA O (AN (kp [63,62,61,0] O) (Am (λa w=>∃(a6:List Ax),IV B bs bt (135,[]) a w [(0,vP A 0)] (Bx A 84 [.string p0_w.b.Name,I,vI p0_w.b.Cells,J,H,K,M,Q,U,V,vI p0_w.b.Err,C,y,z,D,F,vI p0_w.s.Hour,c,d,G,u,g,j,k,m,p]::OO AM.int 3 29 c p0_w.s.Own::OS AM.int 3 d p0_w.s.Rem::OS BJ 69 u a6::OS AM.int 3 g p0_w.s.In::OS AM.int 3 j p0_w.s.Out::OS BH 50 k p0_w.moves::OS AM.int 3 m p0_w.peaks::OS Ap 60 p p0_w.sent::L) λ_ _=>Cg N p0_w a6=some r) ?_ ?_))
 ·refine A5 (λn4=>λa w=>∃(ah:Int) (ai:List Ax),IV B bs bt (135,[]) a w [(62,vI (↑p0_w.in_.Cmds.length:Int)),(61,z),(0,vP A 0),(63,vI ah)] (Bx A 84 [.string p0_w.b.Name,I,vI p0_w.b.Cells,J,H,K,M,Q,U,V,vI p0_w.b.Err,C,y,z,D,F,vI p0_w.s.Hour,c,d,G,u,g,j,k,m,p]::OO AM.int 3 29 c p0_w.s.Own::OS AM.int 3 d p0_w.s.Rem::OS BJ 69 u ai::OS AM.int 3 g p0_w.s.In::OS AM.int 3 j p0_w.s.Out::OS BH 50 k p0_w.moves::OS AM.int 3 m p0_w.peaks::OS Ap 60 p p0_w.sent::L) λ_ _=>AH ah∧CS N p0_w (Cg N p0_w) n4 ah ai=some r) N ?_ ?_ ?_
  ·intro aa ww Z hw
   exact⟨0,l2,_,_,Z.sub (kp [62,61,0,63] O),hw,a9,(CA.refl bs bt),(iq (n:=0) O),E⟩
  ·rintro aa ww ⟨_,_,_,_,_,_,_,_,_,E⟩
   rw[CS] at E;cases E
  rintro n4 aa ww ⟨ah,ai,e6,e7,Z,hw,av,aw,gw,E⟩
  refine Ac ?_ Z hw
  clear Z hw ww aa
  rw[CS] at E
  refine AI (Ar O (AN (kp [64,62,61,0,63] O) (AC (AW O E (λe8 E=>?_) (λe8 E=>?_)))))
  ·refine AQ (AC (Am (λa w=>∃(a7:List Ax),IV B e6 e7 (135,[]) a w [(62,vI (↑p0_w.in_.Cmds.length:Int)),(61,z),(0,vP A 0),(63,vI ah)] (Bx A 84 [.string p0_w.b.Name,I,vI p0_w.b.Cells,J,H,K,M,Q,U,V,vI p0_w.b.Err,C,y,z,D,F,vI p0_w.s.Hour,c,d,G,u,g,j,k,m,p]::OO AM.int 3 29 c p0_w.s.Own::OS AM.int 3 d p0_w.s.Rem::OS BJ 69 u a7::OS AM.int 3 g p0_w.s.In::OS AM.int 3 j p0_w.s.Out::OS BH 50 k p0_w.moves::OS AM.int 3 m p0_w.peaks::OS Ap 60 p p0_w.sent::L) λ_ _=>GB N ah (CS N p0_w (Cg N p0_w) n4) a7=some r) ?_ ?_))
   ·refine WF.sl (AG 2 ?_)
    obtain⟨a8,de,E⟩:=bd E
    refine BE O O (dd.mono' aw) Vo de O λgx e9=>B8 A9 av.1 O e9 Yn (λe=>by cases e) O λfa df=>AF (Cp bR O av λfb fc bu ae=>?_)
    obtain⟨rfl,⟨dg,dh⟩⟩:=Ik.ex (df.mono ae)
    refine Du (vs:=[vI a8.Link,vI a8.Target]) O O O O Yn O bu .head O λfd aj am=>AZ (kp [5,62,61,0,63] O) (AC (Bq (.inr ⟨mo,by kernel_rfl⟩) aj (AD PI O (AS Bd aj O mh O Ag O (AA O (CP O O (AD GJ O (AD Gc O (AS Bd aj O (mt mh) O JR O (An O (ab.mono' (au.trans (aw.trans (ae.trans am)))) Hf O λdi=>?_))))))))))
    obtain⟨fe,bv,E⟩:=bd E
    refine A6 O O O Oi O (λh' o=>F8 (St.all h') dg (Jl di) bv) (BM (kp [75,5,62,61,0,63] O) λff W ax=>AW O E (λdj E=>?_) (λdj E=>?_))
    ·refine LE 29 mo (by kernel_rfl) O W (AA O (CP O O (AD Cb O (AD H0 O (AS Bd W O (mt mh) O Ki O (AD PI O (AS Bd W O mh O Ag O (AA O (CP O O (AD GJ O (AD Gc O (AS Bd W O (mt mh) O JR O (AD PI O (AS Bd W O mh O Ag O ?_))))))))))))))
     obtain⟨fg,bw,E⟩:=bd E
     refine BE O O (ab.mono' (au.trans (aw.trans (ae.trans (am.trans ax))))) Hf bw O λfh dk=>B8 Bd W.1 O dk Hd (λe=>by cases e) O λfi dl=>AA O (CP O O (AD Cb O (AD H0 O (AS Bd W O (mt mh) O Ki O (AD PI O (AS Bd W O mh O Ag O ?_))))))
     obtain⟨fj,bx,E⟩:=bd E
     refine A8 W (mt (mt (mt (mt mh)))) O O KM bx O λfk bz=>?_
     obtain⟨fl,b0,E⟩:=bd E
     have dm:=W.epAt (mt (mt (mt (mt mh)))) b0 E9.id bz
     refine B8 Bd (λ_ x=>x) O dm Gt (λe=>by cases e) O λfm dn=>AD X5 O (AS Bd W O mh O Ag O ?_)
     obtain⟨ba,b2,E⟩:=bd E
     refine CY O O O fV O (λh' o=>RX (St.all h') (dl.mono (o.all W.1)) (dn.mono (o.all W.1)) dh b2) λdp=>?_
     obtain⟨dq,dr⟩:=dp
     obtain⟨fn,b3,E⟩:=bd E
     refine A8 W (mt (mt (mt (mt mh)))) O O KM b3 O λfo b4=>J1 λfp b5 ds=>?_
     obtain⟨dt,b6,E⟩:=bd E
     refine E3 (r:=BJ) (l:=ai) (i:=a8.Link) (x:=dt) O O (BJ.mk (x:=ba) ⟨dq,dr⟩) b4 b6 Lv.id Gt (λe=>by cases e) b5 (.tail (.tail (.tail (.tail .head)))) λfq b7 du=>AZ (kp [62,61,0,63] O) (WF.nil (λaa ww Z hw=>?_))
     have b8:=b7.sel [1,1,1,1,1,1,1,1,1] 1 O
     exact⟨(upd ai a8.Link ba),_,_,Z.sub (kp [62,61,0,63] O),hw,b8,(ae.trans (am.trans (ax.trans (ds.trans du)))),E⟩
    refine AQ (WF.nil (λaa ww Z hw=>?_))
    have b9:=W.sel [1,1,1,1,1,1,1,1,1] 1 O
    exact⟨ai,_,_,Z.sub (kp [62,61,0,63] O),hw,b9,(ae.trans (am.trans ax)),E⟩
   rintro aa ww ⟨a7,fr,fs,Z,hw,ca,dv,E⟩
   refine Ac ?_ Z hw
   clear Z hw ww aa
   rw[GB] at E
   refine BZ (.inl O) (Ai O (AA O (AN (kp [63,62,61,0] O) (WF.nil (λaa ww Z hw=>?_)))))
   exact⟨(BD (ah+1)),a7,_,_,Z.sub (kp [62,61,0,63] O),hw,ca,(aw.trans dv),(BK _),E⟩
  refine BC O (λaa ww Z hw=>?_)
  exact⟨ai,_,_,Z.sub (kp [0] O),hw,av,aw,E⟩
 rintro aa ww ⟨a6,bb,bc,Z,hw,ay,be,E⟩
 refine Ac ?_ Z hw
 clear Z hw ww aa
 rw[Cg] at E
 refine AI (AA O (CP O O (AD GJ O (AD Gc O (AS A9 ay O mh O JR O ?_)))))
 have bf:=ab.mono' (au.trans be)
 refine An O bf Hf O λft=>AA O (AN (kp [112,111,110,0] O) (BB (A5 (λn6=>λa w=>∃(ad:Int) (af:List Ax),IV B bb bc (135,[]) a w [(111,vI (↑p0_w.b.Links.length:Int)),(110,H),(0,vP A 0),(112,vI ad)] (Bx A 84 [.string p0_w.b.Name,I,vI p0_w.b.Cells,J,H,K,M,Q,U,V,vI p0_w.b.Err,C,y,z,D,F,vI p0_w.s.Hour,c,d,G,u,g,j,k,m,p]::OO AM.int 3 29 c p0_w.s.Own::OS AM.int 3 d p0_w.s.Rem::OS BJ 69 u af::OS AM.int 3 g p0_w.s.In::OS AM.int 3 j p0_w.s.Out::OS BH 50 k p0_w.moves::OS AM.int 3 m p0_w.peaks::OS Ap 60 p p0_w.sent::L) λ_ _=>AH ad∧Dd N p0_w n6 ad af=some r) N ?_ ?_ ?_)))
 ·intro aa ww Z hw
  exact⟨0,a6,_,_,Z.sub (kp [111,110,0,112] O),hw,ay,(CA.refl bb bc),(iq (n:=0) O),E⟩
 ·rintro aa ww ⟨_,_,_,_,_,_,_,_,_,E⟩
  rw[Dd] at E;cases E
 rintro n6 aa ww ⟨ad,af,fu,fv,Z,hw,ak,az,fw,E⟩
 refine Ac ?_ Z hw
 clear Z hw ww aa
 rw[Dd] at E
 refine AI (Ar O (AN (kp [113,111,110,0,112] O) (AC (AW O E (λdw E=>?_) (λdw E=>?_)))))
 ·refine AQ (AC (BB (WF.sl (AG 3 (AA O ?_)))))
  obtain⟨t,cb,E⟩:=bd E
  refine BE O O (bf.mono' az) Hf cb O λfx dx=>B8 A9 ak.1 O dx Hd (λe=>by cases e) O λfy dy=>AF (Cp OY O ak λfz f0 cc bg=>AG 1 (AY O (AF ?_)))
  obtain⟨a0,a1,a2,rfl,dz,d0,d1,d2,bh,bi,bj,d3,d4,d5,d6,d7,d8,d9,ea,eb,ec,ed⟩:=Bu.ex (dy.mono bg)
  refine G7 (vs:=[.string t.Name,vI t.Kind,vI t.From,vI t.To,a0,a1,a2,vI t.Positions,vI t.Speed,vI t.Leak,vI t.Crest,vI t.Num,vI t.Den,vI t.Prime,vI t.Break,vI t.BackNum,vI t.BackDen,vI t.Delay]) (cs':=[.string t.Name,vI t.Kind,vI t.From,vI t.To,a0,a1,a2,vI t.Positions,vI t.Speed,vI t.Leak,vI t.Crest,vI t.Num,vI t.Den,vI t.Prime,vI t.Break,vI t.BackNum,vI t.BackDen,vI t.Delay]) O O O (AE O (AE O (AE O (AE O (AE bh.one (AE bi.one (AE bj.one (AE O (AE O (AE O (AE O (AE O (AE O (AE O (AE O (AE O (AE O (AE O EH)))))))))))))))))) Hd O cc .head O O λf1 Y an=>AZ (kp [6,7,111,110,0,112] O) (LE 17 mo (by kernel_rfl) O Y (AA O (CP O O (AD Cb O (AD H0 O (AS Bd Y O (mt mh) O Ki O (AA O (Db (vs:=[.string t.Name,vI t.Kind,vI t.From,vI t.To,a0,a1,a2,vI t.Positions,vI t.Speed,vI t.Leak,vI t.Crest,vI t.Num,vI t.Den,vI t.Prime,vI t.Break,vI t.BackNum,vI t.BackDen,vI t.Delay]) Bd Y O mh O O Hd O O (AA O (CP O O (AD Cb O (AD H0 O (AS Bd Y O (mt mh) O Ki O (AA O ?_))))))))))))))
  obtain⟨f2,cd,E⟩:=bd E
  refine A8 Y (mt (mt (mt (mt mh)))) O O KM cd O λf3 ce=>?_
  obtain⟨f4,cf,E⟩:=bd E
  have ee:=Y.epAt (mt (mt (mt (mt mh)))) cf E9.id ce
  refine B8 Bd (λ_ x=>x) O ee Gt (λe=>by cases e) O λf5 ef=>?_
  obtain⟨bk,cg,E⟩:=bd E
  refine CY O O O fT O (λh' o=>QS (St.all h') (Bu.mk (x:=t) dz d0 d1 d2 ((bh.mono' an).mono' (o.all Y.1)) ((bi.mono' an).mono' (o.all Y.1)) ((bj.mono' an).mono' (o.all Y.1)) d3 d4 d5 d6 d7 d8 d9 ea eb ec ed) (ef.mono (o.all Y.1)) cg) λeg=>?_
  obtain⟨eh,ei⟩:=eg
  obtain⟨f6,ch,E⟩:=bd E
  refine A8 Y (mt (mt (mt (mt mh)))) O O KM ch O λf7 ci=>J1 λf8 cj ej=>?_
  obtain⟨ek,ck,E⟩:=bd E
  refine E3 (r:=BJ) (l:=af) (i:=ad) (x:=ek) O O (BJ.mk (x:=bk) ⟨eh,ei⟩) ci ck Lv.id Gt (λe=>by cases e) cj (.tail (.tail (.tail (.tail .head)))) λf9 cl el=>AZ (kp [111,110,0,112] O) (BO (BZ (.inl O) (Ai O (AA O (AN (kp [112,111,110,0] O) (WF.nil (λaa ww Z hw=>?_)))))))
  have cm:=cl.sel [1,1,1,1,1,1,1,1,1] 1 O
  exact⟨(BD (ad+1)),(upd af ad bk),_,_,Z.sub (kp [111,110,0,112] O),hw,cm,(az.trans (bg.trans (an.trans (ej.trans el)))),(BK _),E⟩
 refine Kw O (WF.nil (λaa ww Z hw=>?_))
 cases E
 exact KH Z O hw KG O (au.trans (be.trans az)) ⟨_,O,ak⟩
theorem No (hs:St S L h) {b:Value}{g:(List Int)}(c:Sl S h AM.int b g) {a:Int}(j:AH a) {r:Int}(E:Kr N g a=some r):
 CL Tryz.prog 81 #[b,vI a] S h (λv S' h'=>v=vI r∧AH r∧St S' (L) h'):=by
 refine BG (l:=[b,vI a]) 24 Tryz.func81 O Tryz.ntmps81 O λB=>?_
 rw[Kr] at E
 refine AI (AK O (kp [0,1] O) (AC (AI (AA O (Ar O (AA O (AV 5 12 (.bool ((decide (a<0))||(decide ((↑g.length:Int)≤a)))) ?_ ?_)))))))
 ·cases C:(decide (a<0))
  ·exact AB O (AA O (AB O (AA O (AB O (An O c BQ O λD=>AB O (Gf O (AJ O (AU O))))))))
  exact Aa O O
 refine AA O ?_
 obtain⟨t,d,E⟩:=bd E
 refine AV 6 19 (.bool t) ?_ ?_
 ·cases s:((decide (a<0))||(decide ((↑g.length:Int)≤a)))
  ·have d:=F5 s d
   refine AB O (AA O (AB O (AA O (AB O ?_))))
   obtain⟨F,k,d⟩:=bd d
   refine BE O O c BQ k O λG u=>AB O (Af A9 hs.1 O u Ag O λH=>AB O (Ar O (AJ O ?_)))
   cases d
   exact AU O
  have d:=Fy s d
  cases d
  exact Aa O O
 refine AN (kp [19,0,1] O) (AW O E (λw E=>?_) (λw E=>?_))
 ·refine AI (AK O (kp [4] O) (Ad (λx y m o=>?_)))
  cases E
  exact Dx m o O O (CA.refl S h) ⟨O,(iq (n:=0) O),hs⟩
 refine AQ (AI (AA O (AA O ?_)))
 obtain⟨z,i,E⟩:=bd E
 refine BE O O c BQ i O λA p=>Af A9 hs.1 O p Ag O λq=>AK O (kp [4] O) (Ad (λx y m o=>?_))
 cases E
 exact Dx m o O O (CA.refl S h) ⟨O,q,hs⟩
theorem QM (hs:St S L h) {k:Value}{d:(List Int)}(j:Sl S h AM.int k d) {c:Int}(s:AH c) {b:Int}(G:AH b) {g:Int}(u:AH g) {r:(List Int)}(E:Ma N d c b g=some r):
 CL Tryz.prog 58 #[k,vI c,vI b,vI g] S h (λv S' h'=>St S' (OS AM.int 3 v r::L) h'):=by
 refine BG (l:=[k,vI c,vI b,vI g]) 56 Tryz.func58 O Tryz.ntmps58 O λB=>?_
 rw[Ma] at E
 refine AI (AK O (kp [0,1,2,3] O) (WF.sl (AG 2 (AA O (An O j BQ O λb1=>AF ?_)))))
 obtain⟨aj,E⟩:=Lr E
 refine JO (r:=AM.int) (zx:=0) Ef O ⟨O,by unfold AH;omega⟩ O O aj O O hs λv3 h4 ak e6=>AG 1 (AY O (AF (AZ (kp [9,0,1,2,3] O) (WF.sl (AG 2 (AA O (AA O (AF (R3 (r:=AM.int) (l:=(List.replicate ((↑d.length:Int):Int).toNat (0:Int))) (xs:=d) O O BQ (Sl.src (j.mono' e6)) O ak .head λh8 H C=>AZ (kp [9,0,1,2,3] O) (AC (Bq (.inl O) H (AA O (AA O (AA O ?_))))))))))))))
 obtain⟨m,I,E⟩:=bd E
 refine CY O O O ZC O (λh' o=>No (St.all h') ((j.mono' (e6.trans C)).mono' (o.all H.1)) s I) λal=>?_
 have am:=al
 refine Ry O O O (AY O (BM (kp [10,9,0,1,2] O) λJ n K=>AC (AI (AA O (Bf O (AA O (AV 3 27 (.bool ((decide (0<(min g m)))&&(decide (0≤b)))) ?_ ?_)))))))
 ·cases a1:(decide (0<(min g m)))
  ·exact Aa O O
  exact AB O (AA O (AB O (Gf O (AJ O (AU O)))))
 refine AA O (AV 5 33 (.bool (((decide (0<(min g m)))&&(decide (0≤b)))&&(decide (b<(↑d.length:Int))))) ?_ ?_)
 ·cases a2:((decide (0<(min g m)))&&(decide (0≤b)))
  ·exact Aa O O
  exact AB O (AA O (AB O (AA O (AB O (An O (j.mono' (e6.trans (C.trans K))) BQ O λa3=>AB O (Ar O (AJ O (AU O))))))))
 refine AA O (AV 4 38 (.bool ((((decide (0<(min g m)))&&(decide (0≤b)))&&(decide (b<(↑d.length:Int))))&&(decide (c≠b)))) ?_ ?_)
 ·cases a4:(((decide (0<(min g m)))&&(decide (0≤b)))&&(decide (b<(↑d.length:Int))))
  ·exact Aa O O
  exact AB O (AA O (AB O (AA O (AB O (Bt O (AJ O (AU O)))))))
 refine AN (kp [38,10,9,1,2] O) (Ge (λa w=>∃(D:List Int),IV B S J (56,[]) a w [(9,v3)] (OS AM.int 3 v3 D::L) λ_ _=>Ja N D=some r) ?_ ?_)
 ·refine AW O E (λan E=>?_) (λan E=>?_)
  ·refine WF.sl (AG 7 (AA O (AA O ?_)))
   obtain⟨a5,M,E⟩:=bd E
   refine A8 n mh O O BQ M O λa6 Q=>?_
   obtain⟨F,U,E⟩:=bd E
   have ao:=n.epAt mh U E9.id Q
   refine Af A9 (λ_ x=>x) O ao Ag O λa7=>AA O (Ck O ?_)
   obtain⟨a8,V,E⟩:=bd E
   refine A8 n mh O O BQ V O λa9 W=>AF ?_
   obtain⟨ap,X,E⟩:=bd E
   refine E3 (r:=AM.int) (l:=(M3 (List.replicate ((↑d.length:Int):Int).toNat (0:Int)) d)) (i:=c) (x:=ap) O O (⟨_,O,O,(BK _)⟩:Rd _ _ AM.int _ (BD (F-(min g m)))) W X Lv.id Ag (λ_=>rfl) n .head λba t aq=>AZ (kp [10,9,2] O) (D3 (AG 7 (AA O (AA O (AA O (AA O ?_))))))
   obtain⟨bb,Y,E⟩:=bd E
   refine A8 t mh O O BQ Y O λbc Z=>?_
   obtain⟨be,ab,E⟩:=bd E
   have ar:=t.epAt mh ab E9.id Z
   refine Af A9 (λ_ x=>x) O ar Ag O λau=>AA O (AF ?_)
   obtain⟨ac,ad,E⟩:=bd E
   refine BX O O O Qs O t (IM (St.all _) au (LR u am) ad) λbf bg bh y av bi p=>?_
   obtain⟨rfl,aw,a0⟩:=p
   refine AG 1 ?_
   obtain⟨bj,ae,E⟩:=bd E
   refine A8 y mh O O BQ ae O λbk af=>AF ?_
   obtain⟨ax,ag,E⟩:=bd E
   refine E3 (r:=AM.int) (l:=(upd (M3 (List.replicate ((↑d.length:Int):Int).toNat (0:Int)) d) c (BD (F-(min g m))))) (i:=b) (x:=ax) O O (⟨_,O,O,aw⟩:Rd _ _ AM.int _ ac) af ag Lv.id Ag (λ_=>rfl) y .head λbl ah ay=>AZ (kp [9] O) (WF.nil (λaa ww z A=>?_))
   exact⟨(upd (upd (M3 (List.replicate ((↑d.length:Int):Int).toNat (0:Int)) d) c (BD (F-(min g m)))) b ac),_,_,z.sub (kp [9] O),A,ah,(aq.trans (av.trans ay)),E⟩
  refine AQ (WF.nil (λaa ww z A=>?_))
  exact⟨(M3 (List.replicate ((↑d.length:Int):Int).toNat (0:Int)) d),_,_,z.sub (kp [9] O),A,n,(CA.refl S J),E⟩
 rintro aa ww ⟨D,bm,bn,z,A,ai,az,E⟩
 refine Ac ?_ z A
 clear z A ww aa
 rw[Ja] at E
 refine AI (AA O (AK O (kp [8] O) (Ad (λaa ww z A=>?_))))
 cases E
 exact Dx z A O O (e6.trans (C.trans (K.trans az))) ai
theorem NA {c:Nat}{p0_w:Aq}{M:Value}{Q:Value}{U:Value}{V:Value}{W:Value}{Y:Value}{Z:Value}{ab:Value}{G:Value}{H:Value}{I:Value}{J:Value}{t:Value}{g:Value}{u:Value}{K:Value}{x:Value}{y:Value}{z:Value}{A:Value}{C:Value}{D:Value}(hs:St S (Bx c 84 [.string p0_w.b.Name,M,vI p0_w.b.Cells,Q,U,V,W,Y,Z,ab,vI p0_w.b.Err,G,H,I,J,t,vI p0_w.s.Hour,g,u,K,x,y,z,A,C,D]::OO AM.int 3 29 g p0_w.s.Own::OS AM.int 3 u p0_w.s.Rem::OS BJ 69 x p0_w.s.Gates::OS AM.int 3 y p0_w.s.In::OS AM.int 3 z p0_w.s.Out::OS BH 50 A p0_w.moves::OS AM.int 3 C p0_w.peaks::OS Ap 60 D p0_w.sent::L) h) (b5:p0_w.b.Name.size≤maxLen) (ah:Sl S h AM.str M p0_w.b.Owners) (b6:AH p0_w.b.Cells) (ai:Sl S h B0 Q p0_w.b.Places) (b7:Sl S h Bu U p0_w.b.Links) (b8:Sl S h GT V p0_w.b.Towns) (b9:Sl S h Ed W p0_w.b.Gauges) (ca:Sl S h Fv Y p0_w.b.Roads) (cb:Sl S h Cz Z p0_w.b.Shelters) (cc:Sl S h AM.int ab p0_w.b.Room) (bc:AH p0_w.b.Err) (be:Sl S h AM.int G p0_w.in_.Rain) (bf:Sl S h FT H p0_w.in_.Faults) (bg:Sl S h Ik I p0_w.in_.Cmds) (bh:Sl S h Fd J p0_w.in_.Takes) (af:Sl S h GH t p0_w.in_.Swaps) (bi:AH p0_w.s.Hour) (bj:Sl S h Ap K p0_w.s.Queue) {r:(List (List Int))}(E:HN N p0_w=some r):
 CL Tryz.prog 31 #[vP c 0] S h (λv S' h'=>∃w_0_17:Value,v= .tuple #[]∧St S' (Bx c 84 [.string p0_w.b.Name,M,vI p0_w.b.Cells,Q,U,V,W,Y,Z,ab,vI p0_w.b.Err,G,H,I,J,t,vI p0_w.s.Hour,w_0_17,u,K,x,y,z,A,C,D]::OO AM.int 3 29 w_0_17 r::OS AM.int 3 u p0_w.s.Rem::OS BJ 69 x p0_w.s.Gates::OS AM.int 3 y p0_w.s.In::OS AM.int 3 z p0_w.s.Out::OS BH 50 A p0_w.moves::OS AM.int 3 C p0_w.peaks::OS Ap 60 D p0_w.sent::L) h'):=by
 refine BG (l:=[vP c 0]) 70 Tryz.func31 O Tryz.ntmps31 O λB=>?_
 rw[HN] at E
 refine AI (AA O (CP O O (AD M0 O (AD Ri O (AS A9 hs O mh O VY O (An O af T3 O λb1=>AA O (AN (kp [10,9,8,0] O) (BB (A5 (λn0=>λa w=>∃(i5:Int) (l7:List (List Int)),IV B S h (70,[]) a w [(9,vI (↑p0_w.in_.Swaps.length:Int)),(8,t),(0,vP c 0),(10,vI i5)] (Bx c 84 [.string p0_w.b.Name,M,vI p0_w.b.Cells,Q,U,V,W,Y,Z,ab,vI p0_w.b.Err,G,H,I,J,t,vI p0_w.s.Hour,g,u,K,x,y,z,A,C,D]::OO AM.int 3 29 g l7::OS AM.int 3 u p0_w.s.Rem::OS BJ 69 x p0_w.s.Gates::OS AM.int 3 y p0_w.s.In::OS AM.int 3 z p0_w.s.Out::OS BH 50 A p0_w.moves::OS AM.int 3 C p0_w.peaks::OS Ap 60 D p0_w.sent::L) λ_ _=>AH i5∧Dc N p0_w n0 i5 l7=some r) N ?_ ?_ ?_)))))))))
 ·intro aa ww hf hw
  exact⟨0,p0_w.s.Own,_,_,hf.sub (kp [9,8,0,10] O),hw,hs,(CA.refl S h),(iq (n:=0) O),E⟩
 ·rintro aa ww ⟨_,_,_,_,_,_,_,_,_,E⟩
  rw[Dc] at E;cases E
 rintro n0 aa ww ⟨i5,l7,S8,h9,hf,hw,an,aj,r6,E⟩
 refine Ac ?_ hf hw
 clear hf hw ww aa
 rw[Dc] at E
 refine AI (Ar O (AN (kp [11,9,8,0,10] O) (AC (AW O E (λc3 E=>?_) (λc3 E=>?_)))))
 ·refine AQ (AC (Am (λa w=>∃(ba:List (List Int)),IV B S8 h9 (70,[]) a w [(9,vI (↑p0_w.in_.Swaps.length:Int)),(8,t),(0,vP c 0),(10,vI i5)] (Bx c 84 [.string p0_w.b.Name,M,vI p0_w.b.Cells,Q,U,V,W,Y,Z,ab,vI p0_w.b.Err,G,H,I,J,t,vI p0_w.s.Hour,g,u,K,x,y,z,A,C,D]::OO AM.int 3 29 g ba::OS AM.int 3 u p0_w.s.Rem::OS BJ 69 x p0_w.s.Gates::OS AM.int 3 y p0_w.s.In::OS AM.int 3 z p0_w.s.Out::OS BH 50 A p0_w.moves::OS AM.int 3 C p0_w.peaks::OS Ap 60 D p0_w.sent::L) λ_ _=>HM N i5 (Dc N p0_w n0) ba=some r) ?_ ?_))
  ·refine WF.sl (AG 2 ?_)
   obtain⟨ac,cd,E⟩:=bd E
   refine BE O O (af.mono' aj) T3 cd O λe2 c4=>B8 A9 an.1 O c4 Ve (λe=>by cases e) O λe3 c5=>AF (Cp ZU O an λak e4 ce am=>?_)
   obtain⟨rfl,⟨bk,cf,cg,c6⟩⟩:=GH.ex (c5.mono am)
   refine Du (vs:=[vI ac.Place,vI ac.From,vI ac.To,vI ac.Litres]) O O O O Ve O ce .head O λe5 ag ao=>AZ (kp [3,9,8,0,10] O) (AC (Bq (.inr ⟨mo,by kernel_rfl⟩) ag (AD Pz O (AS Bd ag O mh O Ag O (AA O (CP O O (AD GJ O (AD C1 O (AS Bd ag O (mt mh) O F7 O (An O (ai.mono' (aj.trans (am.trans ao))) FA O λc7=>?_))))))))))
   obtain⟨c8,ch,E⟩:=bd E
   refine A6 O O O Oi O (λh' o=>F8 (St.all h') bk (Jl c7) ch) (AA O ?_)
   obtain⟨ci,ad,E⟩:=bd E
   refine AV 10 33 (.bool ci) ?_ ?_
   ·cases cj:c8
    ·have ad:=F5 cj ad
     cases ad
     exact Aa O O
    have ad:=Fy cj ad
    refine AB O (AD Sv O (AB O (AS Bd ag O mh O Ag O (AB O (AA O (AB O (CP O O (AB O (AD GJ O (AB O (AD H1 O (AB O (AS Bd ag O (mt mh) O Kj O (AB O (An O (ah.mono' (aj.trans (am.trans ao))) KN O λc9=>AB O ?_)))))))))))))))
    obtain⟨e6,ck,ad⟩:=bd ad
    refine A6 O O O Oi O (λh' o=>F8 (St.all h') cf (Jl c9) ck) (AJ O ?_)
    cases ad
    exact AU O
   refine AA O ?_
   obtain⟨da,ae,E⟩:=bd E
   refine AV 10 44 (.bool da) ?_ ?_
   ·cases cl:ci
    ·have ae:=F5 cl ae
     cases ae
     exact Aa O O
    have ae:=Fy cl ae
    refine AB O (AD Su O (AB O (AS Bd ag O mh O Ag O (AB O (AA O (AB O (CP O O (AB O (AD GJ O (AB O (AD H1 O (AB O (AS Bd ag O (mt mh) O Kj O (AB O (An O (ah.mono' (aj.trans (am.trans ao))) KN O λdb=>AB O ?_)))))))))))))))
    obtain⟨e7,cm,ae⟩:=bd ae
    refine A6 O O O Oi O (λh' o=>F8 (St.all h') cg (Jl db) cm) (AJ O ?_)
    cases ae
    exact AU O
   refine BM (kp [44,3,9,8,0,10] O) λdc d cn=>AW O E (λdd E=>?_) (λdd E=>?_)
   ·obtain ⟨e8,co,E⟩:=bd E
    obtain⟨de,cp,E⟩:=bd E
    obtain⟨cq,cr,E⟩:=bd E
    obtain⟨e9,cs,E⟩:=bd E
    refine Rs (m:=[(3,vP ak 0),(9,vI (↑p0_w.in_.Swaps.length:Int)),(8,t),(0,vP c 0),(10,vI i5)]) [24] [] [] (by kernel_rfl) (λgv X F i v hh=>match i with|0=>v=vP c 0|1=>v=vP c 0|2=>v=vP c 16|3=>v=vP c 17|4=>v=g|5=>v=vP ak 0|6=>v=vI ac.Place∧AH ac.Place|7=>v=vP c 0|8=>v=vP c 0|9=>v=vP c 16|10=>v=vP c 17|11=>v=g|12=>v=vP ak 0|13=>v=vI ac.Place∧AH ac.Place|14=>EP g (ac.Place.toNat*((AM.sl AM.int)).sz+0) v|15=>Sl (λb=>b<hh.size) hh AM.int v de|16=>v=vP ak 1|17=>v=vI ac.From∧AH ac.From|18=>v=vP ak 2|19=>v=vI ac.To∧AH ac.To|20=>v=vP ak 3|21=>v=vI ac.Litres∧AH ac.Litres|22=>OW S8 dc X F [OS AM.int 3 v cq] hh|23=>EP g (ac.Place.toNat*((AM.sl AM.int)).sz+0) v|_=>False) [[],[(0,45)],[(1,46)],[(2,47)],[(3,48)],[],[(5,50)],[],[(7,52)],[(8,53)],[(9,54)],[(10,55)],[],[(12,57)],[(11,56),(13,58)],[(14,59)],[],[(16,61)],[],[(18,63)],[],[(20,65)],[(15,60),(17,62),(19,64),(21,66)],[(4,49),(6,51)],[]] [(22,67),(23,68)] mo (by kernel_rfl) [3,9,8,0,10] O (by kernel_rfl) (by kernel_rfl) (by kernel_rfl) O (kp [3,9,8,0,10] O) (λgv i v h1 h2 X X' F o1 o2 hF u1 u2 hr=>?_) (λgv gv' X F i v h1 hz hr=>?_) ?_ ?_ ?_
    ·match i,hr with
      |0,hr|1,hr|2,hr|3,hr|4,hr|5,hr|6,hr|7,hr|8,hr|9,hr|10,hr|11,hr|12,hr|13,hr|14,hr|16,hr|17,hr|18,hr|19,hr|20,hr|21,hr|23,hr=>exact hr
      |15,hr=>exact Sl.mono hr (λb hb=>Nat.lt_of_lt_of_le hb o2.siz) (λb hb=>o2.same b hb)
      |22,hr=>exact OW.mono d.1 o1 o2 hF u1 u2 hr
      |_+24,hr=>exact hr.elim
    ·match i,hr with
      |0,hr|1,hr|2,hr|3,hr|4,hr|5,hr|6,hr|7,hr|8,hr|9,hr|10,hr|11,hr|12,hr|13,hr|14,hr|15,hr|16,hr|17,hr|18,hr|19,hr|20,hr|21,hr|22,hr|23,hr=>exact hr
      |_+24,hr=>exact hr.elim
    ·exact trivial
    ·refine CC.cons O O ?_ ?_
     ·intro gv X mq hh o hX
      have hsN:=o.st d
      exact AG 1 (AA O (AO O))
     refine CC.cons O O ?_ ?_
     ·intro gv X mq hh o hX
      have hsN:=o.st d
      intro fa bl
      obtain⟨d0,_,_,bl⟩:=bl
      cases bl
      exact AG 1 (CP O O (AO O))
     refine CC.cons O O ?_ ?_
     ·intro gv X mq hh o hX
      have hsN:=o.st d
      intro fb bm
      obtain⟨d1,_,_,bm⟩:=bm
      cases bm
      exact AG 1 (AD Cb O (AO O))
     refine CC.cons O O ?_ ?_
     ·intro gv X mq hh o hX
      have hsN:=o.st d
      intro fc bn
      obtain⟨d2,_,_,bn⟩:=bn
      cases bn
      exact AG 1 (AD Dm O (AO O))
     refine CC.cons O O ?_ ?_
     ·intro gv X mq hh o hX
      have hsN:=o.st d
      intro fd bo
      obtain⟨d3,_,_,bo⟩:=bo
      cases bo
      exact AG 1 (AS A9 hsN O (mt mh) O Gu O (AO O))
     refine CC.cons O O ?_ ?_
     ·intro gv X mq hh o hX
      have hsN:=o.st d
      exact AG 1 (AD Pz O (AO O))
     refine CC.cons O O ?_ ?_
     ·intro gv X mq hh o hX
      have hsN:=o.st d
      intro fe bp
      obtain⟨d4,_,_,bp⟩:=bp
      cases bp
      exact AG 1 (AS A9 hsN O mh O Ag O (AO ⟨O,bk⟩))
     refine CC.cons O O ?_ ?_
     ·intro gv X mq hh o hX
      have hsN:=o.st d
      exact AG 1 (AA O (AO O))
     refine CC.cons O O ?_ ?_
     ·intro gv X mq hh o hX
      have hsN:=o.st d
      intro ff bq
      obtain⟨d5,_,_,bq⟩:=bq
      cases bq
      exact AG 1 (CP O O (AO O))
     refine CC.cons O O ?_ ?_
     ·intro gv X mq hh o hX
      have hsN:=o.st d
      intro fg br
      obtain⟨d6,_,_,br⟩:=br
      cases br
      exact AG 1 (AD Cb O (AO O))
     refine CC.cons O O ?_ ?_
     ·intro gv X mq hh o hX
      have hsN:=o.st d
      intro fh bs
      obtain⟨d7,_,_,bs⟩:=bs
      cases bs
      exact AG 1 (AD Dm O (AO O))
     refine CC.cons O O ?_ ?_
     ·intro gv X mq hh o hX
      have hsN:=o.st d
      intro fi ap
      obtain⟨df,_,_,ap⟩:=ap
      cases ap
      exact AG 1 (AS A9 hsN O (mt mh) O Gu O (AO O))
     refine CC.cons O O ?_ ?_
     ·intro gv X mq hh o hX
      have hsN:=o.st d
      exact AG 1 (AD Pz O (AO O))
     refine CC.cons O O ?_ ?_
     ·intro gv X mq hh o hX
      have hsN:=o.st d
      intro d8 aq
      obtain⟨dg,_,_,aq⟩:=aq
      cases aq
      exact AG 1 (AS A9 hsN O mh O Ag O (AO ⟨O,bk⟩))
     refine CC.cons O O ?_ ?_
     ·intro gv X mq hh o hX
      have hsN:=o.st d
      intro d9 ar ea au
      obtain⟨dh,_,_,ar⟩:=ar
      cases ar
      obtain⟨di,_,_,au⟩:=au
      obtain⟨rfl,eb⟩:=au
      exact AG 1 (N7 (r:=AM.int) hsN (mt (mt mh)) O O Ev co O λec bt=>AO bt)
     refine CC.cons O O ?_ ?_
     ·intro gv X mq hh o hX
      have hsN:=o.st d
      intro ed av
      obtain⟨dj,_,_,av⟩:=av
      exact AG 1 (R0 (r:=AM.int) A9 hsN (mt (mt mh)) O cp av BW O λee dk ct=>AO ct)
     refine CC.cons O O ?_ ?_
     ·intro gv X mq hh o hX
      have hsN:=o.st d
      exact AG 1 (AD Sv O (AO O))
     refine CC.cons O O ?_ ?_
     ·intro gv X mq hh o hX
      have hsN:=o.st d
      intro ef aw
      obtain⟨dl,_,_,aw⟩:=aw
      cases aw
      exact AG 1 (AS A9 hsN O mh O Ag O (AO ⟨O,cf⟩))
     refine CC.cons O O ?_ ?_
     ·intro gv X mq hh o hX
      have hsN:=o.st d
      exact AG 1 (AD Su O (AO O))
     refine CC.cons O O ?_ ?_
     ·intro gv X mq hh o hX
      have hsN:=o.st d
      intro eg ax
      obtain⟨dm,_,_,ax⟩:=ax
      cases ax
      exact AG 1 (AS A9 hsN O mh O Ag O (AO ⟨O,cg⟩))
     refine CC.cons O O ?_ ?_
     ·intro gv X mq hh o hX
      have hsN:=o.st d
      exact AG 1 (AD Ws O (AO O))
     refine CC.cons O O ?_ ?_
     ·intro gv X mq hh o hX
      have hsN:=o.st d
      intro eh ay
      obtain⟨dn,_,_,ay⟩:=ay
      cases ay
      exact AG 1 (AS A9 hsN O mh O Ag O (AO ⟨O,c6⟩))
     refine Ml O O ?_ ?_
     ·intro gv X mq hh o hX
      have hsN:=SX.fz (X:=X) d o
      intro ei az ej a0 ek a1 el a2
      obtain⟨dp,_,_,az⟩:=az
      obtain⟨dq,_,_,a0⟩:=a0
      obtain⟨rfl,cu⟩:=a0
      obtain⟨dr,_,_,a1⟩:=a1
      obtain⟨rfl,cv⟩:=a1
      obtain⟨ds,_,_,a2⟩:=a2
      obtain⟨rfl,cw⟩:=a2
      refine BX O O O eV O hsN (QM (St.all _) az cu cv cw cr) λem en eo dt cx cy p=>?_
      have bu:=p
      have a3:=hsN.join cy bu ⟨OS.flat (λ{_ _ _ _ _ _} k=>k),trivial⟩
      simp only[List.cons_append,List.nil_append] at a3
      have hsG:=a3.pick (.tail .head)
      obtain⟨F152,hF153,cz,ep,c0⟩:=OW.done d.1 o hX cx hsG
      exact Cm cz ⟨F152,hF153,c0⟩
     refine CC.cons O O ?_ ?_
     ·intro gv X mq hh o hX
      have hsN:=o.st d
      intro eq a4 er a5
      obtain⟨du,_,_,a4⟩:=a4
      cases a4
      obtain⟨dv,_,_,a5⟩:=a5
      obtain⟨rfl,es⟩:=a5
      exact AG 1 (N7 (r:=AM.int) hsN (mt (mt mh)) O O Ev cs O λet bv=>AO bv)
     exact CC.skip (by kernel_rfl) (trivial)
    intro eu dw dx bb a6 bw ev a7 ew a8
    obtain⟨dy,a7⟩:=a7
    obtain⟨dz,a8⟩:=a8
    have a9:=(Tq.cons (Tq.nil d bb a6) bw (j:=22) O a7).st
    simp only[List.cons_append,List.nil_append] at a9
    obtain⟨ey,bx,E⟩:=bd E
    have bz:=a9.sel [0,2,0,0,0,0,0,0,0,0,0] 0 O
    refine Un (r:=AM.int) (i:=ac.Place) O O a8 bx BW bz λez b0 c1=>AZ (kp [9,8,0,10] O) (WF.nil (λaa ww hf hw=>?_))
    have b2:=b0.sel [2,0,1,1,1,1,1,1,1] 1 O
    exact⟨(upd l7 ac.Place cq),_,_,hf.sub (kp [9,8,0,10] O),hw,b2,(am.trans (ao.trans (cn.trans ((SX.ext d.1 bb (Xd a6)).trans c1)))),E⟩
   refine AQ (WF.nil (λaa ww hf hw=>?_))
   have b3:=d.sel [1,1,1,1,1,1,1,1,1] 1 O
   exact⟨l7,_,_,hf.sub (kp [9,8,0,10] O),hw,b3,(am.trans (ao.trans cn)),E⟩
  rintro aa ww ⟨ba,e0,e1,hf,hw,b4,c2,E⟩
  refine Ac ?_ hf hw
  clear hf hw ww aa
  rw[HM] at E
  refine BZ (.inl O) (Ai O (AA O (AN (kp [10,9,8,0] O) (WF.nil (λaa ww hf hw=>?_)))))
  exact⟨(BD (i5+1)),ba,_,_,hf.sub (kp [9,8,0,10] O),hw,b4,(aj.trans c2),(BK _),E⟩
 refine Kw O (WF.nil (λaa ww hf hw=>?_))
 cases E
 exact KH hf O hw KG O aj ⟨_,O,an⟩
end Go.Proofs.YtblcgjadhemlbaaGreat
