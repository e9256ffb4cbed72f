import Derived.Test.YtblcgjadhemlbaaGreatUWalk6
namespace Go.Proofs.YtblcgjadhemlbaaGreat
open Go.RowKit
set_option linter.unusedVariables false
set_option linter.unusedSimpArgs false
set_option maxRecDepth 10000
set_option maxHeartbeats 2000000
variable {N:Nat}{S:Nat→Prop}{L:List HP}{h:Av}
theorem RY (hs:St S L h) {d:Value}{u:Ay}(m:Rd S h Bu d u) {g:Value}{b:Au}(o:Rd S h A8 g b) {c:Int}(i:AG c) {r:Au}(E:I7 N u b c=some r):
 CG Tryz.prog 22 #[d,g,vI c] S h (λv S' h'=>v= .agg #[vI r.Pos,vI r.Target,.bool r.Stuck,.bool r.Open]∧Au.ok r∧St S' (L) h'):=by
 refine BB (l:=[d,g,vI c]) 16 Tryz.func22 O Tryz.ntmps22 O λB=>?_
 rw[I7] at E
 refine WF.sl (B5 O m (λe=>by cases e) O hs λq1 S2 h3 X e5 k6=>?_)
 obtain⟨rfl,⟨r9,Y⟩⟩:=A8.ex (o.mono e5)
 refine P4 O O O X λA am C D=>Cs SC O C λF G j H=>AZ (kp [6,4,3,2] O) (AD (AI ?_))
 have I:=k6.mono (D.trans H)
 refine Ai O I D1 JF O λan Z=>Ah A6 j.1 O Z Ag O λao=>Bc O (AN (kp [9,6,4,3,2] O) (Gs (λa w=>∃(k:Int),IV B S2 G (16,[]) a w [(6,vP F 0),(4,vP A 0)] (Bx F 69 [vI 0,vI 0,.bool false,.bool false]::Bx A 69 [vI b.Pos,vI k,.bool b.Stuck,.bool b.Open]::L) λ_ _=>AG k∧Jo N b k=some r) ?_ ?_))
 ·refine AX O E (λab E=>?_) (λab E=>?_)
  ·refine EQ (AH 3 (AA O (Ai O I D1 JF O λap ac=>Ah A6 j.1 O ac Ag O λad=>AF ?_)))
   obtain⟨z,J,E⟩:=bd E
   refine BZ O O O Up O j (I2 (St.all _) i (iq (n:=0) O) ad J) λaq ar au K ae av p=>?_
   obtain⟨rfl,af,ak⟩:=p
   refine AH 1 (AC PH O (AF (Hz (vs:=[vI z]) (cs':=[vI b.Pos,vI z,.bool b.Stuck,.bool b.Open]) O O O O Ag O K (.tail .head) O O λaw M ag=>AZ (kp [6,4] O) (WF.nil (λV W s t=>?_)))))
   exact⟨z,_,_,s.sub (kp [6,4] O),t,M,(ae.trans ag),af,E⟩
  refine AT (WF.nil (λV W s t=>?_))
  exact⟨b.Target,_,_,s.sub (kp [6,4] O),t,j,(B9.refl S2 G),Y,E⟩
 rintro V W ⟨k,ax,ay,s,t,x,ah,ai,E⟩
 refine Ad ?_ s t
 clear s t W V
 rw[Jo] at E
 refine WF.sl (AH 1 (DT (vs:=[vI b.Pos,vI k,.bool b.Stuck,.bool b.Open]) A6 x O (mt mh) O O Gi O O (AF (Dh (vs:=[vI b.Pos,vI k,.bool b.Stuck,.bool b.Open]) O O O O Gi O x .head O λaz Q aj=>AZ (kp [6] O) (Ac (λV W s t=>?_))))))
 have y:=Q.drop (.tail .head)
 have U:=y.drop .head
 cases E
 exact J9 s O t (IC (Xt s t y O mh Gi O) J8) O (e5.trans (D.trans (H.trans (ah.trans aj)))) ⟨O,⟨r9,ai⟩,U⟩
theorem Iv (hs:St S L h) {b:Int}(g:AG b) {a:Int}(i:AG a) {r:Int}(E:GZ N b a=some r):
 CG Tryz.prog 46 #[vI b,vI a] S h (λv S' h'=>v=vI r∧AG r∧St S' (L) h'):=by
 refine BB (l:=[vI b,vI a]) 24 Tryz.func46 O Tryz.ntmps46 O λB=>?_
 rw[GZ] at E
 refine AI (AL O (kp [0,1] O) (AD (AI (AA O (Aq O (AA O (AV 5 12 (.bool ((decide (a<0))&&(decide ((BC (9223372036854775807+a))<b)))) ?_ ?_)))))))
 ·cases p:(decide (a<0))
  ·exact Aa O O
  exact AB O (AA O (AB O (AA O (AB O (Af O (AB O (Bh O (AJ O (AU O)))))))))
 refine AN (kp [12,0,1] O) (AX O E (λm E=>?_) (λm E=>?_))
 ·refine AI (AL O (kp [4] O) (Ac (λj k c d=>?_)))
  cases E
  exact Dm c d O O (B9.refl S h) ⟨O,(iq (n:=9223372036854775807) O),hs⟩
 refine AT (AD (AI (AA O (Bh O (AA O (AV 5 20 (.bool ((decide (0<a))&&(decide (b<(BC ((-9223372036854775808)+a)))))) ?_ ?_))))))
 ·cases q:(decide (0<a))
  ·exact Aa O O
  exact AB O (AA O (AB O (AA O (AB O (Af O (AB O (Aq O (AJ O (AU O)))))))))
 refine AN (kp [20,0,1] O) (AX O E (λo E=>?_) (λo E=>?_))
 ·refine AI (AL O (kp [4] O) (Ac (λj k c d=>?_)))
  cases E
  exact Dm c d O O (B9.refl S h) ⟨O,(iq (n:=(-9223372036854775808)) O),hs⟩
 refine AT (AI (AA O (AA O (Cg O (AL O (kp [4] O) (Ac (λj k c d=>?_)))))))
 cases E
 exact Dm c d O O (B9.refl S h) ⟨O,(BI _),hs⟩
theorem QP (hs:St S L h) {c:Value}{k:Ay}(g:Rd S h Bu c k) {d:Value}{a:Au}(i:Rd S h A8 d a) {r:Au}(E:IS N k a=some r):
 CG Tryz.prog 24 #[c,d] S h (λv S' h'=>v= .agg #[vI r.Pos,vI r.Target,.bool r.Stuck,.bool r.Open]∧Au.ok r∧St S' (L) h'):=by
 refine BB (l:=[c,d]) 26 Tryz.func24 O Tryz.ntmps24 O λB=>?_
 rw[IS] at E
 refine WF.sl (B5 O g (λe=>by cases e) O hs λq1 S2 h3 V W k6=>?_)
 obtain⟨rfl,⟨X,w⟩⟩:=A8.ex (i.mono W)
 refine P4 O O O V λau av z x=>Cs SC O z λaw ax b y=>AZ (kp [4,3,2] O) (AD (AI (AC Rc O (AS A6 b O (mt mh) O Ol O (AN (kp [7,4,3,2] O) (AX O E (λY E=>?_) (λY E=>?_)))))))
 ·refine WF.sl (AH 1 (DT (vs:=[vI a.Pos,vI a.Target,.bool a.Stuck,.bool a.Open]) A6 b O (mt mh) O O Gi O O (AF (Dh (vs:=[vI a.Pos,vI a.Target,.bool a.Stuck,.bool a.Open]) O O O O Gi O b .head O λay A Z=>AZ (kp [4] O) (Ac (λaa ww C D=>?_))))))
  have m:=A.drop (.tail .head)
  have F:=m.drop .head
  cases E
  exact J9 C O D (IC (Xt C D m O mh Gi O) J8) O (W.trans (x.trans (y.trans Z))) ⟨O,⟨X,w⟩,F⟩
 refine AT (AD (Bl (.inr ⟨mo,by kernel_rfl⟩) b (AC PH O (AS Bb b O (mt mh) O Ag O (AC Mq O (AS Bb b O (mt mh) O Ag O ?_))))))
 obtain⟨az,G,E⟩:=bd E
 refine CE O O O TF O (λh' o=>Iv (St.all h') w X G) λab=>?_
 have ac:=ab
 have H:=k6.mono (x.trans y)
 refine Ai O H Ix Np O λa0 ad=>Ah Bb b.1 O ad Ag O λae=>?_
 obtain⟨a1,I,E⟩:=bd E
 refine CE O O O TF O (λh' o=>Iv (St.all h') (iq (n:=0) O) ae I) λaf=>?_
 have ag:=af
 refine Ai O H Ix Np O λa2 ah=>Ah Bb b.1 O ah Ag O λai=>?_
 obtain⟨a3,J,E⟩:=bd E
 refine CE O O O Up O (λh' o=>I2 (St.all h') ac ag ai J) λaj=>?_
 have ak:=aj
 refine AY O (BJ (kp [5,4,3] O) λa4 s am=>WF.sl (AH 3 (AC Mq O (AS A6 s O (mt mh) O Ag O (AA O (AF ?_))))))
 obtain⟨j,K,E⟩:=bd E
 refine BZ O O O Qt O s (IE (St.all _) X ak K) λa5 a6 a7 M an a8 p=>?_
 obtain⟨rfl,ao,ar⟩:=p
 refine AH 1 (AC Mq O (AF (Hz (vs:=[vI j]) (cs':=[vI j,vI a.Target,.bool a.Stuck,.bool a.Open]) O O O O Ag O M (.tail .head) O O λa9 t ap=>AZ (kp [4,3] O) (WF.sl (AH 1 (DT (vs:=[vI j,vI a.Target,.bool a.Stuck,.bool a.Open]) A6 t O (mt mh) O O Gi O O (AF (Dh (vs:=[vI j,vI a.Target,.bool a.Stuck,.bool a.Open]) O O O O Gi O t .head O λba Q aq=>AZ (kp [4] O) (Ac (λaa ww C D=>?_))))))))))
 have u:=Q.drop (.tail .head)
 have U:=u.drop .head
 cases E
 exact J9 C O D (IC (Xt C D u O mh Gi O) J8) O (W.trans (x.trans (y.trans (am.trans (an.trans (ap.trans aq)))))) ⟨O,⟨ao,w⟩,U⟩
theorem M0 {A:Nat}{p0_w:Aj}{I:Value}{J:Value}{H:Value}{K:Value}{M:Value}{Q:Value}{U:Value}{V:Value}{C:Value}{y:Value}{z:Value}{D:Value}{F:Value}{c:Value}{d:Value}{G:Value}{u:Value}{g:Value}{j:Value}{k:Value}{m:Value}{p:Value}(hs:St S (Bx A 84 [.string p0_w.b.Name,I,vI p0_w.b.Cells,J,H,K,M,Q,U,V,vI p0_w.b.Err,C,y,z,D,F,vI p0_w.s.Hour,c,d,G,u,g,j,k,m,p]::OO AM.int 3 29 c p0_w.s.Own::OS AM.int 3 d p0_w.s.Rem::OS A8 69 u p0_w.s.Gates::OS AM.int 3 g p0_w.s.In::OS AM.int 3 j p0_w.s.Out::OS BT 50 k p0_w.moves::OS AM.int 3 m p0_w.peaks::OS Ap 60 p p0_w.sent::L) h) (cn:p0_w.b.Name.size≤maxLen) (co:Sl S h AM.str I p0_w.b.Owners) (cp:AG p0_w.b.Cells) (cq:Sl S h Bw J p0_w.b.Places) (ab:Sl S h Bu H p0_w.b.Links) (cr:Sl S h GL K p0_w.b.Towns) (cs:Sl S h EN M p0_w.b.Gauges) (ct:Sl S h F8 Q p0_w.b.Roads) (cu:Sl S h Cr U p0_w.b.Shelters) (cv:Sl S h AM.int V p0_w.b.Room) (bl:AG p0_w.b.Err) (bm:Sl S h AM.int C p0_w.in_.Rain) (ac:Sl S h FL y p0_w.in_.Faults) (ag:Sl S h IX z p0_w.in_.Cmds) (bn:Sl S h FX D p0_w.in_.Takes) (bo:Sl S h GM F p0_w.in_.Swaps) (bp:AG p0_w.s.Hour) (bq:Sl S h Ap G p0_w.s.Queue) {r:(List Au)}(E:GF N p0_w=some r):
 CG Tryz.prog 30 #[vP A 0] S h (λv S' h'=>∃w_0_20:Value,v= .tuple #[]∧St S' (Bx A 84 [.string p0_w.b.Name,I,vI p0_w.b.Cells,J,H,K,M,Q,U,V,vI p0_w.b.Err,C,y,z,D,F,vI p0_w.s.Hour,c,d,G,w_0_20,g,j,k,m,p]::OO AM.int 3 29 c p0_w.s.Own::OS AM.int 3 d p0_w.s.Rem::OS A8 69 w_0_20 r::OS AM.int 3 g p0_w.s.In::OS AM.int 3 j p0_w.s.Out::OS BT 50 k p0_w.moves::OS AM.int 3 m p0_w.peaks::OS Ap 60 p p0_w.sent::L) h'):=by
 refine BB (l:=[vP A 0]) 135 Tryz.func30 O Tryz.ntmps30 O λB=>?_
 rw[GF] at E
 refine AD (AI (AA O (CI O O (AC Mp O (AC Uk O (AS A6 hs O mh O ZF O (Al O ac WC O λb1=>AA O (AN (kp [14,13,12,0] O) (Am (λa w=>∃(l2:List Au),IV B S h (135,[]) a w [(0,vP A 0)] (Bx A 84 [.string p0_w.b.Name,I,vI p0_w.b.Cells,J,H,K,M,Q,U,V,vI p0_w.b.Err,C,y,z,D,F,vI p0_w.s.Hour,c,d,G,u,g,j,k,m,p]::OO AM.int 3 29 c p0_w.s.Own::OS AM.int 3 d p0_w.s.Rem::OS A8 69 u l2::OS AM.int 3 g p0_w.s.In::OS AM.int 3 j p0_w.s.Out::OS BT 50 k p0_w.moves::OS AM.int 3 m p0_w.peaks::OS Ap 60 p p0_w.sent::L) λ_ _=>Cb N p0_w l2=some r) ?_ ?_)))))))))
 ·refine A3 (λn1=>λa w=>∃(i6:Int) (l8:List Au),IV B S h (135,[]) a w [(13,vI (↑p0_w.in_.Faults.length:Int)),(12,y),(0,vP A 0),(14,vI i6)] (Bx A 84 [.string p0_w.b.Name,I,vI p0_w.b.Cells,J,H,K,M,Q,U,V,vI p0_w.b.Err,C,y,z,D,F,vI p0_w.s.Hour,c,d,G,u,g,j,k,m,p]::OO AM.int 3 29 c p0_w.s.Own::OS AM.int 3 d p0_w.s.Rem::OS A8 69 u l8::OS AM.int 3 g p0_w.s.In::OS AM.int 3 j p0_w.s.Out::OS BT 50 k p0_w.moves::OS AM.int 3 m p0_w.peaks::OS Ap 60 p p0_w.sent::L) λ_ _=>AG i6∧CN N p0_w (Cb N p0_w) n1 i6 l8=some r) N ?_ ?_ ?_
  ·intro aa ww Z hw
   exact⟨0,p0_w.s.Gates,_,_,Z.sub (kp [13,12,0,14] O),hw,hs,(B9.refl S h),(iq (n:=0) O),E⟩
  ·rintro aa ww ⟨_,_,_,_,_,_,_,_,_,E⟩
   rw[CN] at E;cases E
  rintro n1 aa ww ⟨i6,l8,S9,em,Z,hw,ao,ap,r7,E⟩
  refine Ad ?_ Z hw
  clear Z hw ww aa
  rw[CN] at E
  refine AI (Aq O (AN (kp [15,13,12,0,14] O) (AD (AX O E (λen E=>?_) (λen E=>?_)))))
  ·refine AT (AD (Am (λa w=>∃(a3:List Au),IV B S9 em (135,[]) a w [(13,vI (↑p0_w.in_.Faults.length:Int)),(12,y),(0,vP A 0),(14,vI i6)] (Bx A 84 [.string p0_w.b.Name,I,vI p0_w.b.Cells,J,H,K,M,Q,U,V,vI p0_w.b.Err,C,y,z,D,F,vI p0_w.s.Hour,c,d,G,u,g,j,k,m,p]::OO AM.int 3 29 c p0_w.s.Own::OS AM.int 3 d p0_w.s.Rem::OS A8 69 u a3::OS AM.int 3 g p0_w.s.In::OS AM.int 3 j p0_w.s.Out::OS BT 50 k p0_w.moves::OS AM.int 3 m p0_w.peaks::OS Ap 60 p p0_w.sent::L) λ_ _=>Fy N i6 (CN N p0_w (Cb N p0_w) n1) a3=some r) ?_ ?_))
   ·refine WF.sl (AH 2 ?_)
    obtain⟨a4,cw,E⟩:=bd E
    refine BD O O (ac.mono' ap) WC cw O λga eo=>B4 A6 ao.1 O eo ZC (λe=>by cases e) O λgb ep=>AF (Cs cQ O ao λgc gd cx aq=>?_)
    obtain⟨rfl,⟨eq,er⟩⟩:=FL.ex (ep.mono aq)
    refine Dh (vs:=[vI a4.Kind,vI a4.Link]) O O O O ZC O cx .head O λge ar a5=>AZ (kp [3,13,12,0,14] O) (AD (Bl (.inr ⟨mo,by kernel_rfl⟩) ar (AC PG O (AS Bb ar O mh O Ag O (AA O (CI O O (AC GC O (AC HA O (AS Bb ar O (mt mh) O Ju O (Al O (ab.mono' (ap.trans (aq.trans a5))) H4 O λes=>?_))))))))))
    obtain⟨gf,cy,E⟩:=bd E
    refine Az O O O Oe O (λh' o=>Fv (St.all h') er (JW es) cy) (BJ (kp [26,3,13,12,0,14] O) λgg X br=>AX O E (λet E=>?_) (λet E=>?_))
    ·refine LB 29 mo (by kernel_rfl) O X (AA O (CI O O (AC CU O (AC Ht O (AS Bb X O (mt mh) O KX O (AC PG O (AS Bb X O mh O Ag O (AA O (CI O O (AC GC O (AC HA O (AS Bb X O (mt mh) O Ju O (AC PG O (AS Bb X O mh O Ag O ?_))))))))))))))
     obtain⟨gh,cz,E⟩:=bd E
     refine BD O O (ab.mono' (ap.trans (aq.trans (a5.trans br)))) H4 cz O λgi eu=>B4 Bb X.1 O eu HV (λe=>by cases e) O λgj ev=>AA O (CI O O (AC CU O (AC Ht O (AS Bb X O (mt mh) O KX O (AC PG O (AS Bb X O mh O Ag O ?_))))))
     obtain⟨gl,c0,E⟩:=bd E
     refine A4 X (mt (mt (mt (mt mh)))) O O KF c0 O λgm c1=>?_
     obtain⟨gn,c2,E⟩:=bd E
     have ew:=X.epAt (mt (mt (mt (mt mh)))) c2 FM.id c1
     refine B4 Bb (λ_ x=>x) O ew Gi (λe=>by cases e) O λgp ey=>AC YV O (AS Bb X O mh O Ag O ?_)
     obtain⟨c3,c4,E⟩:=bd E
     refine CE O O O hO O (λh' o=>Pm (St.all h') (ev.mono (o.all X.1)) (ey.mono (o.all X.1)) eq c4) λez=>?_
     obtain⟨e0,e1⟩:=ez
     obtain⟨gq,c5,E⟩:=bd E
     refine A4 X (mt (mt (mt (mt mh)))) O O KF c5 O λgr c6=>Jp λgs c7 e2=>?_
     obtain⟨e3,c8,E⟩:=bd E
     refine En (r:=A8) (l:=l8) (i:=a4.Link) (x:=e3) O O (A8.mk (x:=c3) ⟨e0,e1⟩) c6 c8 Lq.id Gi (λe=>by cases e) c7 (.tail (.tail (.tail (.tail .head)))) λgt c9 e4=>AZ (kp [13,12,0,14] O) (WF.nil (λaa ww Z hw=>?_))
     have da:=c9.sel [1,1,1,1,1,1,1,1,1] 1 O
     exact⟨(upd l8 a4.Link c3),_,_,Z.sub (kp [13,12,0,14] O),hw,da,(aq.trans (a5.trans (br.trans (e2.trans e4)))),E⟩
    refine AT (WF.nil (λaa ww Z hw=>?_))
    have db:=X.sel [1,1,1,1,1,1,1,1,1] 1 O
    exact⟨l8,_,_,Z.sub (kp [13,12,0,14] O),hw,db,(aq.trans (a5.trans br)),E⟩
   rintro aa ww ⟨a3,gu,gv,Z,hw,dc,e5,E⟩
   refine Ad ?_ Z hw
   clear Z hw ww aa
   rw[Fy] at E
   refine BY (.inl O) (Af O (AA O (AN (kp [14,13,12,0] O) (WF.nil (λaa ww Z hw=>?_)))))
   exact⟨(BC (i6+1)),a3,_,_,Z.sub (kp [13,12,0,14] O),hw,dc,(ap.trans e5),(BI _),E⟩
  refine A9 O (λaa ww Z hw=>?_)
  exact⟨l8,_,_,Z.sub (kp [0] O),hw,ao,ap,E⟩
 rintro aa ww ⟨l2,bs,bt,Z,hw,a9,au,E⟩
 refine Ad ?_ Z hw
 clear Z hw ww aa
 rw[Cb] at E
 refine AD (AI (AA O (CI O O (AC Mp O (AC Uj O (AS A6 a9 O mh O ZE O ?_))))))
 have dd:=ag.mono' au
 refine Al O dd WB O λgw=>AA O (AN (kp [63,62,61,0] O) (Am (λa w=>∃(a6:List Au),IV B bs bt (135,[]) a w [(0,vP A 0)] (Bx A 84 [.string p0_w.b.Name,I,vI p0_w.b.Cells,J,H,K,M,Q,U,V,vI p0_w.b.Err,C,y,z,D,F,vI p0_w.s.Hour,c,d,G,u,g,j,k,m,p]::OO AM.int 3 29 c p0_w.s.Own::OS AM.int 3 d p0_w.s.Rem::OS A8 69 u a6::OS AM.int 3 g p0_w.s.In::OS AM.int 3 j p0_w.s.Out::OS BT 50 k p0_w.moves::OS AM.int 3 m p0_w.peaks::OS Ap 60 p p0_w.sent::L) λ_ _=>Ca N p0_w a6=some r) ?_ ?_))
 ·refine A3 (λn4=>λa w=>∃(ah:Int) (ai:List Au),IV B bs bt (135,[]) a w [(62,vI (↑p0_w.in_.Cmds.length:Int)),(61,z),(0,vP A 0),(63,vI ah)] (Bx A 84 [.string p0_w.b.Name,I,vI p0_w.b.Cells,J,H,K,M,Q,U,V,vI p0_w.b.Err,C,y,z,D,F,vI p0_w.s.Hour,c,d,G,u,g,j,k,m,p]::OO AM.int 3 29 c p0_w.s.Own::OS AM.int 3 d p0_w.s.Rem::OS A8 69 u ai::OS AM.int 3 g p0_w.s.In::OS AM.int 3 j p0_w.s.Out::OS BT 50 k p0_w.moves::OS AM.int 3 m p0_w.peaks::OS Ap 60 p p0_w.sent::L) λ_ _=>AG ah∧CM N p0_w (Ca N p0_w) n4 ah ai=some r) N ?_ ?_ ?_
  ·intro aa ww Z hw
   exact⟨0,l2,_,_,Z.sub (kp [62,61,0,63] O),hw,a9,(B9.refl bs bt),(iq (n:=0) O),E⟩
  ·rintro aa ww ⟨_,_,_,_,_,_,_,_,_,E⟩
   rw[CM] at E;cases E
  rintro n4 aa ww ⟨ah,ai,e6,e7,Z,hw,av,aw,gx,E⟩
  refine Ad ?_ Z hw
  clear Z hw ww aa
  rw[CM] at E
  refine AI (Aq O (AN (kp [64,62,61,0,63] O) (AD (AX O E (λe8 E=>?_) (λe8 E=>?_)))))
  ·refine AT (AD (Am (λa w=>∃(a7:List Au),IV B e6 e7 (135,[]) a w [(62,vI (↑p0_w.in_.Cmds.length:Int)),(61,z),(0,vP A 0),(63,vI ah)] (Bx A 84 [.string p0_w.b.Name,I,vI p0_w.b.Cells,J,H,K,M,Q,U,V,vI p0_w.b.Err,C,y,z,D,F,vI p0_w.s.Hour,c,d,G,u,g,j,k,m,p]::OO AM.int 3 29 c p0_w.s.Own::OS AM.int 3 d p0_w.s.Rem::OS A8 69 u a7::OS AM.int 3 g p0_w.s.In::OS AM.int 3 j p0_w.s.Out::OS BT 50 k p0_w.moves::OS AM.int 3 m p0_w.peaks::OS Ap 60 p p0_w.sent::L) λ_ _=>Fx N ah (CM N p0_w (Ca N p0_w) n4) a7=some r) ?_ ?_))
   ·refine WF.sl (AH 2 ?_)
    obtain⟨a8,de,E⟩:=bd E
    refine BD O O (dd.mono' aw) WB de O λgy e9=>B4 A6 av.1 O e9 ZA (λe=>by cases e) O λfa df=>AF (Cs cP O av λfb fc bu ae=>?_)
    obtain⟨rfl,⟨dg,dh⟩⟩:=IX.ex (df.mono ae)
    refine Dh (vs:=[vI a8.Link,vI a8.Target]) O O O O ZA O bu .head O λfd aj am=>AZ (kp [5,62,61,0,63] O) (AD (Bl (.inr ⟨mo,by kernel_rfl⟩) aj (AC PF O (AS Bb aj O mh O Ag O (AA O (CI O O (AC GC O (AC HA O (AS Bb aj O (mt mh) O Ju O (Al O (ab.mono' (au.trans (aw.trans (ae.trans am)))) H4 O λdi=>?_))))))))))
    obtain⟨fe,bv,E⟩:=bd E
    refine Az O O O Oe O (λh' o=>Fv (St.all h') dg (JW di) bv) (BJ (kp [75,5,62,61,0,63] O) λff W ax=>AX O E (λdj E=>?_) (λdj E=>?_))
    ·refine LB 29 mo (by kernel_rfl) O W (AA O (CI O O (AC CU O (AC Ht O (AS Bb W O (mt mh) O KX O (AC PF O (AS Bb W O mh O Ag O (AA O (CI O O (AC GC O (AC HA O (AS Bb W O (mt mh) O Ju O (AC PF O (AS Bb W O mh O Ag O ?_))))))))))))))
     obtain⟨fg,bw,E⟩:=bd E
     refine BD O O (ab.mono' (au.trans (aw.trans (ae.trans (am.trans ax))))) H4 bw O λfh dk=>B4 Bb W.1 O dk HV (λe=>by cases e) O λfi dl=>AA O (CI O O (AC CU O (AC Ht O (AS Bb W O (mt mh) O KX O (AC PF O (AS Bb W O mh O Ag O ?_))))))
     obtain⟨fj,bx,E⟩:=bd E
     refine A4 W (mt (mt (mt (mt mh)))) O O KF bx O λfk bz=>?_
     obtain⟨fl,b0,E⟩:=bd E
     have dm:=W.epAt (mt (mt (mt (mt mh)))) b0 FM.id bz
     refine B4 Bb (λ_ x=>x) O dm Gi (λe=>by cases e) O λfm dn=>AC YU O (AS Bb W O mh O Ag O ?_)
     obtain⟨ba,b2,E⟩:=bd E
     refine CE O O O hJ O (λh' o=>RY (St.all h') (dl.mono (o.all W.1)) (dn.mono (o.all W.1)) dh b2) λdp=>?_
     obtain⟨dq,dr⟩:=dp
     obtain⟨fn,b3,E⟩:=bd E
     refine A4 W (mt (mt (mt (mt mh)))) O O KF b3 O λfo b4=>Jp λfp b5 ds=>?_
     obtain⟨dt,b6,E⟩:=bd E
     refine En (r:=A8) (l:=ai) (i:=a8.Link) (x:=dt) O O (A8.mk (x:=ba) ⟨dq,dr⟩) b4 b6 Lq.id Gi (λe=>by cases e) b5 (.tail (.tail (.tail (.tail .head)))) λfq b7 du=>AZ (kp [62,61,0,63] O) (WF.nil (λaa ww Z hw=>?_))
     have b8:=b7.sel [1,1,1,1,1,1,1,1,1] 1 O
     exact⟨(upd ai a8.Link ba),_,_,Z.sub (kp [62,61,0,63] O),hw,b8,(ae.trans (am.trans (ax.trans (ds.trans du)))),E⟩
    refine AT (WF.nil (λaa ww Z hw=>?_))
    have b9:=W.sel [1,1,1,1,1,1,1,1,1] 1 O
    exact⟨ai,_,_,Z.sub (kp [62,61,0,63] O),hw,b9,(ae.trans (am.trans ax)),E⟩
   rintro aa ww ⟨a7,fr,fs,Z,hw,ca,dv,E⟩
   refine Ad ?_ Z hw
   clear Z hw ww aa
   rw[Fx] at E
   refine BY (.inl O) (Af O (AA O (AN (kp [63,62,61,0] O) (WF.nil (λaa ww Z hw=>?_)))))
   exact⟨(BC (ah+1)),a7,_,_,Z.sub (kp [62,61,0,63] O),hw,ca,(aw.trans dv),(BI _),E⟩
  refine A9 O (λaa ww Z hw=>?_)
  exact⟨ai,_,_,Z.sub (kp [0] O),hw,av,aw,E⟩
 rintro aa ww ⟨a6,bb,bc,Z,hw,ay,be,E⟩
 refine Ad ?_ Z hw
 clear Z hw ww aa
 rw[Ca] at E
 refine AI (AA O (CI O O (AC GC O (AC HA O (AS A6 ay O mh O Ju O ?_)))))
 have bf:=ab.mono' (au.trans be)
 refine Al O bf H4 O λft=>AA O (AN (kp [112,111,110,0] O) (A5 (A3 (λn6=>λa w=>∃(ad:Int) (af:List Au),IV B bb bc (135,[]) a w [(111,vI (↑p0_w.b.Links.length:Int)),(110,H),(0,vP A 0),(112,vI ad)] (Bx A 84 [.string p0_w.b.Name,I,vI p0_w.b.Cells,J,H,K,M,Q,U,V,vI p0_w.b.Err,C,y,z,D,F,vI p0_w.s.Hour,c,d,G,u,g,j,k,m,p]::OO AM.int 3 29 c p0_w.s.Own::OS AM.int 3 d p0_w.s.Rem::OS A8 69 u af::OS AM.int 3 g p0_w.s.In::OS AM.int 3 j p0_w.s.Out::OS BT 50 k p0_w.moves::OS AM.int 3 m p0_w.peaks::OS Ap 60 p p0_w.sent::L) λ_ _=>AG ad∧DU N p0_w n6 ad af=some r) N ?_ ?_ ?_)))
 ·intro aa ww Z hw
  exact⟨0,a6,_,_,Z.sub (kp [111,110,0,112] O),hw,ay,(B9.refl bb bc),(iq (n:=0) O),E⟩
 ·rintro aa ww ⟨_,_,_,_,_,_,_,_,_,E⟩
  rw[DU] at E;cases E
 rintro n6 aa ww ⟨ad,af,fu,fv,Z,hw,ak,az,fw,E⟩
 refine Ad ?_ Z hw
 clear Z hw ww aa
 rw[DU] at E
 refine AI (Aq O (AN (kp [113,111,110,0,112] O) (AD (AX O E (λdw E=>?_) (λdw E=>?_)))))
 ·refine AT (AD (A5 (WF.sl (AH 3 (AA O ?_)))))
  obtain⟨t,cb,E⟩:=bd E
  refine BD O O (bf.mono' az) H4 cb O λfx dx=>B4 A6 ak.1 O dx HV (λe=>by cases e) O λfy dy=>AF (Cs OQ O ak λfz f0 cc bg=>AH 1 (AY O (AF ?_)))
  obtain⟨a0,a1,a2,rfl,dz,d0,d1,d2,bh,bi,bj,d3,d4,d5,d6,d7,d8,d9,ea,eb,ec,ed⟩:=Bu.ex (dy.mono bg)
  refine HJ (vs:=[.string t.Name,vI t.Kind,vI t.From,vI t.To,a0,a1,a2,vI t.Positions,vI t.Speed,vI t.Leak,vI t.Crest,vI t.Num,vI t.Den,vI t.Prime,vI t.Break,vI t.BackNum,vI t.BackDen,vI t.Delay]) (cs':=[.string t.Name,vI t.Kind,vI t.From,vI t.To,a0,a1,a2,vI t.Positions,vI t.Speed,vI t.Leak,vI t.Crest,vI t.Num,vI t.Den,vI t.Prime,vI t.Break,vI t.BackNum,vI t.BackDen,vI t.Delay]) O O O (AE O (AE O (AE O (AE O (AE bh.one (AE bi.one (AE bj.one (AE O (AE O (AE O (AE O (AE O (AE O (AE O (AE O (AE O (AE O (AE O EA)))))))))))))))))) HV O cc .head O O λf1 Y an=>AZ (kp [6,7,111,110,0,112] O) (LB 17 mo (by kernel_rfl) O Y (AA O (CI O O (AC CU O (AC Ht O (AS Bb Y O (mt mh) O KX O (AA O (DT (vs:=[.string t.Name,vI t.Kind,vI t.From,vI t.To,a0,a1,a2,vI t.Positions,vI t.Speed,vI t.Leak,vI t.Crest,vI t.Num,vI t.Den,vI t.Prime,vI t.Break,vI t.BackNum,vI t.BackDen,vI t.Delay]) Bb Y O mh O O HV O O (AA O (CI O O (AC CU O (AC Ht O (AS Bb Y O (mt mh) O KX O (AA O ?_))))))))))))))
  obtain⟨f2,cd,E⟩:=bd E
  refine A4 Y (mt (mt (mt (mt mh)))) O O KF cd O λf3 ce=>?_
  obtain⟨f4,cf,E⟩:=bd E
  have ee:=Y.epAt (mt (mt (mt (mt mh)))) cf FM.id ce
  refine B4 Bb (λ_ x=>x) O ee Gi (λe=>by cases e) O λf5 ef=>?_
  obtain⟨bk,cg,E⟩:=bd E
  refine CE O O O gZ O (λh' o=>QP (St.all h') (Bu.mk (x:=t) dz d0 d1 d2 ((bh.mono' an).mono' (o.all Y.1)) ((bi.mono' an).mono' (o.all Y.1)) ((bj.mono' an).mono' (o.all Y.1)) d3 d4 d5 d6 d7 d8 d9 ea eb ec ed) (ef.mono (o.all Y.1)) cg) λeg=>?_
  obtain⟨eh,ei⟩:=eg
  obtain⟨f6,ch,E⟩:=bd E
  refine A4 Y (mt (mt (mt (mt mh)))) O O KF ch O λf7 ci=>Jp λf8 cj ej=>?_
  obtain⟨ek,ck,E⟩:=bd E
  refine En (r:=A8) (l:=af) (i:=ad) (x:=ek) O O (A8.mk (x:=bk) ⟨eh,ei⟩) ci ck Lq.id Gi (λe=>by cases e) cj (.tail (.tail (.tail (.tail .head)))) λf9 cl el=>AZ (kp [111,110,0,112] O) (BK (BY (.inl O) (Af O (AA O (AN (kp [112,111,110,0] O) (WF.nil (λaa ww Z hw=>?_)))))))
  have cm:=cl.sel [1,1,1,1,1,1,1,1,1] 1 O
  exact⟨(BC (ad+1)),(upd af ad bk),_,_,Z.sub (kp [111,110,0,112] O),hw,cm,(az.trans (bg.trans (an.trans (ej.trans el)))),(BI _),E⟩
 refine Ko O (WF.nil (λaa ww Z hw=>?_))
 cases E
 exact J9 Z O hw J8 O (au.trans (be.trans az)) ⟨_,O,ak⟩
theorem Nd (hs:St S L h) {b:Value}{g:(List Int)}(c:Sl S h AM.int b g) {a:Int}(j:AG a) {r:Int}(E:I6 N g a=some r):
 CG Tryz.prog 81 #[b,vI a] S h (λv S' h'=>v=vI r∧AG r∧St S' (L) h'):=by
 refine BB (l:=[b,vI a]) 24 Tryz.func81 O Tryz.ntmps81 O λB=>?_
 rw[I6] at E
 refine AI (AL O (kp [0,1] O) (AD (AI (AA O (Aq O (AA O (AV 5 12 (.bool ((decide (a<0))||(decide ((↑g.length:Int)≤a)))) ?_ ?_)))))))
 ·cases C:(decide (a<0))
  ·exact AB O (AA O (AB O (AA O (AB O (Al O c BG O λD=>AB O (Gv O (AJ O (AU O))))))))
  exact Aa O O
 refine AA O ?_
 obtain⟨t,d,E⟩:=bd E
 refine AV 6 19 (.bool t) ?_ ?_
 ·cases s:((decide (a<0))||(decide ((↑g.length:Int)≤a)))
  ·have d:=GB s d
   refine AB O (AA O (AB O (AA O (AB O ?_))))
   obtain⟨F,k,d⟩:=bd d
   refine BD O O c BG k O λG u=>AB O (Ah A6 hs.1 O u Ag O λH=>AB O (Aq O (AJ O ?_)))
   cases d
   exact AU O
  have d:=GA s d
  cases d
  exact Aa O O
 refine AN (kp [19,0,1] O) (AX O E (λw E=>?_) (λw E=>?_))
 ·refine AI (AL O (kp [4] O) (Ac (λx y m o=>?_)))
  cases E
  exact Dm m o O O (B9.refl S h) ⟨O,(iq (n:=0) O),hs⟩
 refine AT (AI (AA O (AA O ?_)))
 obtain⟨z,i,E⟩:=bd E
 refine BD O O c BG i O λA p=>Ah A6 hs.1 O p Ag O λq=>AL O (kp [4] O) (Ac (λx y m o=>?_))
 cases E
 exact Dm m o O O (B9.refl S h) ⟨O,q,hs⟩
theorem QI (hs:St S L h) {k:Value}{d:(List Int)}(j:Sl S h AM.int k d) {c:Int}(s:AG c) {b:Int}(G:AG b) {g:Int}(u:AG g) {r:(List Int)}(E:J0 N d c b g=some r):
 CG Tryz.prog 58 #[k,vI c,vI b,vI g] S h (λv S' h'=>St S' (OS AM.int 3 v r::L) h'):=by
 refine BB (l:=[k,vI c,vI b,vI g]) 56 Tryz.func58 O Tryz.ntmps58 O λB=>?_
 rw[J0] at E
 refine AI (AL O (kp [0,1,2,3] O) (WF.sl (AH 2 (AA O (Al O j BG O λb1=>AF ?_)))))
 obtain⟨aj,E⟩:=MR E
 refine I9 (r:=AM.int) (zx:=0) FJ O ⟨O,by unfold AG;omega⟩ O O aj O O hs λv3 h4 ak e6=>AH 1 (AY O (AF (AZ (kp [9,0,1,2,3] O) (WF.sl (AH 2 (AA O (AA O (AF (R6 (r:=AM.int) (l:=(List.replicate ((↑d.length:Int):Int).toNat (0:Int))) (xs:=d) O O BG (Sl.src (j.mono' e6)) O ak .head λh8 H C=>AZ (kp [9,0,1,2,3] O) (AD (Bl (.inl O) H (AA O (AA O (AA O ?_))))))))))))))
 obtain⟨m,I,E⟩:=bd E
 refine CE O O O Zb O (λh' o=>Nd (St.all h') ((j.mono' (e6.trans C)).mono' (o.all H.1)) s I) λal=>?_
 have am:=al
 refine P2 O O O (AY O (BJ (kp [10,9,0,1,2] O) λJ n K=>AD (AI (AA O (Bh O (AA O (AV 3 27 (.bool ((decide (0<(min g m)))&&(decide (0≤b)))) ?_ ?_)))))))
 ·cases a1:(decide (0<(min g m)))
  ·exact Aa O O
  exact AB O (AA O (AB O (Gv O (AJ O (AU O)))))
 refine AA O (AV 5 33 (.bool (((decide (0<(min g m)))&&(decide (0≤b)))&&(decide (b<(↑d.length:Int))))) ?_ ?_)
 ·cases a2:((decide (0<(min g m)))&&(decide (0≤b)))
  ·exact Aa O O
  exact AB O (AA O (AB O (AA O (AB O (Al O (j.mono' (e6.trans (C.trans K))) BG O λa3=>AB O (Aq O (AJ O (AU O))))))))
 refine AA O (AV 4 38 (.bool ((((decide (0<(min g m)))&&(decide (0≤b)))&&(decide (b<(↑d.length:Int))))&&(decide (c≠b)))) ?_ ?_)
 ·cases a4:(((decide (0<(min g m)))&&(decide (0≤b)))&&(decide (b<(↑d.length:Int))))
  ·exact Aa O O
  exact AB O (AA O (AB O (AA O (AB O (Bc O (AJ O (AU O)))))))
 refine AN (kp [38,10,9,1,2] O) (Gs (λa w=>∃(D:List Int),IV B S J (56,[]) a w [(9,v3)] (OS AM.int 3 v3 D::L) λ_ _=>JJ N D=some r) ?_ ?_)
 ·refine AX O E (λan E=>?_) (λan E=>?_)
  ·refine WF.sl (AH 7 (AA O (AA O ?_)))
   obtain⟨a5,M,E⟩:=bd E
   refine A4 n mh O O BG M O λa6 Q=>?_
   obtain⟨F,U,E⟩:=bd E
   have ao:=n.epAt mh U FM.id Q
   refine Ah A6 (λ_ x=>x) O ao Ag O λa7=>AA O (Cg O ?_)
   obtain⟨a8,V,E⟩:=bd E
   refine A4 n mh O O BG V O λa9 W=>AF ?_
   obtain⟨ap,X,E⟩:=bd E
   refine En (r:=AM.int) (l:=(Ms (List.replicate ((↑d.length:Int):Int).toNat (0:Int)) d)) (i:=c) (x:=ap) O O (⟨_,O,O,(BI _)⟩:Rd _ _ AM.int _ (BC (F-(min g m)))) W X Lq.id Ag (λ_=>rfl) n .head λba t aq=>AZ (kp [10,9,2] O) (EQ (AH 7 (AA O (AA O (AA O (AA O ?_))))))
   obtain⟨bb,Y,E⟩:=bd E
   refine A4 t mh O O BG Y O λbc Z=>?_
   obtain⟨be,ab,E⟩:=bd E
   have ar:=t.epAt mh ab FM.id Z
   refine Ah A6 (λ_ x=>x) O ar Ag O λau=>AA O (AF ?_)
   obtain⟨ac,ad,E⟩:=bd E
   refine BZ O O O Qt O t (IE (St.all _) au (LQ u am) ad) λbf bg bh y av bi p=>?_
   obtain⟨rfl,aw,a0⟩:=p
   refine AH 1 ?_
   obtain⟨bj,ae,E⟩:=bd E
   refine A4 y mh O O BG ae O λbk af=>AF ?_
   obtain⟨ax,ag,E⟩:=bd E
   refine En (r:=AM.int) (l:=(upd (Ms (List.replicate ((↑d.length:Int):Int).toNat (0:Int)) d) c (BC (F-(min g m))))) (i:=b) (x:=ax) O O (⟨_,O,O,aw⟩:Rd _ _ AM.int _ ac) af ag Lq.id Ag (λ_=>rfl) y .head λbl ah ay=>AZ (kp [9] O) (WF.nil (λaa ww z A=>?_))
   exact⟨(upd (upd (Ms (List.replicate ((↑d.length:Int):Int).toNat (0:Int)) d) c (BC (F-(min g m)))) b ac),_,_,z.sub (kp [9] O),A,ah,(aq.trans (av.trans ay)),E⟩
  refine AT (WF.nil (λaa ww z A=>?_))
  exact⟨(Ms (List.replicate ((↑d.length:Int):Int).toNat (0:Int)) d),_,_,z.sub (kp [9] O),A,n,(B9.refl S J),E⟩
 rintro aa ww ⟨D,bm,bn,z,A,ai,az,E⟩
 refine Ad ?_ z A
 clear z A ww aa
 rw[JJ] at E
 refine AI (AA O (AL O (kp [8] O) (Ac (λaa ww z A=>?_))))
 cases E
 exact Dm z A O O (e6.trans (C.trans (K.trans az))) ai
theorem Mz {c:Nat}{p0_w:Aj}{M:Value}{Q:Value}{U:Value}{V:Value}{W:Value}{Y:Value}{Z:Value}{ab:Value}{G:Value}{H:Value}{I:Value}{J:Value}{t:Value}{g:Value}{u:Value}{K:Value}{x:Value}{y:Value}{z:Value}{A:Value}{C:Value}{D:Value}(hs:St S (Bx c 84 [.string p0_w.b.Name,M,vI p0_w.b.Cells,Q,U,V,W,Y,Z,ab,vI p0_w.b.Err,G,H,I,J,t,vI p0_w.s.Hour,g,u,K,x,y,z,A,C,D]::OO AM.int 3 29 g p0_w.s.Own::OS AM.int 3 u p0_w.s.Rem::OS A8 69 x p0_w.s.Gates::OS AM.int 3 y p0_w.s.In::OS AM.int 3 z p0_w.s.Out::OS BT 50 A p0_w.moves::OS AM.int 3 C p0_w.peaks::OS Ap 60 D p0_w.sent::L) h) (b5:p0_w.b.Name.size≤maxLen) (ah:Sl S h AM.str M p0_w.b.Owners) (b6:AG p0_w.b.Cells) (ai:Sl S h Bw Q p0_w.b.Places) (b7:Sl S h Bu U p0_w.b.Links) (b8:Sl S h GL V p0_w.b.Towns) (b9:Sl S h EN W p0_w.b.Gauges) (ca:Sl S h F8 Y p0_w.b.Roads) (cb:Sl S h Cr Z p0_w.b.Shelters) (cc:Sl S h AM.int ab p0_w.b.Room) (bc:AG p0_w.b.Err) (be:Sl S h AM.int G p0_w.in_.Rain) (bf:Sl S h FL H p0_w.in_.Faults) (bg:Sl S h IX I p0_w.in_.Cmds) (bh:Sl S h FX J p0_w.in_.Takes) (af:Sl S h GM t p0_w.in_.Swaps) (bi:AG p0_w.s.Hour) (bj:Sl S h Ap K p0_w.s.Queue) {r:(List (List Int))}(E:DQ N p0_w=some r):
 CG Tryz.prog 31 #[vP c 0] S h (λv S' h'=>∃w_0_17:Value,v= .tuple #[]∧St S' (Bx c 84 [.string p0_w.b.Name,M,vI p0_w.b.Cells,Q,U,V,W,Y,Z,ab,vI p0_w.b.Err,G,H,I,J,t,vI p0_w.s.Hour,w_0_17,u,K,x,y,z,A,C,D]::OO AM.int 3 29 w_0_17 r::OS AM.int 3 u p0_w.s.Rem::OS A8 69 x p0_w.s.Gates::OS AM.int 3 y p0_w.s.In::OS AM.int 3 z p0_w.s.Out::OS BT 50 A p0_w.moves::OS AM.int 3 C p0_w.peaks::OS Ap 60 D p0_w.sent::L) h'):=by
 refine BB (l:=[vP c 0]) 70 Tryz.func31 O Tryz.ntmps31 O λB=>?_
 rw[DQ] at E
 refine AI (AA O (CI O O (AC Mp O (AC Rj O (AS A6 hs O mh O Vs O (Al O af UF O λb1=>AA O (AN (kp [10,9,8,0] O) (A5 (A3 (λn0=>λa w=>∃(i5:Int) (l7:List (List Int)),IV B S h (70,[]) a w [(9,vI (↑p0_w.in_.Swaps.length:Int)),(8,t),(0,vP c 0),(10,vI i5)] (Bx c 84 [.string p0_w.b.Name,M,vI p0_w.b.Cells,Q,U,V,W,Y,Z,ab,vI p0_w.b.Err,G,H,I,J,t,vI p0_w.s.Hour,g,u,K,x,y,z,A,C,D]::OO AM.int 3 29 g l7::OS AM.int 3 u p0_w.s.Rem::OS A8 69 x p0_w.s.Gates::OS AM.int 3 y p0_w.s.In::OS AM.int 3 z p0_w.s.Out::OS BT 50 A p0_w.moves::OS AM.int 3 C p0_w.peaks::OS Ap 60 D p0_w.sent::L) λ_ _=>AG i5∧Bs N p0_w n0 i5 l7=some r) N ?_ ?_ ?_)))))))))
 ·intro aa ww hf hw
  exact⟨0,p0_w.s.Own,_,_,hf.sub (kp [9,8,0,10] O),hw,hs,(B9.refl S h),(iq (n:=0) O),E⟩
 ·rintro aa ww ⟨_,_,_,_,_,_,_,_,_,E⟩
  rw[Bs] at E;cases E
 rintro n0 aa ww ⟨i5,l7,S8,h9,hf,hw,an,aj,r6,E⟩
 refine Ad ?_ hf hw
 clear hf hw ww aa
 rw[Bs] at E
 refine AI (Aq O (AN (kp [11,9,8,0,10] O) (AD (AX O E (λc3 E=>?_) (λc3 E=>?_)))))
 ·refine AT (AD (Am (λa w=>∃(ba:List (List Int)),IV B S8 h9 (70,[]) a w [(9,vI (↑p0_w.in_.Swaps.length:Int)),(8,t),(0,vP c 0),(10,vI i5)] (Bx c 84 [.string p0_w.b.Name,M,vI p0_w.b.Cells,Q,U,V,W,Y,Z,ab,vI p0_w.b.Err,G,H,I,J,t,vI p0_w.s.Hour,g,u,K,x,y,z,A,C,D]::OO AM.int 3 29 g ba::OS AM.int 3 u p0_w.s.Rem::OS A8 69 x p0_w.s.Gates::OS AM.int 3 y p0_w.s.In::OS AM.int 3 z p0_w.s.Out::OS BT 50 A p0_w.moves::OS AM.int 3 C p0_w.peaks::OS Ap 60 D p0_w.sent::L) λ_ _=>E4 N i5 (Bs N p0_w n0) ba=some r) ?_ ?_))
  ·refine WF.sl (AH 2 ?_)
   obtain⟨ac,cd,E⟩:=bd E
   refine BD O O (af.mono' aj) UF cd O λe2 c4=>B4 A6 an.1 O c4 Vy (λe=>by cases e) O λe3 c5=>AF (Cs Zs O an λak e4 ce am=>?_)
   obtain⟨rfl,⟨bk,cf,cg,c6⟩⟩:=GM.ex (c5.mono am)
   refine Dh (vs:=[vI ac.Place,vI ac.From,vI ac.To,vI ac.Litres]) O O O O Vy O ce .head O λe5 ag ao=>AZ (kp [3,9,8,0,10] O) (AD (Bl (.inr ⟨mo,by kernel_rfl⟩) ag (AC Pr O (AS Bb ag O mh O Ag O (AA O (CI O O (AC GC O (AC DI O (AS Bb ag O (mt mh) O GO O (Al O (ai.mono' (aj.trans (am.trans ao))) qZ O λc7=>?_))))))))))
   obtain⟨c8,ch,E⟩:=bd E
   refine Az O O O Oe O (λh' o=>Fv (St.all h') bk (JW c7) ch) (AA O ?_)
   obtain⟨ci,ad,E⟩:=bd E
   refine AV 10 33 (.bool ci) ?_ ?_
   ·cases cj:c8
    ·have ad:=GB cj ad
     cases ad
     exact Aa O O
    have ad:=GA cj ad
    refine AB O (AC S5 O (AB O (AS Bb ag O mh O Ag O (AB O (AA O (AB O (CI O O (AB O (AC GC O (AB O (AC HS O (AB O (AS Bb ag O (mt mh) O KE O (AB O (Al O (ah.mono' (aj.trans (am.trans ao))) Jv O λc9=>AB O ?_)))))))))))))))
    obtain⟨e6,ck,ad⟩:=bd ad
    refine Az O O O Oe O (λh' o=>Fv (St.all h') cf (JW c9) ck) (AJ O ?_)
    cases ad
    exact AU O
   refine AA O ?_
   obtain⟨da,ae,E⟩:=bd E
   refine AV 10 44 (.bool da) ?_ ?_
   ·cases cl:ci
    ·have ae:=GB cl ae
     cases ae
     exact Aa O O
    have ae:=GA cl ae
    refine AB O (AC Sz O (AB O (AS Bb ag O mh O Ag O (AB O (AA O (AB O (CI O O (AB O (AC GC O (AB O (AC HS O (AB O (AS Bb ag O (mt mh) O KE O (AB O (Al O (ah.mono' (aj.trans (am.trans ao))) Jv O λdb=>AB O ?_)))))))))))))))
    obtain⟨e7,cm,ae⟩:=bd ae
    refine Az O O O Oe O (λh' o=>Fv (St.all h') cg (JW db) cm) (AJ O ?_)
    cases ae
    exact AU O
   refine BJ (kp [44,3,9,8,0,10] O) λdc d cn=>AX O E (λdd E=>?_) (λdd E=>?_)
   ·obtain ⟨e8,co,E⟩:=bd E
    obtain⟨de,cp,E⟩:=bd E
    obtain⟨cq,cr,E⟩:=bd E
    obtain⟨e9,cs,E⟩:=bd E
    refine Rw (m:=[(3,vP ak 0),(9,vI (↑p0_w.in_.Swaps.length:Int)),(8,t),(0,vP c 0),(10,vI i5)]) [24] [] [] (by kernel_rfl) (λgv X F i v hh=>match i with|0=>v=vP c 0|1=>v=vP c 0|2=>v=vP c 16|3=>v=vP c 17|4=>v=g|5=>v=vP ak 0|6=>v=vI ac.Place∧AG ac.Place|7=>v=vP c 0|8=>v=vP c 0|9=>v=vP c 16|10=>v=vP c 17|11=>v=g|12=>v=vP ak 0|13=>v=vI ac.Place∧AG ac.Place|14=>EP g (ac.Place.toNat*((AM.sl AM.int)).sz+0) v|15=>Sl (λb=>b<hh.size) hh AM.int v de|16=>v=vP ak 1|17=>v=vI ac.From∧AG ac.From|18=>v=vP ak 2|19=>v=vI ac.To∧AG ac.To|20=>v=vP ak 3|21=>v=vI ac.Litres∧AG ac.Litres|22=>OW S8 dc X F [OS AM.int 3 v cq] hh|23=>EP g (ac.Place.toNat*((AM.sl AM.int)).sz+0) v|_=>False) [[],[(0,45)],[(1,46)],[(2,47)],[(3,48)],[],[(5,50)],[],[(7,52)],[(8,53)],[(9,54)],[(10,55)],[],[(12,57)],[(11,56),(13,58)],[(14,59)],[],[(16,61)],[],[(18,63)],[],[(20,65)],[(15,60),(17,62),(19,64),(21,66)],[(4,49),(6,51)],[]] [(22,67),(23,68)] mo (by kernel_rfl) [3,9,8,0,10] O (by kernel_rfl) (by kernel_rfl) (by kernel_rfl) O (kp [3,9,8,0,10] O) (λgv i v h1 h2 X X' F o1 o2 hF u1 u2 hr=>?_) (λgv gv' X F i v h1 hz hr=>?_) ?_ ?_ ?_
    ·match i,hr with
      |0,hr|1,hr|2,hr|3,hr|4,hr|5,hr|6,hr|7,hr|8,hr|9,hr|10,hr|11,hr|12,hr|13,hr|14,hr|16,hr|17,hr|18,hr|19,hr|20,hr|21,hr|23,hr=>exact hr
      |15,hr=>exact Sl.mono hr (λb hb=>Nat.lt_of_lt_of_le hb o2.siz) (λb hb=>o2.same b hb)
      |22,hr=>exact OW.mono d.1 o1 o2 hF u1 u2 hr
      |_+24,hr=>exact hr.elim
    ·match i,hr with
      |0,hr|1,hr|2,hr|3,hr|4,hr|5,hr|6,hr|7,hr|8,hr|9,hr|10,hr|11,hr|12,hr|13,hr|14,hr|15,hr|16,hr|17,hr|18,hr|19,hr|20,hr|21,hr|22,hr|23,hr=>exact hr
      |_+24,hr=>exact hr.elim
    ·exact trivial
    ·refine B7.cons O O ?_ ?_
     ·intro gv X mq hh o hX
      have hsN:=o.st d
      exact AH 1 (AA O (AO O))
     refine B7.cons O O ?_ ?_
     ·intro gv X mq hh o hX
      have hsN:=o.st d
      intro fa bl
      obtain⟨d0,_,_,bl⟩:=bl
      cases bl
      exact AH 1 (CI O O (AO O))
     refine B7.cons O O ?_ ?_
     ·intro gv X mq hh o hX
      have hsN:=o.st d
      intro fb bm
      obtain⟨d1,_,_,bm⟩:=bm
      cases bm
      exact AH 1 (AC CU O (AO O))
     refine B7.cons O O ?_ ?_
     ·intro gv X mq hh o hX
      have hsN:=o.st d
      intro fc bn
      obtain⟨d2,_,_,bn⟩:=bn
      cases bn
      exact AH 1 (AC D4 O (AO O))
     refine B7.cons O O ?_ ?_
     ·intro gv X mq hh o hX
      have hsN:=o.st d
      intro fd bo
      obtain⟨d3,_,_,bo⟩:=bo
      cases bo
      exact AH 1 (AS A6 hsN O (mt mh) O HN O (AO O))
     refine B7.cons O O ?_ ?_
     ·intro gv X mq hh o hX
      have hsN:=o.st d
      exact AH 1 (AC Pr O (AO O))
     refine B7.cons O O ?_ ?_
     ·intro gv X mq hh o hX
      have hsN:=o.st d
      intro fe bp
      obtain⟨d4,_,_,bp⟩:=bp
      cases bp
      exact AH 1 (AS A6 hsN O mh O Ag O (AO ⟨O,bk⟩))
     refine B7.cons O O ?_ ?_
     ·intro gv X mq hh o hX
      have hsN:=o.st d
      exact AH 1 (AA O (AO O))
     refine B7.cons O O ?_ ?_
     ·intro gv X mq hh o hX
      have hsN:=o.st d
      intro ff bq
      obtain⟨d5,_,_,bq⟩:=bq
      cases bq
      exact AH 1 (CI O O (AO O))
     refine B7.cons O O ?_ ?_
     ·intro gv X mq hh o hX
      have hsN:=o.st d
      intro fg br
      obtain⟨d6,_,_,br⟩:=br
      cases br
      exact AH 1 (AC CU O (AO O))
     refine B7.cons O O ?_ ?_
     ·intro gv X mq hh o hX
      have hsN:=o.st d
      intro fh bs
      obtain⟨d7,_,_,bs⟩:=bs
      cases bs
      exact AH 1 (AC D4 O (AO O))
     refine B7.cons O O ?_ ?_
     ·intro gv X mq hh o hX
      have hsN:=o.st d
      intro fi ap
      obtain⟨df,_,_,ap⟩:=ap
      cases ap
      exact AH 1 (AS A6 hsN O (mt mh) O HN O (AO O))
     refine B7.cons O O ?_ ?_
     ·intro gv X mq hh o hX
      have hsN:=o.st d
      exact AH 1 (AC Pr O (AO O))
     refine B7.cons O O ?_ ?_
     ·intro gv X mq hh o hX
      have hsN:=o.st d
      intro d8 aq
      obtain⟨dg,_,_,aq⟩:=aq
      cases aq
      exact AH 1 (AS A6 hsN O mh O Ag O (AO ⟨O,bk⟩))
     refine B7.cons O O ?_ ?_
     ·intro gv X mq hh o hX
      have hsN:=o.st d
      intro d9 ar ea au
      obtain⟨dh,_,_,ar⟩:=ar
      cases ar
      obtain⟨di,_,_,au⟩:=au
      obtain⟨rfl,eb⟩:=au
      exact AH 1 (N2 (r:=AM.int) hsN (mt (mt mh)) O O FO co O λec bt=>AO bt)
     refine B7.cons O O ?_ ?_
     ·intro gv X mq hh o hX
      have hsN:=o.st d
      intro ed av
      obtain⟨dj,_,_,av⟩:=av
      exact AH 1 (R4 (r:=AM.int) A6 hsN (mt (mt mh)) O cp av BP O λee dk ct=>AO ct)
     refine B7.cons O O ?_ ?_
     ·intro gv X mq hh o hX
      have hsN:=o.st d
      exact AH 1 (AC S5 O (AO O))
     refine B7.cons O O ?_ ?_
     ·intro gv X mq hh o hX
      have hsN:=o.st d
      intro ef aw
      obtain⟨dl,_,_,aw⟩:=aw
      cases aw
      exact AH 1 (AS A6 hsN O mh O Ag O (AO ⟨O,cf⟩))
     refine B7.cons O O ?_ ?_
     ·intro gv X mq hh o hX
      have hsN:=o.st d
      exact AH 1 (AC Sz O (AO O))
     refine B7.cons O O ?_ ?_
     ·intro gv X mq hh o hX
      have hsN:=o.st d
      intro eg ax
      obtain⟨dm,_,_,ax⟩:=ax
      cases ax
      exact AH 1 (AS A6 hsN O mh O Ag O (AO ⟨O,cg⟩))
     refine B7.cons O O ?_ ?_
     ·intro gv X mq hh o hX
      have hsN:=o.st d
      exact AH 1 (AC XE O (AO O))
     refine B7.cons O O ?_ ?_
     ·intro gv X mq hh o hX
      have hsN:=o.st d
      intro eh ay
      obtain⟨dn,_,_,ay⟩:=ay
      cases ay
      exact AH 1 (AS A6 hsN O mh O Ag O (AO ⟨O,c6⟩))
     refine Ma O O ?_ ?_
     ·intro gv X mq hh o hX
      have hsN:=SX.fz (X:=X) d o
      intro ei az ej a0 ek a1 el a2
      obtain⟨dp,_,_,az⟩:=az
      obtain⟨dq,_,_,a0⟩:=a0
      obtain⟨rfl,cu⟩:=a0
      obtain⟨dr,_,_,a1⟩:=a1
      obtain⟨rfl,cv⟩:=a1
      obtain⟨ds,_,_,a2⟩:=a2
      obtain⟨rfl,cw⟩:=a2
      refine BZ O O O fV O hsN (QI (St.all _) az cu cv cw cr) λem en eo dt cx cy p=>?_
      have bu:=p
      have a3:=hsN.join cy bu ⟨OS.flat (λ{_ _ _ _ _ _} k=>k),trivial⟩
      simp only[List.cons_append,List.nil_append] at a3
      have hsG:=a3.pick (.tail .head)
      obtain⟨F152,hF153,cz,ep,c0⟩:=OW.done d.1 o hX cx hsG
      exact Cv cz ⟨F152,hF153,c0⟩
     refine B7.cons O O ?_ ?_
     ·intro gv X mq hh o hX
      have hsN:=o.st d
      intro eq a4 er a5
      obtain⟨du,_,_,a4⟩:=a4
      cases a4
      obtain⟨dv,_,_,a5⟩:=a5
      obtain⟨rfl,es⟩:=a5
      exact AH 1 (N2 (r:=AM.int) hsN (mt (mt mh)) O O FO cs O λet bv=>AO bv)
     exact B7.skip (by kernel_rfl) (trivial)
    intro eu dw dx bb a6 bw ev a7 ew a8
    obtain⟨dy,a7⟩:=a7
    obtain⟨dz,a8⟩:=a8
    have a9:=(Ty.cons (Ty.nil d bb a6) bw (j:=22) O a7).st
    simp only[List.cons_append,List.nil_append] at a9
    obtain⟨ey,bx,E⟩:=bd E
    have bz:=a9.sel [0,2,0,0,0,0,0,0,0,0,0] 0 O
    refine U0 (r:=AM.int) (i:=ac.Place) O O a8 bx BP bz λez b0 c1=>AZ (kp [9,8,0,10] O) (WF.nil (λaa ww hf hw=>?_))
    have b2:=b0.sel [2,0,1,1,1,1,1,1,1] 1 O
    exact⟨(upd l7 ac.Place cq),_,_,hf.sub (kp [9,8,0,10] O),hw,b2,(am.trans (ao.trans (cn.trans ((SX.ext d.1 bb (Xz a6)).trans c1)))),E⟩
   refine AT (WF.nil (λaa ww hf hw=>?_))
   have b3:=d.sel [1,1,1,1,1,1,1,1,1] 1 O
   exact⟨l7,_,_,hf.sub (kp [9,8,0,10] O),hw,b3,(am.trans (ao.trans cn)),E⟩
  rintro aa ww ⟨ba,e0,e1,hf,hw,b4,c2,E⟩
  refine Ad ?_ hf hw
  clear hf hw ww aa
  rw[E4] at E
  refine BY (.inl O) (Af O (AA O (AN (kp [10,9,8,0] O) (WF.nil (λaa ww hf hw=>?_)))))
  exact⟨(BC (i5+1)),ba,_,_,hf.sub (kp [9,8,0,10] O),hw,b4,(aj.trans c2),(BI _),E⟩
 refine Ko O (WF.nil (λaa ww hf hw=>?_))
 cases E
 exact J9 hf O hw J8 O aj ⟨_,O,an⟩
end Go.Proofs.YtblcgjadhemlbaaGreat
