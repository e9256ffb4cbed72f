import Derived.Test.YtblcgjadhemlbaaGreatRWalk12
namespace Go.Proofs.YtblcgjadhemlbaaGreat
open Go.RowKit
set_option linter.unusedVariables false
set_option linter.unusedSimpArgs false
set_option maxRecDepth 10000
set_option maxHeartbeats 2000000
variable {N:Nat}{S:Nat→Prop}{L:List HP}{h:Aw}
theorem Oz (hs:St S L h) {c:Value}{d:Dv}(u:Rd S h B0 c d) {j:Int}(y:AH j) {b:Int}(s:AH b) {r:Int×Int}(E:I8 N d j b=some r):
 CL Tryz.prog 65 #[c,vI j,vI b] S h (λv S' h'=>v= .tuple #[vI r.1,vI r.2]∧AH r.1∧AH r.2∧St S' (L) h'):=by
 refine BG (l:=[c,vI j,vI b]) 51 Tryz.func65 O Tryz.ntmps65 O λB=>?_
 rw[I8] at E
 refine WF.sl (B4 O u (λe=>by cases e) O hs λq1 S2 h3 A K J=>AG 2 (AY O (AY O (AF (AZ (kp [3,1,2] O) (AC (Bq (.inl O) A (AA O (Ae O J Dv.f_Num Rf O λq7 k8=>Af Bd A.1 O k8 Ag O λr9=>Ae O J Dv.f_Den K5 O λad M=>Af Bd A.1 O M Ag O λQ=>?_)))))))))
 obtain⟨i,H,E⟩:=bd E
 refine IF (v:= .tuple #[vI i.1,vI i.2.1,.bool i.2.2]) (Ψ:=AH i.1∧AH i.2.1) O O O Sz O (λh' o=>(IE (St.all h') y r9 Q H).mono λ_ _ _ _ p=>⟨p.1,⟨p.2.1,p.2.2.1⟩⟩) λU=>?_
 obtain⟨V,ae⟩:=U
 refine AA O (Bo O (Bo O (Bo O (AY O (AY O (AY O (BM (kp [10,9,8,3,2] O) λC k x=>AC (AI (AA O (BY O (AN (kp [23,9,8,3,2] O) (AW O E (λW E=>?_) (λW E=>?_)))))))))))))
 ·refine AI (AY O (AK O (kp [7,6] O) (Ad (λF G g t=>?_))))
  cases E
  exact KH g O t (IK (I1 g (v:=_) O) (IK (I1 g (v:=_) O) KG)) O (K.trans x) ⟨O,(iq (n:=0) O),(iq (n:=0) O),k⟩
 refine AQ (AI (AK O (kp [11,9,8,3,2] O) (AC (AI (AA O (Gf O (AA O (AV 5 31 (.bool ((decide (0≤b))&&(decide (b<d.Den)))) ?_ ?_))))))))
 ·cases af:(decide (0≤b))
  ·exact Aa O O
  exact AB O (AA O (AB O (Ae O (J.mono x) Dv.f_Den K5 O λag X=>AB O (Af A9 k.1 O X Ag O λah=>AB O (Ar O (AJ O (AU O)))))))
 refine AN (kp [31,11,9,8,3,2] O) (Ge (λa w=>∃(z:Int),IV B S2 C (51,[]) a w [(9,vI i.2.1),(8,vI i.1),(3,q1),(11,vI z)] (L) λ_ _=>AH z∧Hn N d i z=some r) ?_ ?_)
 ·refine AW O E (λY E=>?_) (λY E=>?_)
  ·refine BZ (.inl O) (AA O (AK O (kp [11,9,8,3] O) (WF.nil (λF G g t=>?_))))
   exact⟨b,_,_,g.sub (kp [9,8,3,11] O),t,k,(CA.refl S2 C),s,E⟩
  refine AQ (WF.nil (λF G g t=>?_))
  exact⟨0,_,_,g.sub (kp [9,8,3,11] O),t,k,(CA.refl S2 C),(iq (n:=0) O),E⟩
 rintro F G ⟨z,ai,aj,g,t,m,D,ak,E⟩
 refine Ac ?_ g t
 clear g t G F
 rw[Hn] at E
 refine AC (AI (AA O (AA O (Ai O ?_))))
 have I:=J.mono (x.trans D)
 refine Ae O I Dv.f_Den K5 O λal Z=>Af A9 m.1 O Z Ag O λam=>Ar O (AN (kp [38,9,8,3,11] O) (AW O E (λab E=>?_) (λab E=>?_)))
 ·refine AI (AA O (AA O (AA O (Ai O (AY O (AK O (kp [7,6] O) (Ad (λF G g t=>?_))))))))
  cases E
  exact KH g O t (IK (I1 g (v:=_) O) (IK (I1 g (v:=_) O) KG)) O (K.trans (x.trans D)) ⟨O,V,(BK _),m⟩
 refine AQ (AC (BZ (.inr ⟨mo,by kernel_rfl⟩) (AA O (Ai O (AA O (AA O (Ai O (Ae O I Dv.f_Den K5 O λan ac=>Af A9 m.1 O ac Ag O λao=>Ck O (AY O (AK O (kp [7,6] O) (Ad (λF G g t=>?_))))))))))))
 cases E
 exact KH g O t (IK (I1 g (v:=_) O) (IK (I1 g (v:=_) O) KG)) O (K.trans (x.trans D)) ⟨O,(BK _),(BK _),m⟩
theorem NC {u:Nat}{p0_w:Aq}{H:Value}{I:Value}{J:Value}{K:Value}{M:Value}{Q:Value}{U:Value}{V:Value}{A:Value}{C:Value}{D:Value}{F:Value}{G:Value}{ak:Value}{t:Value}{c:Value}{d:Value}{g:Value}{am:Value}{an:Value}{j:Value}{ao:Value}(hs:St S (Bx u 84 [.string p0_w.b.Name,H,vI p0_w.b.Cells,I,J,K,M,Q,U,V,vI p0_w.b.Err,A,C,D,F,G,vI p0_w.s.Hour,ak,t,c,d,g,am,an,j,ao]::OS (AM.sl AM.int) 29 ak p0_w.s.Own::OS AM.int 3 t p0_w.s.Rem::OS Ap 60 c p0_w.s.Queue::OS BJ 69 d p0_w.s.Gates::OS AM.int 3 g p0_w.s.In::OS AM.int 3 am p0_w.s.Out::OS BH 50 an p0_w.moves::OS AM.int 3 j p0_w.peaks::OS Ap 60 ao p0_w.sent::L) h) (ad:p0_w.b.Name.size≤maxLen) (ca:Sl S h AM.str H p0_w.b.Owners) (ae:AH p0_w.b.Cells) (az:Sl S h B0 I p0_w.b.Places) (cb:Sl S h Bu J p0_w.b.Links) (cc:Sl S h GT K p0_w.b.Towns) (cd:Sl S h Ed M p0_w.b.Gauges) (ce:Sl S h Fv Q p0_w.b.Roads) (cf:Sl S h Cz U p0_w.b.Shelters) (cg:Sl S h AM.int V p0_w.b.Room) (ab:AH p0_w.b.Err) (bj:Sl S h AM.int A p0_w.in_.Rain) (bk:Sl S h FT C p0_w.in_.Faults) (bl:Sl S h Ik D p0_w.in_.Cmds) (bm:Sl S h Fd F p0_w.in_.Takes) (bn:Sl S h GH G p0_w.in_.Swaps) (ac:AH p0_w.s.Hour) {z:Int}(ap:AH z) {r:(List (List Int))×(List Int)×(List Int)×(List Ak)×(List Al)}(E:HQ N p0_w z=some r):
 CL Tryz.prog 34 #[vP u 0,vI z] S h (λv S' h'=>∃w_0_17 w_0_18 w_0_22 w_0_23 w_0_25:Value,v= .tuple #[]∧St S' (Bx u 84 [.string p0_w.b.Name,H,vI p0_w.b.Cells,I,J,K,M,Q,U,V,vI p0_w.b.Err,A,C,D,F,G,vI p0_w.s.Hour,w_0_17,w_0_18,c,d,g,w_0_22,w_0_23,j,w_0_25]::OS (AM.sl AM.int) 29 w_0_17 r.1::OS AM.int 3 w_0_18 r.2.1::OS Ap 60 c p0_w.s.Queue::OS BJ 69 d p0_w.s.Gates::OS AM.int 3 g p0_w.s.In::OS AM.int 3 w_0_22 r.2.2.1::OS BH 50 w_0_23 r.2.2.2.1::OS AM.int 3 j p0_w.peaks::OS Ap 60 w_0_25 r.2.2.2.2::L) h'):=by
 refine BG (l:=[vP u 0,vI z]) 119 Tryz.func34 O Tryz.ntmps34 O λB=>?_
 rw[HQ] at E
 refine WF.sl (AG 8 (AA O (CP O O (AD GJ O (AD C1 O (AS A9 hs O mh O F7 O (AA O ?_)))))))
 obtain⟨k,i0,E⟩:=bd E
 refine BE O O az FA i0 O λq2 k3=>B8 A9 hs.1 O k3 J4 (λe=>by cases e) O λv4 k5=>AF (Cp OZ O hs λb6 h7 i1 e9=>?_)
 obtain⟨bo,bp,bq,rfl,i2,i3,i4,i5,fm,fn,i6,i7,dw,dx,i8,fo⟩:=B0.ex (k5.mono e9)
 refine G7 (vs:=[.string k.Name,vI k.Kind,vI k.Office,vI k.Cap,bo,bp,vI k.Num,vI k.Den,vI k.Down,vI k.Delay,vI k.Floor,bq]) (cs':=[.string k.Name,vI k.Kind,vI k.Office,vI k.Cap,bo,bp,vI k.Num,vI k.Den,vI k.Down,vI k.Delay,vI k.Floor,bq]) O O O (AE O (AE O (AE O (AE O (AE fm.one (AE fn.one (AE O (AE O (AE O (AE O (AE O (AE fo.one EH)))))))))))) J4 O i1 .head O O λlf fp ai=>AZ (kp [4,0,1] O) (AC (WF.sl (AG 2 (AA O (AA O (AF ?_))))))
 have fq:=fp.sel [1,1,1,1,1,1,1,1,1,1,0] 0 O
 have fr:=ca.mono' (e9.trans ai)
 have fs:=az.mono' (e9.trans ai)
 have ft:=cb.mono' (e9.trans ai)
 have fu:=cc.mono' (e9.trans ai)
 have fv:=cd.mono' (e9.trans ai)
 have fw:=ce.mono' (e9.trans ai)
 have fx:=cf.mono' (e9.trans ai)
 have fy:=cg.mono' (e9.trans ai)
 have f0:=bj.mono' (e9.trans ai)
 have f1:=bk.mono' (e9.trans ai)
 have f2:=bl.mono' (e9.trans ai)
 have f3:=bm.mono' (e9.trans ai)
 have f4:=bn.mono' (e9.trans ai)
 obtain⟨f5,f6,E⟩:=bd E
 refine Cv O O O eS O (M9 (p0_w:=p0_w) fq ad fr ae fs ft fu fv fw fx fy ab f0 f1 f2 f3 f4 ac ap f6) λlg lh li aj p=>?_
 have f7:=p
 refine AG 2 (AA O (AA O (AF ?_)))
 have f8:=f7.sel [1,1,1,1,1,1,1,1,1,1,0,0] 0 O
 have c5:=fr.mono' aj
 have c6:=fs.mono' aj
 have c7:=ft.mono' aj
 have c8:=fu.mono' aj
 have c9:=fv.mono' aj
 have da:=fw.mono' aj
 have db:=fx.mono' aj
 have dc:=fy.mono' aj
 have dd:=f0.mono' aj
 have de:=f1.mono' aj
 have df:=f2.mono' aj
 have dg:=f3.mono' aj
 have dh:=f4.mono' aj
 obtain⟨f9,ga,E⟩:=bd E
 refine Cv O O O eR O (ND (p0_w:=p0_w) f8 ad c5 ae c6 c7 c8 c9 da db dc ab dd de df dg dh ac ap ga) λlj ll lm ch p=>?_
 have gb:=p
 obtain⟨lo,gc,ci,i9⟩:=gb.pubs (.tail (.tail (.tail (.tail (.tail (.tail (.tail (.tail (.tail (.tail (.tail .head)))))))))))
 obtain⟨lp,gd,br,ge⟩:=gc.pubs .head
 have gf:=i9.mono' br
 obtain⟨gg,dy,rfl,lq⟩:=(gf).len
 obtain⟨gh,dz,rfl,lr⟩:=(ge).len
 refine DY (cs:=[(.slice gg f5.length dy),(.slice gh f9.length dz)]) Z2 O O O O O O O gd λls lt gi ba=>?_
 have ja:=ge.mono' ba
 have jb:=gf.mono' ba
 have gj:=gi.bxos (r:=(AM.sl Av)) (l:=([f5,f9]:List (List AL))) .head ⟨_,_,O,⟨_,O,jb⟩,⟨_,_,O,⟨_,O,ja⟩,O⟩⟩ (by simp [maxLen])
 obtain⟨lu,gk,cj,jc⟩:=gj.pubs .head
 obtain⟨d0,gl,E⟩:=bd E
 refine Cv O O O eT O (Gm gk jc gl) λgm d1 d2 a1 p=>?_
 have ck:=p
 refine AG 2 (Kc ck mh O Le O λjj=>AA O (AF (AZ (kp [27,26,25,4,0,1] O) (Am (λa w=>∃(a2:Value) (ar:List (List Int)) (a3:Value) (au:List Int) (a4:Value) (av:List Ak) (a5:Value) (aw:List Al),IV B d1 d2 (119,[]) a w [(4,vP b6 0),(0,vP u 0),(1,vI z)] (OS (AM.sl AM.int) 29 a2 ar::OS AM.int 3 a3 au::OS BH 50 a4 av::OS Ap 60 a5 aw::Bx u 84 [.string p0_w.b.Name,H,vI p0_w.b.Cells,I,J,K,M,Q,U,V,vI p0_w.b.Err,A,C,D,F,G,vI p0_w.s.Hour,a2,t,c,d,g,a3,a4,j,a5]::OS AM.int 3 t p0_w.s.Rem::OS Ap 60 c p0_w.s.Queue::OS BJ 69 d p0_w.s.Gates::OS AM.int 3 g p0_w.s.In::OS AM.int 3 j p0_w.peaks::Bx b6 56 [.string k.Name,vI k.Kind,vI k.Office,vI k.Cap,bo,bp,vI k.Num,vI k.Den,vI k.Down,vI k.Delay,vI k.Floor,bq]::L) λ_ _=>FE N p0_w z k ar au av aw=some r) ?_ ?_))))
 ·refine A5 (λn1=>λa w=>∃(bb:Int) (bu:Value) (bc:List (List Int)) (bv:Value) (be:List Int) (bw:Value) (bf:List Ak) (bx:Value) (bg:List Al),IV B d1 d2 (119,[]) a w [(26,vI (↑d0.length:Int)),(25,gm),(4,vP b6 0),(0,vP u 0),(1,vI z),(27,vI bb)] (OS (AM.sl AM.int) 29 bu bc::OS AM.int 3 bv be::OS BH 50 bw bf::OS Ap 60 bx bg::OS Av 111 gm d0::Bx u 84 [.string p0_w.b.Name,H,vI p0_w.b.Cells,I,J,K,M,Q,U,V,vI p0_w.b.Err,A,C,D,F,G,vI p0_w.s.Hour,bu,t,c,d,g,bv,bw,j,bx]::OS AM.int 3 t p0_w.s.Rem::OS Ap 60 c p0_w.s.Queue::OS BJ 69 d p0_w.s.Gates::OS AM.int 3 g p0_w.s.In::OS AM.int 3 j p0_w.peaks::Bx b6 56 [.string k.Name,vI k.Kind,vI k.Office,vI k.Cap,bo,bp,vI k.Num,vI k.Den,vI k.Down,vI k.Delay,vI k.Floor,bq]::L) λ_ _=>AH bb∧C2 N p0_w z d0 (FE N p0_w z k) n1 bb bc be bf bg=some r) N ?_ ?_ ?_
  ·intro aa ww hf hw
   have d3:=ck.sel [2,6,6,7,0,0,0,0,0,0,0,0] 0 O
   exact⟨0,ak,p0_w.s.Own,am,p0_w.s.Out,an,p0_w.moves,ao,p0_w.sent,_,_,hf.sub (kp [26,25,4,0,1,27] O),hw,d3,(CA.refl d1 d2),(iq (n:=0) O),E⟩
  ·rintro aa ww ⟨_,_,_,_,_,_,_,_,_,_,_,_,_,_,_,_,E⟩
   rw[C2] at E;cases E
  rintro n1 aa ww ⟨bb,bu,bc,bv,be,bw,bf,bx,bg,jk,jl,hf,hw,a8,cl,jm,E⟩
  refine Ac ?_ hf hw
  clear hf hw ww aa
  rw[C2] at E
  refine AI (Ar O (AN (kp [28,26,25,4,0,1,27] O) (AC (AW O E (λgn E=>?_) (λgn E=>?_)))))
  ·refine AQ (AC (BB (WF.sl (AG 2 ?_))))
   obtain⟨jn,d4,E⟩:=bd E
   refine A8 a8 (mt (mt (mt (mt mh)))) O O Le d4 O λjo d5=>?_
   obtain⟨ax,d6,E⟩:=bd E
   have gp:=a8.epAt (mt (mt (mt (mt mh)))) d6 E9.id d5
   refine B8 A9 (λ_ x=>x) O gp TM (λe=>by cases e) O λjp gq=>AF (Cp ZT O a8 λjq jr d7 cm=>?_)
   obtain⟨js,rfl,gr,gs,gt,di⟩:=Av.ex (gq.mono cm)
   obtain⟨cn,co,rfl,jd,je⟩:=di.fnr
   refine Du (vs:=[vI ax.to_,vI ax.delay,vI ax.way,(.func (.func cn) #[] co)]) O O O O TM O d7 .head O λjt cp cq=>AZ (kp [6,26,25,4,0,1,27] O) (D3 (AG 3 (AA O (AA O (Db (vs:=[vI ax.to_,vI ax.delay,vI ax.way,(.func (.func cn) #[] co)]) A9 cp O mh O O TM O O (AF ?_))))))
   have d8:=cp.sel [6,1,5,5,5,5,1,1,3,1,0,0,0] 0 O
   have W:=ch.trans (ci.trans (br.trans (ba.trans (cj.trans (a1.trans (cl.trans (cm.trans cq)))))))
   obtain⟨bz,d9,E⟩:=bd E
   refine Cv O O O W5 O (JL (p0_w:=(⟨p0_w.b,p0_w.in_,(⟨p0_w.s.Hour,bc,p0_w.s.Rem,p0_w.s.Queue,p0_w.s.Gates,p0_w.s.In,be⟩:Aj),bf,p0_w.peaks,bg⟩:Aq)) d8 ad (c5.mono' W) ae (c6.mono' W) (c7.mono' W) (c8.mono' W) (c9.mono' W) (da.mono' W) (db.mono' W) (dc.mono' W) ab (dd.mono' W) (de.mono' W) (df.mono' W) (dg.mono' W) (dh.mono' W) ac ap (Av.mk (x:=ax) gr gs gt (di.mono cq)) d9) λju jv jw gu p=>?_
   obtain⟨gv,gw,gx,gy,rfl,ea⟩:=p
   refine AZ (kp [26,25,4,0,1,27] O) (BO (BZ (.inl O) (Ai O (AA O (AN (kp [27,26,25,4,0,1] O) (WF.nil (λaa ww hf hw=>?_)))))))
   have eb:=ea.sel [1,5,5,6,7,0,0,0,0,0,0,1] 1 O
   exact⟨(BD (bb+1)),gv,bz.1,gw,bz.2.1,gx,bz.2.2.1,gy,bz.2.2.2,_,_,hf.sub (kp [26,25,4,0,1,27] O),hw,eb,(cl.trans (cm.trans (cq.trans gu))),(BK _),E⟩
  refine BC O (λaa ww hf hw=>?_)
  have ec:=a8.sel [0,0,0,0,1,1,1,1,1,1,1] 1 O
  exact⟨bu,bc,bv,be,bw,bf,bx,bg,_,_,hf.sub (kp [4,0,1] O),hw,ec,cl,E⟩
 rintro aa ww ⟨a2,ar,a3,au,a4,av,a5,aw,b0,dj,hf,hw,X,bh,E⟩
 refine Ac ?_ hf hw
 clear hf hw ww aa
 rw[FE] at E
 refine AC (AI (AD K5 O (AS A9 X O (mt (mt (mt (mt (mt (mt (mt (mt (mt (mt mh)))))))))) O Ag O (Bt O (AN (kp [38,4,0,1] O) (Ge (λa w=>∃(cr:Value) (b1:List (List Int)) (ct:Value) (b2:List Int) (cu:Value) (b3:List Ak) (cv:Value) (b4:List Al) (b5:List Int),IV B b0 dj (119,[]) a w [(4,vP b6 0),(0,vP u 0),(1,vI z)] (OS (AM.sl AM.int) 29 cr b1::OS AM.int 3 ct b2::OS BH 50 cu b3::OS Ap 60 cv b4::Bx u 84 [.string p0_w.b.Name,H,vI p0_w.b.Cells,I,J,K,M,Q,U,V,vI p0_w.b.Err,A,C,D,F,G,vI p0_w.s.Hour,cr,t,c,d,g,ct,cu,j,cv]::OS AM.int 3 t b5::OS Ap 60 c p0_w.s.Queue::OS BJ 69 d p0_w.s.Gates::OS AM.int 3 g p0_w.s.In::OS AM.int 3 j p0_w.peaks::Bx b6 56 [.string k.Name,vI k.Kind,vI k.Office,vI k.Cap,bo,bp,vI k.Num,vI k.Den,vI k.Down,vI k.Delay,vI k.Floor,bq]::L) λ_ _=>C3 N p0_w z k b1 b2 b3 b4 b5=some r) ?_ ?_))))))
 ·refine AW O E (λgz E=>?_) (λgz E=>?_)
  ·refine AC (Bq (.inr ⟨mo,by kernel_rfl⟩) X (Db (vs:=[.string k.Name,vI k.Kind,vI k.Office,vI k.Cap,bo,bp,vI k.Num,vI k.Den,vI k.Down,vI k.Delay,vI k.Floor,bq]) Bd X O (mt (mt (mt (mt (mt (mt (mt (mt (mt (mt mh)))))))))) O O J4 O O (AA O (CP O O (AD Jx O (AS Bd X O (mt (mt (mt (mt mh)))) O BW O (AA O ?_)))))))
   obtain⟨jx,ed,E⟩:=bd E
   refine A8 X (mt (mt (mt (mt (mt (mt (mt (mt (mt mh))))))))) O O BQ ed O λjy ee=>?_
   obtain⟨jz,ef,E⟩:=bd E
   have g0:=X.epAt (mt (mt (mt (mt (mt (mt (mt (mt (mt mh))))))))) ef E9.id ee
   refine Af Bd (λ_ x=>x) O g0 Ag O λg1=>AA O (CP O O (AD Cb O (AD Jy O (AS Bd X O (mt (mt (mt (mt mh)))) O BW O (AA O ?_)))))
   obtain⟨j0,eg,E⟩:=bd E
   refine A8 X (mt (mt (mt (mt (mt mh))))) O O BQ eg O λj1 eh=>?_
   obtain⟨j2,ei,E⟩:=bd E
   have g2:=X.epAt (mt (mt (mt (mt (mt mh))))) ei E9.id eh
   refine Af Bd (λ_ x=>x) O g2 Ag O λg3=>?_
   have bs:=ai.trans (aj.trans (ch.trans (ci.trans (br.trans (ba.trans (cj.trans (a1.trans bh)))))))
   obtain⟨ag,ej,E⟩:=bd E
   refine IF (v:= .tuple #[vI ag.1,vI ag.2]) (Ψ:=AH ag.1∧AH ag.2) O O O eQ O (λh' o=>(Oz (St.all h') (B0.mk (x:=k) i2 i3 i4 i5 ((fm.mono' bs).mono' (o.all X.1)) ((fn.mono' bs).mono' (o.all X.1)) i6 i7 dw dx i8 ((fo.mono' bs).mono' (o.all X.1))) g1 g3 ej).mono λ_ _ _ _ p=>⟨p.1,⟨p.2.1,p.2.2.1⟩⟩) λg4=>?_
   obtain⟨g5,g6⟩:=g4
   refine AA O (Bo O (Bo O (AY O (AY O (BM (kp [8,7,4,0,1] O) λj3 bt dk=>WF.sl (AG 7 (AA O (CP O O (AD Cb O (AD Jy O (AS A9 bt O (mt (mt (mt (mt mh)))) O BW O (AA O ?_))))))))))))
   obtain⟨j4,ek,E⟩:=bd E
   refine A8 bt (mt (mt (mt (mt (mt mh))))) O O BQ ek O λj5 el=>AF ?_
   obtain⟨g7,em,E⟩:=bd E
   refine E3 (r:=AM.int) (l:=p0_w.s.Rem) (i:=z) (x:=g7) O O (⟨_,O,O,(iq (n:=0) O)⟩:Rd _ _ AM.int _ 0) el em Lv.id Ag (λ_=>rfl) bt (.tail (.tail (.tail (.tail (.tail .head))))) λj6 ay dl=>AZ (kp [8,7,4,0,1] O) (AC (AC (Bq (.inl O) ay (AA O (CP O O (AD Cb O (AD Dm O (AS Bd ay O (mt (mt (mt (mt mh)))) O Gu O (AA O ?_)))))))))
   obtain⟨j7,en,E⟩:=bd E
   refine A8 ay mh O O Ev en O λj8 eo=>?_
   obtain⟨j9,ep,E⟩:=bd E
   have g8:=ay.epAt mh ep E9.id eo
   refine Ao Bd (λ_ x=>x) O g8 BW O λka g9=>?_
   obtain⟨kb,eq,E⟩:=bd E
   refine CY O O O NO O (λh' o=>Ew (St.all h') (g9.mono' (o.all ay.1)) eq) λha=>?_
   have kc:=ha
   refine AA O (Gf O (BM (kp [76,8,7,4,0,1] O) λdm a9 dn=>Ge (λa w=>∃(bi:List Int),IV B b0 dm (119,[]) a w [(7,vI ag.1),(4,vP b6 0),(0,vP u 0),(1,vI z)] (OS (AM.sl AM.int) 29 a2 ar::OS AM.int 3 a3 au::OS BH 50 a4 av::OS Ap 60 a5 aw::Bx u 84 [.string p0_w.b.Name,H,vI p0_w.b.Cells,I,J,K,M,Q,U,V,vI p0_w.b.Err,A,C,D,F,G,vI p0_w.s.Hour,a2,t,c,d,g,a3,a4,j,a5]::OS AM.int 3 t bi::OS Ap 60 c p0_w.s.Queue::OS BJ 69 d p0_w.s.Gates::OS AM.int 3 g p0_w.s.In::OS AM.int 3 j p0_w.peaks::Bx b6 56 [.string k.Name,vI k.Kind,vI k.Office,vI k.Cap,bo,bp,vI k.Num,vI k.Den,vI k.Down,vI k.Delay,vI k.Floor,bq]::L) λ_ _=>FD N p0_w z k ar au av aw ag (C3 N p0_w z k) bi=some r) ?_ ?_))
   ·refine AW O E (λhb E=>?_) (λhb E=>?_)
    ·refine D3 (AG 8 (AA O (CP O O (AD Cb O (AD Jy O (AS A9 a9 O (mt (mt (mt (mt mh)))) O BW O (AA O (AA O ?_))))))))
     obtain⟨kd,er,E⟩:=bd E
     refine A8 a9 (mt (mt (mt (mt (mt mh))))) O O BQ er O λke es=>AF ?_
     obtain⟨hc,et,E⟩:=bd E
     refine E3 (r:=AM.int) (l:=(upd p0_w.s.Rem z 0)) (i:=z) (x:=hc) O O (⟨_,O,O,g6⟩:Rd _ _ AM.int _ ag.2) es et Lv.id Ag (λ_=>rfl) a9 (.tail (.tail (.tail (.tail (.tail .head))))) λkf eu hd=>AZ (kp [7,4,0,1] O) (WF.nil (λaa ww hf hw=>?_))
     exact⟨(upd (upd p0_w.s.Rem z 0) z ag.2),_,_,hf.sub (kp [7,4,0,1] O),hw,eu,hd,E⟩
    refine AQ (WF.nil (λaa ww hf hw=>?_))
    exact⟨(upd p0_w.s.Rem z 0),_,_,hf.sub (kp [7,4,0,1] O),hw,a9,(CA.refl b0 dm),E⟩
   rintro aa ww ⟨bi,dp,dq,hf,hw,ah,dr,E⟩
   refine Ac ?_ hf hw
   clear hf hw ww aa
   rw[FD] at E
   obtain⟨a6,ev,E⟩:=bd E
   refine Mk (m:=[(7,vI ag.1),(4,vP b6 0),(0,vP u 0),(1,vI z)]) 9 (λi v hh=>match i with|0=>v=vP u 0|1=>v=vI z∧AH z|2=>v=vP b6 8|3=>v=vI k.Down∧AH k.Down|4=>v=vP b6 9|5=>v=vI k.Delay∧AH k.Delay|6=>v=vI ag.1∧AH ag.1|7=>Rd (SN dp dq hh) hh (AM.fnr Tryz.prog (λS h vs (x:(List Int))=>∃w0:Value,vs=[w0]∧Sl S h AM.int w0 x) (λS h v (y:((List Int)×(List Int)))=>∃w0 w1:Value,v= .tuple #[w0,w1]∧Sl S h AM.int w0 y.1∧Sl S h AM.int w1 y.2)) v (λx=>Ab N a6 x)|8=>Rd (SN dp dq hh) hh Av v (⟨k.Down,k.Delay,(-1),(λx=>Ab N a6 x)⟩:AL)|_=>False) [[],[],[],[(2,87)],[],[(4,89)],[],[(6,91)],[(3,88),(5,90),(7,92)]] [(0,85),(1,86),(8,93)] mo (by kernel_rfl) [7,4,0,1] O (by kernel_rfl) (by kernel_rfl) (by kernel_rfl) (kp [7,4,0,1] O) (λi v h1 h2 o1 o2 hr=>?_) ?_ ?_
   ·match i,hr with
     |0,hr|1,hr|2,hr|3,hr|4,hr|5,hr|6,hr=>exact hr
     |7,hr|8,hr=>exact Rd.mono hr (SN.mono ah.1 o1 o2)
     |_+9,hr=>exact hr.elim
   ·refine A3.cons O (λ_ _ _=>AG 1 (AA O (AO O))) (A3.cons O (λ_ _ _=>AG 1 (AA O (AO ⟨O,ap⟩))) (A3.cons O (λ_ _ _=>AG 1 (AD PO O (AO O))) (A3.cons O (λ_ _ o _ he=>by cases he;exact AG 1 (AS A9 (o.st ah) O (mt (mt (mt (mt (mt (mt (mt (mt (mt (mt mh)))))))))) O Ag O (AO ⟨O,dw⟩))) (A3.cons O (λ_ _ _=>AG 1 (AD PN O (AO O))) (A3.cons O (λ_ _ o _ hg=>by cases hg;exact AG 1 (AS A9 (o.st ah) O (mt (mt (mt (mt (mt (mt (mt (mt (mt (mt mh)))))))))) O Ag O (AO ⟨O,dx⟩))) (A3.cons O (λ_ _ _=>AG 1 (AA O (AO ⟨O,g5⟩))) ?_))))))
    refine A3.cons O ?_ ?_
    ·intro mq hh o
     intro kg hi
     have hsN:=SN.st ah o
     obtain⟨rfl,hj⟩:=hi
     have hsF:=hsN.fz
     refine Cv O O O S5 O (IZ hsF hj ev) λkh hk hl hm p=>?_
     obtain⟨ds,rfl,hn,ew⟩:=p
     have ey:Rd hk hl (AM.fnr Tryz.prog (λS h vs (x:(List Int))=>∃w0:Value,vs=[w0]∧Sl S h AM.int w0 x) (λS h v (y:((List Int)×(List Int)))=>∃w0 w1:Value,v= .tuple #[w0,w1]∧Sl S h AM.int w0 y.1∧Sl S h AM.int w1 y.2)) (.func (.func 89) #[] #[ds]) (λx=>Ab N a6 x):=KD 89 #[ds] Sy λS' h' s' e' L hs x y vs h1 h2=>by obtain⟨w0,rfl,a0⟩:=h1;exact Mt (He hs a0 (hn.mono'' s' e') h2)
     have cw:=Fz.done o hm ew
     exact Cm cw.1 (Rd.mono ey cw.2)
    refine A3.cons O ?_ ?_
    ·intro mq hh o
     intro ki ho kj hp hq b7
     have hsN:=SN.st ah o
     obtain⟨rfl,ht⟩:=ho
     obtain⟨rfl,hu⟩:=hp
     have b7:Rd _ _ (AM.fnr Tryz.prog (λS h vs (x:(List Int))=>∃w0:Value,vs=[w0]∧Sl S h AM.int w0 x) (λS h v (y:((List Int)×(List Int)))=>∃w0 w1:Value,v= .tuple #[w0,w1]∧Sl S h AM.int w0 y.1∧Sl S h AM.int w1 y.2)) hq (λx=>Ab N a6 x):=b7
     refine AG 1 ?_
     obtain⟨ez,e0,rfl,jf,jg⟩:=b7.fnr
     exact HA (cs:=[vI k.Down,vI k.Delay,vI (-1),(.func (.func ez) #[] e0)]) OH O O O (AO (Av.mk (x:=(⟨k.Down,k.Delay,(-1),(λx=>Ab N a6 x)⟩:AL)) ht hu (iq (n:=(-1)) O) b7))
    exact trivial
   intro kk cx kl hv km hx hy cy
   have e1:=SN.st ah cx
   cases hv
   obtain⟨rfl,hz⟩:=hx
   have cy:Rd _ _ Av hy (⟨k.Down,k.Delay,(-1),(λx=>Ab N a6 x)⟩:AL):=cy
   have e2:=e1.sel [4,0,3,3,3,3,0,0,1,0,0] 0 O
   have Y:=ch.trans (ci.trans (br.trans (ba.trans (cj.trans (a1.trans (bh.trans (dk.trans (dl.trans (dn.trans (dr.trans (SN.ext ah.1 cx)))))))))))
   obtain⟨b8,e3,E⟩:=bd E
   refine Cv O O O W5 O (JL (p0_w:=(⟨p0_w.b,p0_w.in_,(⟨p0_w.s.Hour,ar,bi,p0_w.s.Queue,p0_w.s.Gates,p0_w.s.In,au⟩:Aj),av,p0_w.peaks,aw⟩:Aq)) e2 ad (c5.mono' Y) ae (c6.mono' Y) (c7.mono' Y) (c8.mono' Y) (c9.mono' Y) (da.mono' Y) (db.mono' Y) (dc.mono' Y) ab (dd.mono' Y) (de.mono' Y) (df.mono' Y) (dg.mono' Y) (dh.mono' Y) ac hz cy e3) λkn ko kq h0 p=>?_
   obtain⟨h3,h4,h5,h6,rfl,e4⟩:=p
   refine AZ (kp [4,0,1] O) (WF.nil (λaa ww hf hw=>?_))
   have e5:=e4.sel [1,5,5,6,0,0,0,0,0,0,0] 0 O
   exact⟨h3,b8.1,h4,b8.2.1,h5,b8.2.2.1,h6,b8.2.2.2,bi,_,_,hf.sub (kp [4,0,1] O),hw,e5,(dk.trans (dl.trans (dn.trans (dr.trans ((SN.ext ah.1 cx).trans h0))))),E⟩
  refine AQ (WF.nil (λaa ww hf hw=>?_))
  exact⟨a2,ar,a3,au,a4,av,a5,aw,p0_w.s.Rem,_,_,hf.sub (kp [4,0,1] O),hw,X,(CA.refl b0 dj),E⟩
 rintro aa ww ⟨cr,b1,ct,b2,cu,b3,cv,b4,b5,dt,kr,hf,hw,aq,cz,E⟩
 refine Ac ?_ hf hw
 clear hf hw ww aa
 rw[C3] at E
 refine AC (Bq (.inr ⟨mo,by kernel_rfl⟩) aq (AA O (CP O O (AD Cb O (AD Dm O (AS Bd aq O (mt (mt (mt (mt mh)))) O Gu O (AA O ?_)))))))
 obtain⟨ks,e6,E⟩:=bd E
 refine A8 aq mh O O Ev e6 O λkt e7=>?_
 obtain⟨ku,e8,E⟩:=bd E
 have h8:=aq.epAt mh e8 E9.id e7
 refine Ao Bd (λ_ x=>x) O h8 BW O λkv h9=>?_
 obtain⟨c0,fa,E⟩:=bd E
 refine CY O O O NO O (λh' o=>Ew (St.all h') (h9.mono' (o.all aq.1)) fa) λia=>?_
 have kw:=ia
 refine AD UT O (AS Bd aq O (mt (mt (mt (mt (mt (mt (mt (mt (mt (mt mh)))))))))) O Ag O (Ck O (AY O (BM (kp [9,4,0,1] O) λdu af c1=>AI (AA O (Bf O (AN (kp [108,9,4,0,1] O) (AW O E (λib E=>?_) (λib E=>?_)))))))))
 ·obtain ⟨a7,fb,E⟩:=bd E
  refine Mk (m:=[(9,vI (BD (c0-k.Cap))),(4,vP b6 0),(0,vP u 0),(1,vI z)]) 9 (λi v hh=>match i with|0=>v=vP u 0|1=>v=vI z∧AH z|2=>v=vP b6 8|3=>v=vI k.Down∧AH k.Down|4=>v=vP b6 9|5=>v=vI k.Delay∧AH k.Delay|6=>v=vI (BD (c0-k.Cap))∧AH (BD (c0-k.Cap))|7=>Rd (SN dt du hh) hh (AM.fnr Tryz.prog (λS h vs (x:(List Int))=>∃w0:Value,vs=[w0]∧Sl S h AM.int w0 x) (λS h v (y:((List Int)×(List Int)))=>∃w0 w1:Value,v= .tuple #[w0,w1]∧Sl S h AM.int w0 y.1∧Sl S h AM.int w1 y.2)) v (λx=>Ab N a7 x)|8=>Rd (SN dt du hh) hh Av v (⟨k.Down,k.Delay,(-2),(λx=>Ab N a7 x)⟩:AL)|_=>False) [[],[],[],[(2,111)],[],[(4,113)],[],[(6,115)],[(3,112),(5,114),(7,116)]] [(0,109),(1,110),(8,117)] mo (by kernel_rfl) [9,4,0,1] O (by kernel_rfl) (by kernel_rfl) (by kernel_rfl) (kp [9,4,0,1] O) (λi v h1 h2 o1 o2 hr=>?_) ?_ ?_
  ·match i,hr with
    |0,hr|1,hr|2,hr|3,hr|4,hr|5,hr|6,hr=>exact hr
    |7,hr|8,hr=>exact Rd.mono hr (SN.mono af.1 o1 o2)
    |_+9,hr=>exact hr.elim
  ·refine A3.cons O (λ_ _ _=>AG 1 (AA O (AO O))) (A3.cons O (λ_ _ _=>AG 1 (AA O (AO ⟨O,ap⟩))) (A3.cons O (λ_ _ _=>AG 1 (AD PO O (AO O))) (A3.cons O (λ_ _ o _ ic=>by cases ic;exact AG 1 (AS A9 (o.st af) O (mt (mt (mt (mt (mt (mt (mt (mt (mt (mt mh)))))))))) O Ag O (AO ⟨O,dw⟩))) (A3.cons O (λ_ _ _=>AG 1 (AD PN O (AO O))) (A3.cons O (λ_ _ o _ ie=>by cases ie;exact AG 1 (AS A9 (o.st af) O (mt (mt (mt (mt (mt (mt (mt (mt (mt (mt mh)))))))))) O Ag O (AO ⟨O,dx⟩))) (A3.cons O (λ_ _ _=>AG 1 (AA O (AO ⟨O,(BK _)⟩))) ?_))))))
   refine A3.cons O ?_ ?_
   ·intro mq hh o
    intro kx ig
    have hsN:=SN.st af o
    obtain⟨rfl,ih⟩:=ig
    have hsF:=hsN.fz
    refine Cv O O O S5 O (IZ hsF ih fb) λky ii ij ik p=>?_
    obtain⟨dv,rfl,il,fc⟩:=p
    have fd:Rd ii ij (AM.fnr Tryz.prog (λS h vs (x:(List Int))=>∃w0:Value,vs=[w0]∧Sl S h AM.int w0 x) (λS h v (y:((List Int)×(List Int)))=>∃w0 w1:Value,v= .tuple #[w0,w1]∧Sl S h AM.int w0 y.1∧Sl S h AM.int w1 y.2)) (.func (.func 89) #[] #[dv]) (λx=>Ab N a7 x):=KD 89 #[dv] Sy λS' h' s' e' L hs x y vs h1 h2=>by obtain⟨w0,rfl,a0⟩:=h1;exact Mt (He hs a0 (il.mono'' s' e') h2)
    have c2:=Fz.done o ik fc
    exact Cm c2.1 (Rd.mono fd c2.2)
   refine A3.cons O ?_ ?_
   ·intro mq hh o
    intro kz im k0 io ip b9
    have hsN:=SN.st af o
    obtain⟨rfl,ir⟩:=im
    obtain⟨rfl,it⟩:=io
    have b9:Rd _ _ (AM.fnr Tryz.prog (λS h vs (x:(List Int))=>∃w0:Value,vs=[w0]∧Sl S h AM.int w0 x) (λS h v (y:((List Int)×(List Int)))=>∃w0 w1:Value,v= .tuple #[w0,w1]∧Sl S h AM.int w0 y.1∧Sl S h AM.int w1 y.2)) ip (λx=>Ab N a7 x):=b9
    refine AG 1 ?_
    obtain⟨fe,ff,rfl,jh,ji⟩:=b9.fnr
    exact HA (cs:=[vI k.Down,vI k.Delay,vI (-2),(.func (.func fe) #[] ff)]) OH O O O (AO (Av.mk (x:=(⟨k.Down,k.Delay,(-2),(λx=>Ab N a7 x)⟩:AL)) ir it (iq (n:=(-2)) O) b9))
   exact trivial
  intro k1 c3 k2 iu k4 iv iw c4
  have fg:=SN.st af c3
  cases iu
  obtain⟨rfl,iy⟩:=iv
  have c4:Rd _ _ Av iw (⟨k.Down,k.Delay,(-2),(λx=>Ab N a7 x)⟩:AL):=c4
  have fh:=fg.sel [4,0,3,3,3,3,0,0,1,0,0] 0 O
  have Z:=ch.trans (ci.trans (br.trans (ba.trans (cj.trans (a1.trans (bh.trans (cz.trans (c1.trans (SN.ext af.1 c3)))))))))
  obtain⟨k6,fi,E⟩:=bd E
  refine Cv O O O W5 O (JL (p0_w:=(⟨p0_w.b,p0_w.in_,(⟨p0_w.s.Hour,b1,b5,p0_w.s.Queue,p0_w.s.Gates,p0_w.s.In,b2⟩:Aj),b3,p0_w.peaks,b4⟩:Aq)) fh ad (c5.mono' Z) ae (c6.mono' Z) (c7.mono' Z) (c8.mono' Z) (c9.mono' Z) (da.mono' Z) (db.mono' Z) (dc.mono' Z) ab (dd.mono' Z) (de.mono' Z) (df.mono' Z) (dg.mono' Z) (dh.mono' Z) ac iy c4 fi) λk7 k8 k9 iz p=>?_
  obtain⟨la,lb,lc,le,rfl,fj⟩:=p
  refine AZ Oy (WF.nil (λaa ww hf hw=>?_))
  have fk:=fj.drop (.tail (.tail (.tail (.tail (.tail (.tail (.tail (.tail (.tail (.tail .head))))))))))
  cases E
  exact KH hf O hw KG O (e9.trans (ai.trans (aj.trans (ch.trans (ci.trans (br.trans (ba.trans (cj.trans (a1.trans (bh.trans (cz.trans (c1.trans ((SN.ext af.1 c3).trans iz))))))))))))) ⟨_,_,_,_,_,O,fk⟩
 refine AQ (WF.nil (λaa ww hf hw=>?_))
 have fl:=af.sel [4,0,3,3,3,3,0,0,1,0] 1 O
 cases E
 exact KH hf O hw KG O (e9.trans (ai.trans (aj.trans (ch.trans (ci.trans (br.trans (ba.trans (cj.trans (a1.trans (bh.trans (cz.trans c1))))))))))) ⟨_,_,_,_,_,O,fl⟩
theorem K9 (hs:St S L h) {bc:Value}{c:AX}(dv:Rd S h B1 bc c) {be:Value}{cw:Aj}(dw:Rd S h CO be cw) {a0:Value}{d:Ek}(c7:Rd S h Fm a0 d) {r:Aj×(List Ak)×(List Int)}(E:Ic N c cw d=some r):
 CL Tryz.prog 11 #[bc,be,a0] S h (λv S' h'=>∃ik il im:Value,v= .tuple #[ik,il,im]∧Rd S' h' CO ik r.1∧St S' (OS BH 50 il r.2.1::OS AM.int 3 im r.2.2::L) h'):=by
 refine BG (l:=[bc,be,a0]) 53 Tryz.func11 O Tryz.ntmps11 O λB=>?_
 rw[Ic] at E
 refine WF.sl (B4 O dv (λe=>by cases e) O hs λq1 S2 h3 kq e5 k6=>B4 O (dw.mono e5) (λe=>by cases e) O kq λq8 S9 ps io c8 kr=>B4 O (c7.mono (e5.trans c8)) (λe=>by cases e) O io λks ax pt ip c9 kt=>Cp Oa O ip λda cj k c6=>AG 2 (AY O (AY O (AF (AZ (kp [6,5,4,3] O) (AC ?_))))))
 obtain⟨g,ir,E⟩:=bd E
 obtain⟨it,E⟩:=Lr E
 refine Rs (m:=[(6,vP da 0),(5,ks),(4,q8),(3,q1)]) [10] [] [(8,[0,1,3,7])] (by kernel_rfl) (λgv X F i v hh=>match i with|0=>Rd ax hh B1 v c|1=>Rd ax hh Fm v d|2=>Rd ax hh CO v cw|3=>∃w1 w2 w3 w4 w5 w6:Value,v= .agg #[vI g.Hour,w1,w2,w3,w4,w5,w6]∧AH g.Hour∧Sl (SX ax cj hh X) hh Ap w3 g.Queue∧OW ax cj X F [OO AM.int 3 29 w1 g.Own,OS AM.int 3 w2 g.Rem,OS BJ 69 w4 g.Gates,OS AM.int 3 w5 g.In,OS AM.int 3 w6 g.Out] hh|4=>Pt ax hh (AM.sl B0) v c.Places|5=>Sl ax hh B0 v c.Places|6=>v=vI (↑c.Places.length:Int)∧AH (↑c.Places.length:Int)|7=>OW ax cj X F [OS AM.int 3 v (List.replicate ((↑c.Places.length:Int):Int).toNat (0:Int))] hh|8=>v= .agg ((gv 0).cells.toList++(gv 1).cells.toList++(gv 3).cells.toList++[(vN:Value)]++[gv 7]++[(vN:Value)]).toArray|9=>∃w0:Nat,v=vP w0 0∧OW ax cj X F [Bx w0 84 [.string ByteArray.empty,vN,vI 0,vN,vN,vN,vN,vN,vN,vN,vI 0,vN,vN,vN,vN,vN,vI 0,vN,vN,vN,vN,vN,vN,vN,vN,vN]] hh|_=>False) [[],[],[],[(2,13)],[],[(4,15)],[(5,16)],[(6,17)],[(0,11),(1,12),(3,14),(7,18)],[],[]] [(0,11),(1,12),(3,14),(7,18),(8,19),(9,9)] mo (by kernel_rfl) [6,5,4,3] O (by kernel_rfl) (by kernel_rfl) (by kernel_rfl) O (kp [6,5,4,3] O) (λgv i v h1 h2 X X' F o1 o2 hF u1 u2 hr=>?_) (λgv gv' X F i v h1 hz hr=>?_) ?_ ?_ ?_
 ·match i,hr with
   |0,hr|1,hr|2,hr=>exact Rd.mono hr (o2.ext λb hb=>Nat.lt_of_lt_of_le (k.1 b hb) o1.siz)
   |3,hr=>obtain⟨w1,w2,w3,w4,w5,w6,ev,k0,k3,q⟩:=hr;exact⟨w1,w2,w3,w4,w5,w6,ev,k0,Sl.mono' k3 (SX.mono k.1 o1 o2 u1 u2),OW.mono k.1 o1 o2 hF u1 u2 q⟩
   |4,hr=>exact Nd.mono hr (o2.ext λb hb=>Nat.lt_of_lt_of_le (k.1 b hb) o1.siz)
   |5,hr=>exact Sl.mono' hr (o2.ext λb hb=>Nat.lt_of_lt_of_le (k.1 b hb) o1.siz)
   |6,hr|8,hr=>exact hr
   |7,hr=>exact OW.mono k.1 o1 o2 hF u1 u2 hr
   |9,hr=>obtain⟨w0,ev,q⟩:=hr;exact⟨w0,ev,OW.mono k.1 o1 o2 hF u1 u2 q⟩
   |_+10,hr=>exact hr.elim
 ·match i,hr with
   |0,hr|1,hr|2,hr|3,hr|4,hr|5,hr|6,hr|7,hr|9,hr=>exact hr
   |8,hr=>rw[hz _ List.mem_cons_self O 0 (by decide),hz _ List.mem_cons_self O 1 (by decide),hz _ List.mem_cons_self O 3 (by decide),hz _ List.mem_cons_self O 7 (by decide)] at hr;exact hr
   |_+10,hr=>exact hr.elim
 ·exact trivial
 ·refine CC.cons O O ?_ ?_
  ·intro gv X mq hh o hX
   have hsN:=o.st k
   exact AG 1 (B8 A9 hsN.1 O (k6.mono (c8.trans (c9.trans (c6.trans (o.ext k.1))))) G6 (λe=>by cases e) O λk2 iu=>AO iu)
  refine CC.cons O O ?_ ?_
  ·intro gv X mq hh o hX
   have hsN:=o.st k
   exact AG 1 (B8 A9 hsN.1 O (kt.mono (c6.trans (o.ext k.1))) Tz (λe=>by cases e) O λk4 iv=>AO iv)
  refine CC.cons O O ?_ ?_
  ·intro gv X mq hh o hX
   have hsN:=o.st k
   exact AG 1 (B8 A9 hsN.1 O (kr.mono (c9.trans (c6.trans (o.ext k.1)))) HI (λe=>by cases e) O λk5 iw=>AO iw)
  refine Ml O O ?_ ?_
  ·intro gv X mq hh o hX
   have hsN:=SX.fz (X:=X) k o
   intro iy a1
   obtain⟨ku,_,_,a1⟩:=a1
   have a1:=Rd.mono (S':=(SX ax cj hh X)) a1 ⟨λb hb=>(SX.ext k.1 o hX).sub b hb,λ_ _=>rfl,Nat.le_refl _⟩
   have a1:Rd _ _ CO iy cw:=a1
   refine Cv O O O fQ O (Ou hsN a1 ir) λk7 k8 k9 iz p=>?_
   obtain⟨la,lb,lc,le,lf,lg,rfl,i0,i1,gn⟩:=p
   have hsG:=gn.pick (.tail (.tail (.tail (.tail (.tail .head)))))
   obtain⟨F185,hF186,i2,i3,i4⟩:=OW.done k.1 o hX iz hsG
   exact Cm i2 ⟨F185,hF186,⟨_,_,_,_,_,_,O,i0,Sl.mono' i1 i3,i4⟩⟩
  refine CC.cons O O ?_ ?_
  ·intro gv X mq hh o hX
   have hsN:=o.st k
   exact AG 1 (Ae O (k6.mono (c8.trans (c9.trans (c6.trans (o.ext k.1))))) BP C1 O λlh i5=>AO i5)
  refine CC.cons O O ?_ ?_
  ·intro gv X mq hh o hX
   have hsN:=o.st k
   intro i6 bt
   obtain⟨kv,_,_,bt⟩:=bt
   have bt:Pt _ _ (AM.sl B0) i6 c.Places:=bt
   exact AG 1 (Ao A9 hsN.1 O bt F7 O λli i7=>AO i7)
  refine CC.cons O O ?_ ?_
  ·intro gv X mq hh o hX
   have hsN:=o.st k
   intro i8 bu
   obtain⟨kw,_,_,bu⟩:=bu
   have bu:Sl _ _ B0 i8 c.Places:=bu
   exact AG 1 (An O bu FA O λi9=>AO ⟨O,(Jl i9)⟩)
  refine Ml O O ?_ ?_
  ·intro gv X mq hh o hX
   have hsN:=SX.fz (X:=X) k o
   intro lj db
   obtain⟨kx,_,_,db⟩:=db
   obtain⟨rfl,ll⟩:=db
   refine JO (r:=AM.int) (zx:=0) Ef O ⟨O,by unfold AH;omega⟩ O O it O O hsN λlm lo gp ja=>?_
   have hsG:=gp.pick (.tail .head)
   obtain⟨F210,hF211,jb,lp,jc⟩:=OW.done k.1 o hX ja hsG
   exact Cm jb ⟨F210,hF211,jc⟩
  refine CC.cons O O ?_ ?_
  ·intro gv X mq hh o hX
   have hsN:=o.st k
   intro jd bv je bw lq dc lr dd
   obtain⟨gq,_,_,bv⟩:=bv
   have bv:Rd _ _ B1 jd c:=bv
   obtain⟨gr,_,_,bw⟩:=bw
   have bw:Rd _ _ Fm je d:=bw
   obtain⟨gs,_,_,dc⟩:=dc
   obtain⟨ls,lt,lu,lv,lw,lx,rfl,ly,jf,bx⟩:=dc
   obtain⟨gt,dx,rfl,lz⟩:=OW.oolen bx mh
   obtain⟨gu,dy,rfl,l0⟩:=OW.oslen bx (mt mh)
   obtain⟨gw,dz,rfl,l1⟩:=jf.len
   obtain⟨gx,d0,rfl,l2⟩:=OW.oslen bx (mt (mt mh))
   obtain⟨gy,d1,rfl,l3⟩:=OW.oslen bx (mt (mt (mt mh)))
   obtain⟨gz,d2,rfl,l4⟩:=OW.oslen bx (mt (mt (mt (mt mh))))
   obtain⟨g0,_,_,dd⟩:=dd
   obtain⟨g1,d3,rfl,l5⟩:=OW.oslen dd mh
   refine AG 1 ?_
   obtain⟨l6,l7,l8,l9,ma,mb,mc,md,rfl,me,jg,mf,jh,ji,jj,jk,jl,jm,jn,mg⟩:=B1.ex bv
   obtain⟨mi,mj,ml,mm,mn,rfl,jo,jp,jq,jr,js⟩:=Fm.ex bw
   obtain⟨g2,d4,rfl,mp⟩:=(jg).len
   obtain⟨g3,d5,rfl,mr⟩:=(jh).len
   obtain⟨g4,d6,rfl,ms⟩:=(ji).len
   obtain⟨g5,d7,rfl,mu⟩:=(jj).len
   obtain⟨g6,d8,rfl,mv⟩:=(jk).len
   obtain⟨g7,d9,rfl,mw⟩:=(jl).len
   obtain⟨g8,ea,rfl,mx⟩:=(jm).len
   obtain⟨g9,eb,rfl,my⟩:=(jn).len
   obtain⟨ha,ec,rfl,mz⟩:=(jo).len
   obtain⟨hc,ed,rfl,m0⟩:=(jp).len
   obtain⟨hd,ee,rfl,m1⟩:=(jq).len
   obtain⟨he,ef,rfl,m2⟩:=(jr).len
   obtain⟨hg,eg,rfl,m3⟩:=(js).len
   exact HA (cs:=[.string c.Name,(.slice g2 c.Owners.length d4),vI c.Cells,(.slice g3 c.Places.length d5),(.slice g4 c.Links.length d6),(.slice g5 c.Towns.length d7),(.slice g6 c.Gauges.length d8),(.slice g7 c.Roads.length d9),(.slice g8 c.Shelters.length ea),(.slice g9 c.Room.length eb),vI c.Err,(.slice ha d.Rain.length ec),(.slice hc d.Faults.length ed),(.slice hd d.Cmds.length ee),(.slice he d.Takes.length ef),(.slice hg d.Swaps.length eg),vI g.Hour,(.slice gt g.Own.length dx),(.slice gu g.Rem.length dy),(.slice gw g.Queue.length dz),(.slice gx g.Gates.length d0),(.slice gy g.In.length d1),(.slice gz g.Out.length d2),vN,(.slice g1 (List.replicate ((↑c.Places.length:Int):Int).toNat (0:Int)).length d3),vN]) cF O O O (AO (by rw[←gq,←gr,←gs,←g0];rfl))
  refine Ml O O ?_ ?_
  ·intro gv X mq hh o hX
   have hsN:=SX.fz (X:=X) k o
   refine Cp bP O hsN λm4 m5 hi jt=>?_
   have hsG:=hi.pick (.tail .head)
   obtain⟨F332,hF333,ju,m6,jv⟩:=OW.done k.1 o hX jt hsG
   exact Cm ju ⟨F332,hF333,⟨_,O,jv⟩⟩
  exact CC.skip (by kernel_rfl) (trivial)
 intro ei de ky bz a2 ck jw a3 jx a4 m7 df m8 dg ej dh m9 di
 obtain⟨hj,a3⟩:=a3
 obtain⟨hk,a4⟩:=a4
 obtain⟨hl,df⟩:=df
 obtain⟨hm,dg⟩:=dg
 obtain⟨kz,dh⟩:=dh
 obtain⟨k1,di⟩:=di
 obtain⟨na,nb,nc,nd,ne,nf,rfl,b0,ek,jy⟩:=df
 obtain⟨b1,rfl,jz⟩:=di
 have ae:=(Tq.cons (Tq.cons (Tq.cons (Tq.nil k bz a2) ck (j:=3) O jy) ck (j:=7) O dg) ck (j:=9) O jz).st
 simp only[List.cons_append,List.nil_append] at ae
 have a3:=Rd.mono (S':=(SX ax cj ei (UX de))) a3 ⟨λb hb=>(SX.ext k.1 bz (Xd a2)).sub b hb,λ_ _=>rfl,Nat.le_refl _⟩
 have a3:Rd _ _ B1 jw c:=a3
 have a4:=Rd.mono (S':=(SX ax cj ei (UX de))) a4 ⟨λb hb=>(SX.ext k.1 bz (Xd a2)).sub b hb,λ_ _=>rfl,Nat.le_refl _⟩
 have a4:Rd _ _ Fm jx d:=a4
 obtain⟨ng,nh,ni,nj,nk,nl,nm,nn,rfl,b2,el,b3,em,en,eo,ep,eq,er,es,b4⟩:=B1.ex a3
 obtain⟨af,G,rfl,no⟩:=(el).len
 obtain⟨ag,H,rfl,np⟩:=(em).len
 obtain⟨ah,I,rfl,nq⟩:=(en).len
 obtain⟨ai,J,rfl,nr⟩:=(eo).len
 obtain⟨aj,K,rfl,ns⟩:=(ep).len
 obtain⟨ak,M,rfl,nt⟩:=(eq).len
 obtain⟨am,Q,rfl,nu⟩:=(er).len
 obtain⟨an,U,rfl,nv⟩:=(es).len
 obtain⟨nw,nx,ny,nz,n0,rfl,et,eu,ew,ey,ez⟩:=Fm.ex a4
 obtain⟨ao,V,rfl,n2⟩:=(et).len
 obtain⟨ap,W,rfl,n3⟩:=(eu).len
 obtain⟨aq,Y,rfl,n4⟩:=(ew).len
 obtain⟨ar,Z,rfl,n5⟩:=(ey).len
 obtain⟨au,ab,rfl,n6⟩:=(ez).len
 obtain⟨cl,bf,rfl,n7⟩:=ae.oolen (mt (mt mh))
 obtain⟨bg,ay,rfl,n8⟩:=ae.oslen (mt (mt (mt mh)))
 obtain⟨cm,bh,rfl,n9⟩:=(ek).len
 obtain⟨cn,bi,rfl,oa⟩:=ae.oslen (mt (mt (mt (mt mh))))
 obtain⟨co,bj,rfl,ob⟩:=ae.oslen (mt (mt (mt (mt (mt mh)))))
 obtain⟨bk,az,rfl,oc⟩:=ae.oslen (mt (mt (mt (mt (mt (mt mh))))))
 obtain⟨cp,bl,rfl,od⟩:=ae.oslen (mt mh)
 obtain rfl:Value.agg #[.string c.Name,(.slice af c.Owners.length G),vI c.Cells,(.slice ag c.Places.length H),(.slice ah c.Links.length I),(.slice ai c.Towns.length J),(.slice aj c.Gauges.length K),(.slice ak c.Roads.length M),(.slice am c.Shelters.length Q),(.slice an c.Room.length U),vI c.Err,(.slice ao d.Rain.length V),(.slice ap d.Faults.length W),(.slice aq d.Cmds.length Y),(.slice ar d.Takes.length Z),(.slice au d.Swaps.length ab),vI g.Hour,(.slice cl g.Own.length bf),(.slice bg g.Rem.length ay),(.slice cm g.Queue.length bh),(.slice cn g.Gates.length bi),(.slice co g.In.length bj),(.slice bk g.Out.length az),vN,(.slice cp (List.replicate ((↑c.Places.length:Int):Int).toNat (0:Int)).length bl),vN]=ej:=((by rw[dh,←hj,←hk,←hl,←hm];rfl:ej=Value.agg #[.string c.Name,(.slice af c.Owners.length G),vI c.Cells,(.slice ag c.Places.length H),(.slice ah c.Links.length I),(.slice ai c.Towns.length J),(.slice aj c.Gauges.length K),(.slice ak c.Roads.length M),(.slice am c.Shelters.length Q),(.slice an c.Room.length U),vI c.Err,(.slice ao d.Rain.length V),(.slice ap d.Faults.length W),(.slice aq d.Cmds.length Y),(.slice ar d.Takes.length Z),(.slice au d.Swaps.length ab),vI g.Hour,(.slice cl g.Own.length bf),(.slice bg g.Rem.length ay),(.slice cm g.Queue.length bh),(.slice cn g.Gates.length bi),(.slice co g.In.length bj),(.slice bk g.Out.length az),vN,(.slice cp (List.replicate ((↑c.Places.length:Int):Int).toNat (0:Int)).length bl),vN])).symm
 refine Du (vs:=[.string c.Name,(.slice af c.Owners.length G),vI c.Cells,(.slice ag c.Places.length H),(.slice ah c.Links.length I),(.slice ai c.Towns.length J),(.slice aj c.Gauges.length K),(.slice ak c.Roads.length M),(.slice am c.Shelters.length Q),(.slice an c.Room.length U),vI c.Err,(.slice ao d.Rain.length V),(.slice ap d.Faults.length W),(.slice aq d.Cmds.length Y),(.slice ar d.Takes.length Z),(.slice au d.Swaps.length ab),vI g.Hour,(.slice cl g.Own.length bf),(.slice bg g.Rem.length ay),(.slice cm g.Queue.length bh),(.slice cn g.Gates.length bi),(.slice co g.In.length bj),(.slice bk g.Out.length az),vN,(.slice cp (List.replicate ((↑c.Places.length:Int):Int).toNat (0:Int)).length bl),vN]) O O O O cB O ae .head O λoe hn u=>AZ (kp [9,6,3] O) (WF.sl ?_)
 have ho:=hn.nil BH 50
 have hp:=ho.nil Ap 60
 have hq:=hp.sel [2,3,3,3,3,3,1,1,0,0] 0 O
 have e0:=el.mono' u
 have e1:=em.mono' u
 have e2:=en.mono' u
 have e3:=eo.mono' u
 have e4:=ep.mono' u
 have e6:=eq.mono' u
 have e7:=er.mono' u
 have e8:=es.mono' u
 have e9:=et.mono' u
 have fb:=eu.mono' u
 have fc:=ew.mono' u
 have fd:=ey.mono' u
 have fe:=ez.mono' u
 have ff:=ek.mono' u
 obtain⟨dj,ht,E⟩:=bd E
 refine Cv O O O fP O (NB (p0_w:=(⟨c,d,g,([]:List Ak),(List.replicate ((↑c.Places.length:Int):Int).toNat (0:Int)),([]:List Al)⟩:Aq)) hq b2 e0 b3 e1 e2 e3 e4 e6 e7 e8 b4 e9 fb fc fd fe b0 ff ht) λog oh oi y p=>?_
 obtain⟨oj,rfl,hu⟩:=p
 refine AZ (kp [9,6,3] O) (WF.sl ?_)
 have fg:=e0.mono' y
 have fh:=e1.mono' y
 have fi:=e2.mono' y
 have fj:=e3.mono' y
 have fk:=e4.mono' y
 have fl:=e6.mono' y
 have fm:=e7.mono' y
 have fn:=e8.mono' y
 have fo:=e9.mono' y
 have fp:=fb.mono' y
 have fq:=fc.mono' y
 have fr:=fd.mono' y
 have fs:=fe.mono' y
 have ft:=ff.mono' y
 obtain⟨j0,hv,E⟩:=bd E
 refine Cv O O O fO O (NA (p0_w:=(⟨c,d,({ g with Gates:=dj}:Aj),([]:List Ak),(List.replicate ((↑c.Places.length:Int):Int).toNat (0:Int)),([]:List Al)⟩:Aq)) hu b2 fg b3 fh fi fj fk fl fm fn b4 fo fp fq fr fs b0 ft hv) λok ol om z p=>?_
 obtain⟨oo,rfl,hx⟩:=p
 refine AZ (kp [9,6,3] O) (WF.sl ?_)
 have fu:=fg.mono' z
 have fv:=fh.mono' z
 have fw:=fi.mono' z
 have fx:=fj.mono' z
 have fy:=fk.mono' z
 have f0:=fl.mono' z
 have f1:=fm.mono' z
 have f2:=fn.mono' z
 have f3:=fo.mono' z
 have f4:=fp.mono' z
 have f5:=fq.mono' z
 have f6:=fr.mono' z
 have f7:=fs.mono' z
 have f8:=ft.mono' z
 obtain⟨ac,hy,E⟩:=bd E
 refine Cv O O O fN O (NS (p0_w:=(⟨c,d,(⟨g.Hour,j0,g.Rem,g.Queue,dj,g.In,g.Out⟩:Aj),([]:List Ak),(List.replicate ((↑c.Places.length:Int):Int).toNat (0:Int)),([]:List Al)⟩:Aq)) hx b2 fu b3 fv fw fx fy f0 f1 f2 b4 f3 f4 f5 f6 f7 b0 f8 hy) λop oq os A p=>?_
 obtain⟨ot,a8,j1,rfl,h0⟩:=p
 refine AZ (kp [9,6,3] O) (WF.sl ?_)
 have f9:=fu.mono' A
 have ga:=fv.mono' A
 have gb:=fw.mono' A
 have gc:=fx.mono' A
 have gd:=fy.mono' A
 have ge:=f0.mono' A
 have gf:=f1.mono' A
 have gg:=f2.mono' A
 have gh:=f3.mono' A
 have gi:=f4.mono' A
 have gj:=f5.mono' A
 have gk:=f6.mono' A
 have gl:=f7.mono' A
 obtain⟨s,h4,E⟩:=bd E
 refine Cv O O O fM O (Ld (p0_w:=(⟨c,d,(⟨g.Hour,ac.1,g.Rem,g.Queue,dj,ac.2.1,g.Out⟩:Aj),ac.2.2,(List.replicate ((↑c.Places.length:Int):Int).toNat (0:Int)),([]:List Al)⟩:Aq)) h0 b2 f9 b3 ga gb gc gd ge gf gg b4 gh gi gj gk gl b0 (f8.mono' A) h4) λou dk dl C p=>?_
 obtain⟨j2,cx,a9,ba,rfl,dm⟩:=p
 refine AZ (kp [9,6,3] O) (AC (AI (Ae O (k6.mono (c8.trans (c9.trans (c6.trans ((SX.ext k.1 bz (Xd a2)).trans (u.trans (y.trans (z.trans (A.trans C))))))))) BP C1 O λov j3=>Ao A9 dm.1 O j3 F7 O λox j4=>An O j4 FA O λoy=>AA O (AN (kp [27,26,9,6] O) (Am (λa w=>∃(b5:Value) (a5:List (List Int)) (b6:Value) (a6:List Int) (b7:Value) (a7:List Int) (b8:Value) (b9:List Ak) (ca:Value) (ad:List Al),IV B dk dl (53,[]) a w [(9,vP b1 0),(6,vP da 0)] (OS (AM.sl AM.int) 29 b5 a5::OS AM.int 3 b6 a6::OS AM.int 3 b7 a7::OS BH 50 b8 b9::OS Ap 60 ca ad::Bx b1 84 [.string c.Name,(.slice af c.Owners.length G),vI c.Cells,(.slice ag c.Places.length H),(.slice ah c.Links.length I),(.slice ai c.Towns.length J),(.slice aj c.Gauges.length K),(.slice ak c.Roads.length M),(.slice am c.Shelters.length Q),(.slice an c.Room.length U),vI c.Err,(.slice ao d.Rain.length V),(.slice ap d.Faults.length W),(.slice aq d.Cmds.length Y),(.slice ar d.Takes.length Z),(.slice au d.Swaps.length ab),vI g.Hour,b5,b6,cx,a9,a8,b7,b8,ba,ca]::OS Ap 60 cx s.2.1::OS BJ 69 a9 s.2.2.1::OS AM.int 3 a8 ac.2.1::OS AM.int 3 ba s.2.2.2::Bx da 36 [vI 0,vN,vN,vN,vN,vN,vN]::L) λ_ _=>FY N g ac s a5 a6 a7 b9 ad=some r) ?_ ?_)))))
 ·refine A5 (λn1=>λa w=>∃(cb:Int) (cy:Value) (cc:List (List Int)) (cz:Value) (cd:List Int) (c0:Value) (ce:List Int) (c1:Value) (cf:List Ak) (c2:Value) (cg:List Al),IV B dk dl (53,[]) a w [(26,vI (↑c.Places.length:Int)),(9,vP b1 0),(6,vP da 0),(27,vI cb)] (OS (AM.sl AM.int) 29 cy cc::OS AM.int 3 cz cd::OS AM.int 3 c0 ce::OS BH 50 c1 cf::OS Ap 60 c2 cg::Bx b1 84 [.string c.Name,(.slice af c.Owners.length G),vI c.Cells,(.slice ag c.Places.length H),(.slice ah c.Links.length I),(.slice ai c.Towns.length J),(.slice aj c.Gauges.length K),(.slice ak c.Roads.length M),(.slice am c.Shelters.length Q),(.slice an c.Room.length U),vI c.Err,(.slice ao d.Rain.length V),(.slice ap d.Faults.length W),(.slice aq d.Cmds.length Y),(.slice ar d.Takes.length Z),(.slice au d.Swaps.length ab),vI g.Hour,cy,cz,cx,a9,a8,c0,c1,ba,c2]::OS Ap 60 cx s.2.1::OS BJ 69 a9 s.2.2.1::OS AM.int 3 a8 ac.2.1::OS AM.int 3 ba s.2.2.2::Bx da 36 [vI 0,vN,vN,vN,vN,vN,vN]::L) λ_ _=>AH cb∧FX N c d g ac s (FY N g ac s) n1 cb cc cd ce cf cg=some r) N ?_ ?_ ?_
  ·intro aa ww hf hw
   have h5:=dm.sel [1,1,4,4,5,0,0,0,0,0,0] 0 O
   exact⟨0,j2,s.1,(.slice bg g.Rem.length ay),g.Rem,(.slice bk g.Out.length az),g.Out,j1,ac.2.2,((vN)),([]:List Al),_,_,hf.sub (kp [26,9,6,27] O),hw,h5,(CA.refl dk dl),(iq (n:=0) O),E⟩
  ·rintro aa ww ⟨_,_,_,_,_,_,_,_,_,_,_,_,_,_,_,_,_,_,E⟩
   rw[FX] at E;cases E
  rintro n1 aa ww ⟨cb,cy,cc,cz,cd,c0,ce,c1,cf,c2,cg,oz,o0,hf,hw,dn,D,j5,E⟩
  refine Ac ?_ hf hw
  clear hf hw ww aa
  rw[FX] at E
  refine AI (Ar O (AN (kp [28,26,9,6,27] O) (AC (AW O E (λj6 E=>?_) (λj6 E=>?_)))))
  ·refine AQ (AC (BB (AI (AA O (AK O (kp [10,26,9,6,27] O) (D3 (AG 1 (AA O (AF ?_)))))))))
   have h6:=dn.sel [5,0,0,3,3,3,0,0,1,0,0] 0 O
   obtain⟨ch,h7,E⟩:=bd E
   refine Cv O O O fL O (NC (p0_w:=(⟨c,d,(⟨g.Hour,cc,cd,s.2.1,s.2.2.1,ac.2.1,ce⟩:Aj),cf,s.2.2.2,cg⟩:Aq)) h6 b2 (f9.mono' (C.trans D)) b3 (ga.mono' (C.trans D)) (gb.mono' (C.trans D)) (gc.mono' (C.trans D)) (gd.mono' (C.trans D)) (ge.mono' (C.trans D)) (gf.mono' (C.trans D)) (gg.mono' (C.trans D)) b4 (gh.mono' (C.trans D)) (gi.mono' (C.trans D)) (gj.mono' (C.trans D)) (gk.mono' (C.trans D)) (gl.mono' (C.trans D)) b0 j5 h7) λo3 o4 o5 j7 p=>?_
   obtain⟨j8,j9,ka,kb,kc,rfl,h8⟩:=p
   refine AZ (kp [26,9,6,27] O) (BO (BZ (.inl O) (Ai O (AA O (AN (kp [27,26,9,6] O) (WF.nil (λaa ww hf hw=>?_)))))))
   have h9:=h8.sel [1,1,4,4,5,0,0,0,0,0,0] 0 O
   exact⟨(BD (cb+1)),j8,ch.1,j9,ch.2.1,ka,ch.2.2.1,kb,ch.2.2.2.1,kc,ch.2.2.2.2,_,_,hf.sub (kp [26,9,6,27] O),hw,h9,(D.trans j7),(BK _),E⟩
  refine BC O (λaa ww hf hw=>?_)
  exact⟨cy,cc,cz,cd,c0,ce,c1,cf,c2,cg,_,_,hf.sub (kp [9,6] O),hw,dn,D,E⟩
 rintro aa ww ⟨b5,a5,b6,a6,b7,a7,b8,b9,ca,ad,o6,o7,hf,hw,bm,kd,E⟩
 refine Ac ?_ hf hw
 clear hf hw ww aa
 rw[FY] at E
 refine WF.sl (AG 5 (AD Cb O (AD G2 O (AS A9 bm O (mt (mt (mt (mt (mt mh))))) O I3 O (AD Ra O (AS A9 bm O (mt (mt (mt (mt (mt mh))))) O I3 O (AF ?_)))))))
 obtain⟨ia,E⟩:=Lr E
 refine JJ (r:=Ap) (l:=s.2.1) (xs:=ad) O O NN O (St.src bm (mt (mt (mt (mt mh))))) O ia O bm (λ_=>(.tail (.tail (.tail (.tail (.tail (.tail .head))))))) λo8 o9 dp ke=>AG 2 (AD Cb O (AD G2 O (AF ?_)))
 obtain⟨aw,av,rfl,pa⟩:=dp.oslen (mt (mt (mt (mt (mt (mt mh))))))
 refine H6 (vs:=[(.slice aw (s.2.1++ad).length av)]) (cs':=[.string c.Name,(.slice af c.Owners.length G),vI c.Cells,(.slice ag c.Places.length H),(.slice ah c.Links.length I),(.slice ai c.Towns.length J),(.slice aj c.Gauges.length K),(.slice ak c.Roads.length M),(.slice am c.Shelters.length Q),(.slice an c.Room.length U),vI c.Err,(.slice ao d.Rain.length V),(.slice ap d.Faults.length W),(.slice aq d.Cmds.length Y),(.slice ar d.Takes.length Z),(.slice au d.Swaps.length ab),vI g.Hour,b5,b6,(.slice aw (s.2.1++ad).length av),a9,a8,b7,b8,ba,ca]) O O O O I3 O dp (.tail (.tail (.tail (.tail (.tail .head))))) O O λpb dq kf=>AZ (kp [9,6] O) (WF.sl (AG 6 (AD Cb O (AD HK O (AS A9 dq O (mt (mt (mt (mt (mt mh))))) O Ag O (Ai O (AD Cb O (AD HK O (AF (H6 (vs:=[vI (BD (g.Hour+1))]) (cs':=[.string c.Name,(.slice af c.Owners.length G),vI c.Cells,(.slice ag c.Places.length H),(.slice ah c.Links.length I),(.slice ai c.Towns.length J),(.slice aj c.Gauges.length K),(.slice ak c.Roads.length M),(.slice am c.Shelters.length Q),(.slice an c.Room.length U),vI c.Err,(.slice ao d.Rain.length V),(.slice ap d.Faults.length W),(.slice aq d.Cmds.length Y),(.slice ar d.Takes.length Z),(.slice au d.Swaps.length ab),vI (BD (g.Hour+1)),b5,b6,(.slice aw (s.2.1++ad).length av),a9,a8,b7,b8,ba,ca]) O O O O Ag O dq (.tail (.tail (.tail (.tail (.tail .head))))) O O λpc t kg=>AZ (kp [9,6] O) (AC ?_)))))))))))
 obtain⟨cq,bn,rfl,pd⟩:=t.oslen mh
 obtain⟨cr,bo,rfl,pe⟩:=t.oslen (mt mh)
 obtain⟨ct,bp,rfl,pf⟩:=t.oslen (mt (mt (mt (mt (mt (mt (mt mh)))))))
 obtain⟨cu,bq,rfl,pg⟩:=t.oslen (mt (mt (mt (mt (mt (mt (mt (mt mh))))))))
 obtain⟨cv,br,rfl,ph⟩:=t.oslen (mt (mt mh))
 obtain⟨dr,c3,rfl,pi⟩:=t.oslen (mt (mt (mt mh)))
 obtain⟨ds,c4,rfl,pj⟩:=t.oslen (mt (mt (mt (mt (mt (mt (mt (mt (mt mh)))))))))
 obtain⟨ib,eh,rfl,pk⟩:=t.oslen (mt (mt (mt (mt mh))))
 refine ZK (λw=>w.heap[b1]? =some (.cells ([.string c.Name,(.slice af c.Owners.length G),vI c.Cells,(.slice ag c.Places.length H),(.slice ah c.Links.length I),(.slice ai c.Towns.length J),(.slice aj c.Gauges.length K),(.slice ak c.Roads.length M),(.slice am c.Shelters.length Q),(.slice an c.Room.length U),vI c.Err,(.slice ao d.Rain.length V),(.slice ap d.Faults.length W),(.slice aq d.Cmds.length Y),(.slice ar d.Takes.length Z),(.slice au d.Swaps.length ab),vI (BD (g.Hour+1)),(.slice cq a5.length bn),(.slice cr a6.length bo),(.slice aw (s.2.1++ad).length av),(.slice ct s.2.2.1.length bp),(.slice cu ac.2.1.length bq),(.slice cv a7.length br),(.slice dr b9.length c3),(.slice ds s.2.2.2.length c4),(.slice ib ad.length eh)]:List Value).toArray 84 (0,0))) mo (Tn 0 O (by kernel_rfl) (λw hw=>t.bxW (mt (mt (mt (mt (mt mh))))) hw) O Cb O (QB 1 (vs:=[vI (BD (g.Hour+1)),(.slice cq a5.length bn),(.slice cr a6.length bo),(.slice aw (s.2.1++ad).length av),(.slice ct s.2.2.1.length bp),(.slice cu ac.2.1.length bq),(.slice cv a7.length br)]) O (by kernel_rfl) (λw hw=>t.bxW (mt (mt (mt (mt (mt mh))))) hw) O (λw hw=>hw) O O HI O O (Tn 2 O (by kernel_rfl) (λw hw=>t.bxW (mt (mt (mt (mt (mt mh))))) hw) O Nu O (QB 3 (vs:=[(.slice dr b9.length c3)]) O (by kernel_rfl) (λw hw=>t.bxW (mt (mt (mt (mt (mt mh))))) hw) O (λw hw=>hw) O O SE O O (Tn 4 O (by kernel_rfl) (λw hw=>t.bxW (mt (mt (mt (mt (mt mh))))) hw) O Jx O (QB 5 (vs:=[(.slice ds s.2.2.2.length c4)]) O (by kernel_rfl) (λw hw=>t.bxW (mt (mt (mt (mt (mt mh))))) hw) O (λw hw=>hw) O O BW O O (Yi 6 O O (by kernel_rfl) (Du (vs:=[vI (BD (g.Hour+1)),(.slice cq a5.length bn),(.slice cr a6.length bo),(.slice aw (s.2.1++ad).length av),(.slice ct s.2.2.1.length bp),(.slice cu ac.2.1.length bq),(.slice cv a7.length br)]) O O O O HI O t (.tail (.tail (.tail (.tail (.tail (.tail (.tail (.tail (.tail (.tail .head)))))))))) O λpl bs kh=>Uo (λw hw=>bs.bxW (mt (mt (mt (mt (mt mh))))) hw) (XU 7 O (by kernel_rfl) (λw hw=>bs.bxW (mt (mt (mt (mt (mt mh))))) hw) O O (XU 8 O (by kernel_rfl) (λw hw=>bs.bxW (mt (mt (mt (mt (mt mh))))) hw) O O (Up (by kernel_rfl) (kp [8,7,6] O) (Ad (λaa ww hf hw=>?_)))))))))))))
 obtain⟨pm,ic,ki,kj⟩:=bs.pubs .head
 obtain⟨pn,id,gm,kk⟩:=ic.pubs .head
 obtain⟨po,ie,dt,kl⟩:=id.pubs (.tail (.tail (.tail (.tail .head))))
 obtain⟨pp,ig,c5,km⟩:=ie.pubs (.tail (.tail (.tail (.tail .head))))
 obtain⟨pq,ih,ci,kn⟩:=ig.pubs (.tail (.tail (.tail (.tail .head))))
 obtain⟨pr,ii,bb,ko⟩:=ih.pubs .head
 have du:=ii.sel [0,2,2] 2 O
 have ij:=du.drop (.tail (.tail .head))
 cases E
 exact KH hf O hw (IK (XX hf hw du O (mt (mt mh)) HI O) (IK (I1 hf (v:=_) O) (IK (I1 hf (v:=_) O) KG))) O (e5.trans (c8.trans (c9.trans (c6.trans ((SX.ext k.1 bz (Xd a2)).trans (u.trans (y.trans (z.trans (A.trans (C.trans (kd.trans (ke.trans (kf.trans (kg.trans (kh.trans (ki.trans (gm.trans (dt.trans (c5.trans (ci.trans bb)))))))))))))))))))) ⟨_,_,_,O,(CO.mk (x:=(⟨(BD (g.Hour+1)),a5,a6,(s.2.1++ad),s.2.2.1,ac.2.1,a7⟩:Aj)) (BK _) (kj.mono' (gm.trans (dt.trans (c5.trans (ci.trans bb))))) (kk.mono' (dt.trans (c5.trans (ci.trans bb)))) (kl.mono' (c5.trans (ci.trans bb))) (km.mono' (ci.trans bb)) (kn.mono' bb) ko),ij⟩
end Go.Proofs.YtblcgjadhemlbaaGreat
