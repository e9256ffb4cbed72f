import Derived.Test.YtblcgjadhemlbaaGreatUWalk12
namespace Go.Proofs.YtblcgjadhemlbaaGreat
open Go.RowKit
set_option linter.unusedVariables false
set_option linter.unusedSimpArgs false
set_option maxRecDepth 10000
set_option maxHeartbeats 2000000
variable {N:Nat}{S:Nat→Prop}{L:List HP}{h:Av}
theorem Ov (hs:St S L h) {c:Value}{d:Dx}(u:Rd S h Bw c d) {j:Int}(y:AG j) {b:Int}(s:AG b) {r:Int×Int}(E:Is N d j b=some r):
 CG Tryz.prog 65 #[c,vI j,vI b] S h (λv S' h'=>v= .tuple #[vI r.1,vI r.2]∧AG r.1∧AG r.2∧St S' (L) h'):=by
 refine BB (l:=[c,vI j,vI b]) 51 Tryz.func65 O Tryz.ntmps65 O λB=>?_
 rw[Is] at E
 refine WF.sl (B5 O u (λe=>by cases e) O hs λq1 S2 h3 A K J=>AH 2 (AY O (AY O (AF (AZ (kp [3,1,2] O) (AD (Bl (.inl O) A (AA O (Ai O J Dx.f_Num Rh O λq7 k8=>Ah Bb A.1 O k8 Ag O λr9=>Ai O J Dx.f_Den K1 O λad M=>Ah Bb A.1 O M Ag O λQ=>?_)))))))))
 obtain⟨i,H,E⟩:=bd E
 refine H8 (v:= .tuple #[vI i.1,vI i.2.1,.bool i.2.2]) (Ψ:=AG i.1∧AG i.2.1) O O O TD O (λh' o=>(H7 (St.all h') y r9 Q H).mono λ_ _ _ _ p=>⟨p.1,⟨p.2.1,p.2.2.1⟩⟩) λU=>?_
 obtain⟨V,ae⟩:=U
 refine AA O (Bi O (Bi O (Bi O (AY O (AY O (AY O (BJ (kp [10,9,8,3,2] O) λC k x=>AD (AI (AA O (BV O (AN (kp [23,9,8,3,2] O) (AX O E (λW E=>?_) (λW E=>?_)))))))))))))
 ·refine AI (AY O (AL O (kp [7,6] O) (Ac (λF G g t=>?_))))
  cases E
  exact J9 g O t (IC (Im g (v:=_) O) (IC (Im g (v:=_) O) J8)) O (K.trans x) ⟨O,(iq (n:=0) O),(iq (n:=0) O),k⟩
 refine AT (AI (AL O (kp [11,9,8,3,2] O) (AD (AI (AA O (Gv O (AA O (AV 5 31 (.bool ((decide (0≤b))&&(decide (b<d.Den)))) ?_ ?_))))))))
 ·cases af:(decide (0≤b))
  ·exact Aa O O
  exact AB O (AA O (AB O (Ai O (J.mono x) Dx.f_Den K1 O λag X=>AB O (Ah A6 k.1 O X Ag O λah=>AB O (Aq O (AJ O (AU O)))))))
 refine AN (kp [31,11,9,8,3,2] O) (Gs (λa w=>∃(z:Int),IV B S2 C (51,[]) a w [(9,vI i.2.1),(8,vI i.1),(3,q1),(11,vI z)] (L) λ_ _=>AG z∧Hf N d i z=some r) ?_ ?_)
 ·refine AX O E (λY E=>?_) (λY E=>?_)
  ·refine BY (.inl O) (AA O (AL O (kp [11,9,8,3] O) (WF.nil (λF G g t=>?_))))
   exact⟨b,_,_,g.sub (kp [9,8,3,11] O),t,k,(B9.refl S2 C),s,E⟩
  refine AT (WF.nil (λF G g t=>?_))
  exact⟨0,_,_,g.sub (kp [9,8,3,11] O),t,k,(B9.refl S2 C),(iq (n:=0) O),E⟩
 rintro F G ⟨z,ai,aj,g,t,m,D,ak,E⟩
 refine Ad ?_ g t
 clear g t G F
 rw[Hf] at E
 refine AD (AI (AA O (AA O (Af O ?_))))
 have I:=J.mono (x.trans D)
 refine Ai O I Dx.f_Den K1 O λal Z=>Ah A6 m.1 O Z Ag O λam=>Aq O (AN (kp [38,9,8,3,11] O) (AX O E (λab E=>?_) (λab E=>?_)))
 ·refine AI (AA O (AA O (AA O (Af O (AY O (AL O (kp [7,6] O) (Ac (λF G g t=>?_))))))))
  cases E
  exact J9 g O t (IC (Im g (v:=_) O) (IC (Im g (v:=_) O) J8)) O (K.trans (x.trans D)) ⟨O,V,(BI _),m⟩
 refine AT (AD (BY (.inr ⟨mo,by kernel_rfl⟩) (AA O (Af O (AA O (AA O (Af O (Ai O I Dx.f_Den K1 O λan ac=>Ah A6 m.1 O ac Ag O λao=>Cg O (AY O (AL O (kp [7,6] O) (Ac (λF G g t=>?_))))))))))))
 cases E
 exact J9 g O t (IC (Im g (v:=_) O) (IC (Im g (v:=_) O) J8)) O (K.trans (x.trans D)) ⟨O,(BI _),(BI _),m⟩
theorem M1 {u:Nat}{p0_w:Aj}{H:Value}{I:Value}{J:Value}{K:Value}{M:Value}{Q:Value}{U:Value}{V:Value}{A:Value}{C:Value}{D:Value}{F:Value}{G:Value}{ak:Value}{t:Value}{c:Value}{d:Value}{g:Value}{am:Value}{an:Value}{j:Value}{ao:Value}(hs:St S (Bx u 84 [.string p0_w.b.Name,H,vI p0_w.b.Cells,I,J,K,M,Q,U,V,vI p0_w.b.Err,A,C,D,F,G,vI p0_w.s.Hour,ak,t,c,d,g,am,an,j,ao]::OS (AM.sl AM.int) 29 ak p0_w.s.Own::OS AM.int 3 t p0_w.s.Rem::OS Ap 60 c p0_w.s.Queue::OS A8 69 d p0_w.s.Gates::OS AM.int 3 g p0_w.s.In::OS AM.int 3 am p0_w.s.Out::OS BT 50 an p0_w.moves::OS AM.int 3 j p0_w.peaks::OS Ap 60 ao p0_w.sent::L) h) (ad:p0_w.b.Name.size≤maxLen) (ca:Sl S h AM.str H p0_w.b.Owners) (ae:AG p0_w.b.Cells) (az:Sl S h Bw I p0_w.b.Places) (cb:Sl S h Bu J p0_w.b.Links) (cc:Sl S h GL K p0_w.b.Towns) (cd:Sl S h EN M p0_w.b.Gauges) (ce:Sl S h F8 Q p0_w.b.Roads) (cf:Sl S h Cr U p0_w.b.Shelters) (cg:Sl S h AM.int V p0_w.b.Room) (ab:AG p0_w.b.Err) (bj:Sl S h AM.int A p0_w.in_.Rain) (bk:Sl S h FL C p0_w.in_.Faults) (bl:Sl S h IX D p0_w.in_.Cmds) (bm:Sl S h FX F p0_w.in_.Takes) (bn:Sl S h GM G p0_w.in_.Swaps) (ac:AG p0_w.s.Hour) {z:Int}(ap:AG z) {r:(List (List Int))×(List Int)×(List Int)×(List Ae)×(List Ao)}(E:HC N p0_w z=some r):
 CG Tryz.prog 34 #[vP u 0,vI z] S h (λv S' h'=>∃w_0_17 w_0_18 w_0_22 w_0_23 w_0_25:Value,v= .tuple #[]∧St S' (Bx u 84 [.string p0_w.b.Name,H,vI p0_w.b.Cells,I,J,K,M,Q,U,V,vI p0_w.b.Err,A,C,D,F,G,vI p0_w.s.Hour,w_0_17,w_0_18,c,d,g,w_0_22,w_0_23,j,w_0_25]::OS (AM.sl AM.int) 29 w_0_17 r.1::OS AM.int 3 w_0_18 r.2.1::OS Ap 60 c p0_w.s.Queue::OS A8 69 d p0_w.s.Gates::OS AM.int 3 g p0_w.s.In::OS AM.int 3 w_0_22 r.2.2.1::OS BT 50 w_0_23 r.2.2.2.1::OS AM.int 3 j p0_w.peaks::OS Ap 60 w_0_25 r.2.2.2.2::L) h'):=by
 refine BB (l:=[vP u 0,vI z]) 119 Tryz.func34 O Tryz.ntmps34 O λB=>?_
 rw[HC] at E
 refine WF.sl (AH 8 (AA O (CI O O (AC GC O (AC DI O (AS A6 hs O mh O GO O (AA O ?_)))))))
 obtain⟨k,i1,E⟩:=bd E
 refine BD O O az qZ i1 O λq2 k3=>B4 A6 hs.1 O k3 Jt (λe=>by cases e) O λv4 k5=>AF (Cs OR O hs λb6 h7 i2 e9=>?_)
 obtain⟨bo,bp,bq,rfl,i3,i4,i5,i6,fm,fn,i7,i8,dw,dx,i9,fo⟩:=Bw.ex (k5.mono e9)
 refine HJ (vs:=[.string k.Name,vI k.Kind,vI k.Office,vI k.Cap,bo,bp,vI k.Num,vI k.Den,vI k.Down,vI k.Delay,vI k.Floor,bq]) (cs':=[.string k.Name,vI k.Kind,vI k.Office,vI k.Cap,bo,bp,vI k.Num,vI k.Den,vI k.Down,vI k.Delay,vI k.Floor,bq]) O O O (AE O (AE O (AE O (AE O (AE fm.one (AE fn.one (AE O (AE O (AE O (AE O (AE O (AE fo.one EA)))))))))))) Jt O i2 .head O O λlg fp ai=>AZ (kp [4,0,1] O) (AD (WF.sl (AH 2 (AA O (AA O (AF ?_))))))
 have fq:=fp.sel [1,1,1,1,1,1,1,1,1,1,0] 0 O
 have fr:=ca.mono' (e9.trans ai)
 have fs:=az.mono' (e9.trans ai)
 have ft:=cb.mono' (e9.trans ai)
 have fu:=cc.mono' (e9.trans ai)
 have fv:=cd.mono' (e9.trans ai)
 have fw:=ce.mono' (e9.trans ai)
 have fx:=cf.mono' (e9.trans ai)
 have fy:=cg.mono' (e9.trans ai)
 have f0:=bj.mono' (e9.trans ai)
 have f1:=bk.mono' (e9.trans ai)
 have f2:=bl.mono' (e9.trans ai)
 have f3:=bm.mono' (e9.trans ai)
 have f4:=bn.mono' (e9.trans ai)
 obtain⟨f5,f6,E⟩:=bd E
 refine Cn O O O fS O (My (p0_w:=p0_w) fq ad fr ae fs ft fu fv fw fx fy ab f0 f1 f2 f3 f4 ac ap f6) λlh li lj aj p=>?_
 have f7:=p
 refine AH 2 (AA O (AA O (AF ?_)))
 have f8:=f7.sel [1,1,1,1,1,1,1,1,1,1,0,0] 0 O
 have c5:=fr.mono' aj
 have c6:=fs.mono' aj
 have c7:=ft.mono' aj
 have c8:=fu.mono' aj
 have c9:=fv.mono' aj
 have da:=fw.mono' aj
 have db:=fx.mono' aj
 have dc:=fy.mono' aj
 have dd:=f0.mono' aj
 have de:=f1.mono' aj
 have df:=f2.mono' aj
 have dg:=f3.mono' aj
 have dh:=f4.mono' aj
 obtain⟨f9,ga,E⟩:=bd E
 refine Cn O O O fR O (M2 (p0_w:=p0_w) f8 ad c5 ae c6 c7 c8 c9 da db dc ab dd de df dg dh ac ap ga) λll lm lo ch p=>?_
 have gb:=p
 obtain⟨lp,gc,ci,ja⟩:=gb.pubs (.tail (.tail (.tail (.tail (.tail (.tail (.tail (.tail (.tail (.tail (.tail .head)))))))))))
 obtain⟨lq,gd,br,ge⟩:=gc.pubs .head
 have gf:=ja.mono' br
 obtain⟨gg,dy,rfl,lr⟩:=(gf).len
 obtain⟨gh,dz,rfl,ls⟩:=(ge).len
 refine Dw (cs:=[(.slice gg f5.length dy),(.slice gh f9.length dz)]) aR O O O O O O O gd λlt lu gi ba=>?_
 have jb:=ge.mono' ba
 have jc:=gf.mono' ba
 have gj:=gi.bxos (r:=(AM.sl Ar)) (l:=([f5,f9]:List (List AK))) .head ⟨_,_,O,⟨_,O,jc⟩,⟨_,_,O,⟨_,O,jb⟩,O⟩⟩ (by simp [maxLen])
 obtain⟨lv,gl,cj,jd⟩:=gj.pubs .head
 obtain⟨d0,gm,E⟩:=bd E
 refine Cn O O O fT O (Gd gl jd gm) λgn d1 d2 a1 p=>?_
 have ck:=p
 refine AH 2 (JO ck mh O Ld O λjk=>AA O (AF (AZ (kp [27,26,25,4,0,1] O) (Am (λa w=>∃(a2:Value) (ar:List (List Int)) (a3:Value) (au:List Int) (a4:Value) (av:List Ae) (a5:Value) (aw:List Ao),IV B d1 d2 (119,[]) a w [(4,vP b6 0),(0,vP u 0),(1,vI z)] (OS (AM.sl AM.int) 29 a2 ar::OS AM.int 3 a3 au::OS BT 50 a4 av::OS Ap 60 a5 aw::Bx u 84 [.string p0_w.b.Name,H,vI p0_w.b.Cells,I,J,K,M,Q,U,V,vI p0_w.b.Err,A,C,D,F,G,vI p0_w.s.Hour,a2,t,c,d,g,a3,a4,j,a5]::OS AM.int 3 t p0_w.s.Rem::OS Ap 60 c p0_w.s.Queue::OS A8 69 d p0_w.s.Gates::OS AM.int 3 g p0_w.s.In::OS AM.int 3 j p0_w.peaks::Bx b6 56 [.string k.Name,vI k.Kind,vI k.Office,vI k.Cap,bo,bp,vI k.Num,vI k.Den,vI k.Down,vI k.Delay,vI k.Floor,bq]::L) λ_ _=>E6 N p0_w z k ar au av aw=some r) ?_ ?_))))
 ·refine A3 (λn1=>λa w=>∃(bb:Int) (bu:Value) (bc:List (List Int)) (bv:Value) (be:List Int) (bw:Value) (bf:List Ae) (bx:Value) (bg:List Ao),IV B d1 d2 (119,[]) a w [(26,vI (↑d0.length:Int)),(25,gn),(4,vP b6 0),(0,vP u 0),(1,vI z),(27,vI bb)] (OS (AM.sl AM.int) 29 bu bc::OS AM.int 3 bv be::OS BT 50 bw bf::OS Ap 60 bx bg::OS Ar 111 gn d0::Bx u 84 [.string p0_w.b.Name,H,vI p0_w.b.Cells,I,J,K,M,Q,U,V,vI p0_w.b.Err,A,C,D,F,G,vI p0_w.s.Hour,bu,t,c,d,g,bv,bw,j,bx]::OS AM.int 3 t p0_w.s.Rem::OS Ap 60 c p0_w.s.Queue::OS A8 69 d p0_w.s.Gates::OS AM.int 3 g p0_w.s.In::OS AM.int 3 j p0_w.peaks::Bx b6 56 [.string k.Name,vI k.Kind,vI k.Office,vI k.Cap,bo,bp,vI k.Num,vI k.Den,vI k.Down,vI k.Delay,vI k.Floor,bq]::L) λ_ _=>AG bb∧Cx N p0_w z d0 (E6 N p0_w z k) n1 bb bc be bf bg=some r) N ?_ ?_ ?_
  ·intro aa ww hf hw
   have d3:=ck.sel [2,6,6,7,0,0,0,0,0,0,0,0] 0 O
   exact⟨0,ak,p0_w.s.Own,am,p0_w.s.Out,an,p0_w.moves,ao,p0_w.sent,_,_,hf.sub (kp [26,25,4,0,1,27] O),hw,d3,(B9.refl d1 d2),(iq (n:=0) O),E⟩
  ·rintro aa ww ⟨_,_,_,_,_,_,_,_,_,_,_,_,_,_,_,_,E⟩
   rw[Cx] at E;cases E
  rintro n1 aa ww ⟨bb,bu,bc,bv,be,bw,bf,bx,bg,jl,jm,hf,hw,a8,cl,jn,E⟩
  refine Ad ?_ hf hw
  clear hf hw ww aa
  rw[Cx] at E
  refine AI (Aq O (AN (kp [28,26,25,4,0,1,27] O) (AD (AX O E (λgp E=>?_) (λgp E=>?_)))))
  ·refine AT (AD (A5 (WF.sl (AH 2 ?_))))
   obtain⟨jo,d4,E⟩:=bd E
   refine A4 a8 (mt (mt (mt (mt mh)))) O O Ld d4 O λjp d5=>?_
   obtain⟨ax,d6,E⟩:=bd E
   have gq:=a8.epAt (mt (mt (mt (mt mh)))) d6 FM.id d5
   refine B4 A6 (λ_ x=>x) O gq TS (λe=>by cases e) O λjq gr=>AF (Cs Zr O a8 λjr js d7 cm=>?_)
   obtain⟨jt,rfl,gs,gt,gu,di⟩:=Ar.ex (gr.mono cm)
   obtain⟨cn,co,rfl,je,jf⟩:=di.fnr
   refine Dh (vs:=[vI ax.to_,vI ax.delay,vI ax.way,(.func (.func cn) #[] co)]) O O O O TS O d7 .head O λju cp cq=>AZ (kp [6,26,25,4,0,1,27] O) (EQ (AH 3 (AA O (AA O (DT (vs:=[vI ax.to_,vI ax.delay,vI ax.way,(.func (.func cn) #[] co)]) A6 cp O mh O O TS O O (AF ?_))))))
   have d8:=cp.sel [6,1,5,5,5,5,1,1,3,1,0,0,0] 0 O
   have W:=ch.trans (ci.trans (br.trans (ba.trans (cj.trans (a1.trans (cl.trans (cm.trans cq)))))))
   obtain⟨bz,d9,E⟩:=bd E
   refine Cn O O O XU O (I4 (p0_w:=(⟨p0_w.b,p0_w.in_,(⟨p0_w.s.Hour,bc,p0_w.s.Rem,p0_w.s.Queue,p0_w.s.Gates,p0_w.s.In,be⟩:Ak),bf,p0_w.peaks,bg⟩:Aj)) d8 ad (c5.mono' W) ae (c6.mono' W) (c7.mono' W) (c8.mono' W) (c9.mono' W) (da.mono' W) (db.mono' W) (dc.mono' W) ab (dd.mono' W) (de.mono' W) (df.mono' W) (dg.mono' W) (dh.mono' W) ac ap (Ar.mk (x:=ax) gs gt gu (di.mono cq)) d9) λjv jw jx gv p=>?_
   obtain⟨gw,gx,gy,gz,rfl,ea⟩:=p
   refine AZ (kp [26,25,4,0,1,27] O) (BK (BY (.inl O) (Af O (AA O (AN (kp [27,26,25,4,0,1] O) (WF.nil (λaa ww hf hw=>?_)))))))
   have eb:=ea.sel [1,5,5,6,7,0,0,0,0,0,0,1] 1 O
   exact⟨(BC (bb+1)),gw,bz.1,gx,bz.2.1,gy,bz.2.2.1,gz,bz.2.2.2,_,_,hf.sub (kp [26,25,4,0,1,27] O),hw,eb,(cl.trans (cm.trans (cq.trans gv))),(BI _),E⟩
  refine A9 O (λaa ww hf hw=>?_)
  have ec:=a8.sel [0,0,0,0,1,1,1,1,1,1,1] 1 O
  exact⟨bu,bc,bv,be,bw,bf,bx,bg,_,_,hf.sub (kp [4,0,1] O),hw,ec,cl,E⟩
 rintro aa ww ⟨a2,ar,a3,au,a4,av,a5,aw,b0,dj,hf,hw,X,bh,E⟩
 refine Ad ?_ hf hw
 clear hf hw ww aa
 rw[E6] at E
 refine AD (AI (AC K1 O (AS A6 X O (mt (mt (mt (mt (mt (mt (mt (mt (mt (mt mh)))))))))) O Ag O (Bc O (AN (kp [38,4,0,1] O) (Gs (λa w=>∃(cr:Value) (b1:List (List Int)) (ct:Value) (b2:List Int) (cu:Value) (b3:List Ae) (cv:Value) (b4:List Ao) (b5:List Int),IV B b0 dj (119,[]) a w [(4,vP b6 0),(0,vP u 0),(1,vI z)] (OS (AM.sl AM.int) 29 cr b1::OS AM.int 3 ct b2::OS BT 50 cu b3::OS Ap 60 cv b4::Bx u 84 [.string p0_w.b.Name,H,vI p0_w.b.Cells,I,J,K,M,Q,U,V,vI p0_w.b.Err,A,C,D,F,G,vI p0_w.s.Hour,cr,t,c,d,g,ct,cu,j,cv]::OS AM.int 3 t b5::OS Ap 60 c p0_w.s.Queue::OS A8 69 d p0_w.s.Gates::OS AM.int 3 g p0_w.s.In::OS AM.int 3 j p0_w.peaks::Bx b6 56 [.string k.Name,vI k.Kind,vI k.Office,vI k.Cap,bo,bp,vI k.Num,vI k.Den,vI k.Down,vI k.Delay,vI k.Floor,bq]::L) λ_ _=>Cy N p0_w z k b1 b2 b3 b4 b5=some r) ?_ ?_))))))
 ·refine AX O E (λg0 E=>?_) (λg0 E=>?_)
  ·refine AD (Bl (.inr ⟨mo,by kernel_rfl⟩) X (DT (vs:=[.string k.Name,vI k.Kind,vI k.Office,vI k.Cap,bo,bp,vI k.Num,vI k.Den,vI k.Down,vI k.Delay,vI k.Floor,bq]) Bb X O (mt (mt (mt (mt (mt (mt (mt (mt (mt (mt mh)))))))))) O O Jt O O (AA O (CI O O (AC Jk O (AS Bb X O (mt (mt (mt (mt mh)))) O BP O (AA O ?_)))))))
   obtain⟨jy,ed,E⟩:=bd E
   refine A4 X (mt (mt (mt (mt (mt (mt (mt (mt (mt mh))))))))) O O BG ed O λjz ee=>?_
   obtain⟨j0,ef,E⟩:=bd E
   have g1:=X.epAt (mt (mt (mt (mt (mt (mt (mt (mt (mt mh))))))))) ef FM.id ee
   refine Ah Bb (λ_ x=>x) O g1 Ag O λg2=>AA O (CI O O (AC CU O (AC Jm O (AS Bb X O (mt (mt (mt (mt mh)))) O BP O (AA O ?_)))))
   obtain⟨j1,eg,E⟩:=bd E
   refine A4 X (mt (mt (mt (mt (mt mh))))) O O BG eg O λj2 eh=>?_
   obtain⟨j3,ei,E⟩:=bd E
   have g3:=X.epAt (mt (mt (mt (mt (mt mh))))) ei FM.id eh
   refine Ah Bb (λ_ x=>x) O g3 Ag O λg4=>?_
   have bs:=ai.trans (aj.trans (ch.trans (ci.trans (br.trans (ba.trans (cj.trans (a1.trans bh)))))))
   obtain⟨ag,ej,E⟩:=bd E
   refine H8 (v:= .tuple #[vI ag.1,vI ag.2]) (Ψ:=AG ag.1∧AG ag.2) O O O fQ O (λh' o=>(Ov (St.all h') (Bw.mk (x:=k) i3 i4 i5 i6 ((fm.mono' bs).mono' (o.all X.1)) ((fn.mono' bs).mono' (o.all X.1)) i7 i8 dw dx i9 ((fo.mono' bs).mono' (o.all X.1))) g2 g4 ej).mono λ_ _ _ _ p=>⟨p.1,⟨p.2.1,p.2.2.1⟩⟩) λg5=>?_
   obtain⟨g6,g7⟩:=g5
   refine AA O (Bi O (Bi O (AY O (AY O (BJ (kp [8,7,4,0,1] O) λj4 bt dk=>WF.sl (AH 7 (AA O (CI O O (AC CU O (AC Jm O (AS A6 bt O (mt (mt (mt (mt mh)))) O BP O (AA O ?_))))))))))))
   obtain⟨j5,ek,E⟩:=bd E
   refine A4 bt (mt (mt (mt (mt (mt mh))))) O O BG ek O λj6 el=>AF ?_
   obtain⟨g8,em,E⟩:=bd E
   refine En (r:=AM.int) (l:=p0_w.s.Rem) (i:=z) (x:=g8) O O (⟨_,O,O,(iq (n:=0) O)⟩:Rd _ _ AM.int _ 0) el em Lq.id Ag (λ_=>rfl) bt (.tail (.tail (.tail (.tail (.tail .head))))) λj7 ay dl=>AZ (kp [8,7,4,0,1] O) (AD (AD (Bl (.inl O) ay (AA O (CI O O (AC CU O (AC D4 O (AS Bb ay O (mt (mt (mt (mt mh)))) O HN O (AA O ?_)))))))))
   obtain⟨j8,en,E⟩:=bd E
   refine A4 ay mh O O FO en O λj9 eo=>?_
   obtain⟨ka,ep,E⟩:=bd E
   have g9:=ay.epAt mh ep FM.id eo
   refine An Bb (λ_ x=>x) O g9 BP O λkb ha=>?_
   obtain⟨kc,eq,E⟩:=bd E
   refine CE O O O NC O (λh' o=>Ef (St.all h') (ha.mono' (o.all ay.1)) eq) λhb=>?_
   have kd:=hb
   refine AA O (Gv O (BJ (kp [76,8,7,4,0,1] O) λdm a9 dn=>Gs (λa w=>∃(bi:List Int),IV B b0 dm (119,[]) a w [(7,vI ag.1),(4,vP b6 0),(0,vP u 0),(1,vI z)] (OS (AM.sl AM.int) 29 a2 ar::OS AM.int 3 a3 au::OS BT 50 a4 av::OS Ap 60 a5 aw::Bx u 84 [.string p0_w.b.Name,H,vI p0_w.b.Cells,I,J,K,M,Q,U,V,vI p0_w.b.Err,A,C,D,F,G,vI p0_w.s.Hour,a2,t,c,d,g,a3,a4,j,a5]::OS AM.int 3 t bi::OS Ap 60 c p0_w.s.Queue::OS A8 69 d p0_w.s.Gates::OS AM.int 3 g p0_w.s.In::OS AM.int 3 j p0_w.peaks::Bx b6 56 [.string k.Name,vI k.Kind,vI k.Office,vI k.Cap,bo,bp,vI k.Num,vI k.Den,vI k.Down,vI k.Delay,vI k.Floor,bq]::L) λ_ _=>E5 N p0_w z k ar au av aw ag (Cy N p0_w z k) bi=some r) ?_ ?_))
   ·refine AX O E (λhc E=>?_) (λhc E=>?_)
    ·refine EQ (AH 8 (AA O (CI O O (AC CU O (AC Jm O (AS A6 a9 O (mt (mt (mt (mt mh)))) O BP O (AA O (AA O ?_))))))))
     obtain⟨ke,er,E⟩:=bd E
     refine A4 a9 (mt (mt (mt (mt (mt mh))))) O O BG er O λkf es=>AF ?_
     obtain⟨hd,et,E⟩:=bd E
     refine En (r:=AM.int) (l:=(upd p0_w.s.Rem z 0)) (i:=z) (x:=hd) O O (⟨_,O,O,g7⟩:Rd _ _ AM.int _ ag.2) es et Lq.id Ag (λ_=>rfl) a9 (.tail (.tail (.tail (.tail (.tail .head))))) λkg eu he=>AZ (kp [7,4,0,1] O) (WF.nil (λaa ww hf hw=>?_))
     exact⟨(upd (upd p0_w.s.Rem z 0) z ag.2),_,_,hf.sub (kp [7,4,0,1] O),hw,eu,he,E⟩
    refine AT (WF.nil (λaa ww hf hw=>?_))
    exact⟨(upd p0_w.s.Rem z 0),_,_,hf.sub (kp [7,4,0,1] O),hw,a9,(B9.refl b0 dm),E⟩
   rintro aa ww ⟨bi,dp,dq,hf,hw,ah,dr,E⟩
   refine Ad ?_ hf hw
   clear hf hw ww aa
   rw[E5] at E
   obtain⟨a6,ev,E⟩:=bd E
   refine ND (m:=[(7,vI ag.1),(4,vP b6 0),(0,vP u 0),(1,vI z)]) 9 (λi v hh=>match i with|0=>v=vP u 0|1=>v=vI z∧AG z|2=>v=vP b6 8|3=>v=vI k.Down∧AG k.Down|4=>v=vP b6 9|5=>v=vI k.Delay∧AG k.Delay|6=>v=vI ag.1∧AG ag.1|7=>Rd (SN dp dq hh) hh (AM.fnr Tryz.prog (λS h vs (x:(List Int))=>∃w0:Value,vs=[w0]∧Sl S h AM.int w0 x) (λS h v (y:((List Int)×(List Int)))=>∃w0 w1:Value,v= .tuple #[w0,w1]∧Sl S h AM.int w0 y.1∧Sl S h AM.int w1 y.2)) v (λx=>Ab N a6 x)|8=>Rd (SN dp dq hh) hh Ar v (⟨k.Down,k.Delay,(-1),(λx=>Ab N a6 x)⟩:AK)|_=>False) [[],[],[],[(2,87)],[],[(4,89)],[],[(6,91)],[(3,88),(5,90),(7,92)]] [(0,85),(1,86),(8,93)] mo (by kernel_rfl) [7,4,0,1] O (by kernel_rfl) (by kernel_rfl) (by kernel_rfl) (kp [7,4,0,1] O) (λi v h1 h2 o1 o2 hr=>?_) ?_ ?_
   ·match i,hr with
     |0,hr|1,hr|2,hr|3,hr|4,hr|5,hr|6,hr=>exact hr
     |7,hr|8,hr=>exact Rd.mono hr (SN.mono ah.1 o1 o2)
     |_+9,hr=>exact hr.elim
   ·refine A0.cons O (λ_ _ _=>AH 1 (AA O (AO O))) (A0.cons O (λ_ _ _=>AH 1 (AA O (AO ⟨O,ap⟩))) (A0.cons O (λ_ _ _=>AH 1 (AC PK O (AO O))) (A0.cons O (λ_ _ o _ hg=>by cases hg;exact AH 1 (AS A6 (o.st ah) O (mt (mt (mt (mt (mt (mt (mt (mt (mt (mt mh)))))))))) O Ag O (AO ⟨O,dw⟩))) (A0.cons O (λ_ _ _=>AH 1 (AC Rg O (AO O))) (A0.cons O (λ_ _ o _ hi=>by cases hi;exact AH 1 (AS A6 (o.st ah) O (mt (mt (mt (mt (mt (mt (mt (mt (mt (mt mh)))))))))) O Ag O (AO ⟨O,dx⟩))) (A0.cons O (λ_ _ _=>AH 1 (AA O (AO ⟨O,g6⟩))) ?_))))))
    refine A0.cons O ?_ ?_
    ·intro mq hh o
     intro kh hj
     have hsN:=SN.st ah o
     obtain⟨rfl,hk⟩:=hj
     have hsF:=hsN.fz
     refine Cn O O O TE O (qQ hsF hk ev) λki hl hm hn p=>?_
     obtain⟨ds,rfl,ho,ew⟩:=p
     have ey:Rd hl hm (AM.fnr Tryz.prog (λS h vs (x:(List Int))=>∃w0:Value,vs=[w0]∧Sl S h AM.int w0 x) (λS h v (y:((List Int)×(List Int)))=>∃w0 w1:Value,v= .tuple #[w0,w1]∧Sl S h AM.int w0 y.1∧Sl S h AM.int w1 y.2)) (.func (.func 89) #[] #[ds]) (λx=>Ab N a6 x):=J6 89 #[ds] TC λS' h' s' e' L hs x y vs h1 h2=>by obtain⟨w0,rfl,a0⟩:=h1;exact Mg (HW hs a0 (ho.mono'' s' e') h2)
     have cw:=Fz.done o hn ew
     exact Cv cw.1 (Rd.mono ey cw.2)
    refine A0.cons O ?_ ?_
    ·intro mq hh o
     intro kj hp kk hq ht b7
     have hsN:=SN.st ah o
     obtain⟨rfl,hu⟩:=hp
     obtain⟨rfl,hv⟩:=hq
     have b7:Rd _ _ (AM.fnr Tryz.prog (λS h vs (x:(List Int))=>∃w0:Value,vs=[w0]∧Sl S h AM.int w0 x) (λS h v (y:((List Int)×(List Int)))=>∃w0 w1:Value,v= .tuple #[w0,w1]∧Sl S h AM.int w0 y.1∧Sl S h AM.int w1 y.2)) ht (λx=>Ab N a6 x):=b7
     refine AH 1 ?_
     obtain⟨ez,e0,rfl,jg,jh⟩:=b7.fnr
     exact Hy (cs:=[vI k.Down,vI k.Delay,vI (-1),(.func (.func ez) #[] e0)]) OC O O O (AO (Ar.mk (x:=(⟨k.Down,k.Delay,(-1),(λx=>Ab N a6 x)⟩:AK)) hu hv (iq (n:=(-1)) O) b7))
    exact trivial
   intro kl cx km hx kn hy hz cy
   have e1:=SN.st ah cx
   cases hx
   obtain⟨rfl,h0⟩:=hy
   have cy:Rd _ _ Ar hz (⟨k.Down,k.Delay,(-1),(λx=>Ab N a6 x)⟩:AK):=cy
   have e2:=e1.sel [4,0,3,3,3,3,0,0,1,0,0] 0 O
   have Y:=ch.trans (ci.trans (br.trans (ba.trans (cj.trans (a1.trans (bh.trans (dk.trans (dl.trans (dn.trans (dr.trans (SN.ext ah.1 cx)))))))))))
   obtain⟨b8,e3,E⟩:=bd E
   refine Cn O O O XU O (I4 (p0_w:=(⟨p0_w.b,p0_w.in_,(⟨p0_w.s.Hour,ar,bi,p0_w.s.Queue,p0_w.s.Gates,p0_w.s.In,au⟩:Ak),av,p0_w.peaks,aw⟩:Aj)) e2 ad (c5.mono' Y) ae (c6.mono' Y) (c7.mono' Y) (c8.mono' Y) (c9.mono' Y) (da.mono' Y) (db.mono' Y) (dc.mono' Y) ab (dd.mono' Y) (de.mono' Y) (df.mono' Y) (dg.mono' Y) (dh.mono' Y) ac h0 cy e3) λko kq kr h3 p=>?_
   obtain⟨h4,h5,h6,h8,rfl,e4⟩:=p
   refine AZ (kp [4,0,1] O) (WF.nil (λaa ww hf hw=>?_))
   have e5:=e4.sel [1,5,5,6,0,0,0,0,0,0,0] 0 O
   exact⟨h4,b8.1,h5,b8.2.1,h6,b8.2.2.1,h8,b8.2.2.2,bi,_,_,hf.sub (kp [4,0,1] O),hw,e5,(dk.trans (dl.trans (dn.trans (dr.trans ((SN.ext ah.1 cx).trans h3))))),E⟩
  refine AT (WF.nil (λaa ww hf hw=>?_))
  exact⟨a2,ar,a3,au,a4,av,a5,aw,p0_w.s.Rem,_,_,hf.sub (kp [4,0,1] O),hw,X,(B9.refl b0 dj),E⟩
 rintro aa ww ⟨cr,b1,ct,b2,cu,b3,cv,b4,b5,dt,ks,hf,hw,aq,cz,E⟩
 refine Ad ?_ hf hw
 clear hf hw ww aa
 rw[Cy] at E
 refine AD (Bl (.inr ⟨mo,by kernel_rfl⟩) aq (AA O (CI O O (AC CU O (AC D4 O (AS Bb aq O (mt (mt (mt (mt mh)))) O HN O (AA O ?_)))))))
 obtain⟨kt,e6,E⟩:=bd E
 refine A4 aq mh O O FO e6 O λku e7=>?_
 obtain⟨kv,e8,E⟩:=bd E
 have h9:=aq.epAt mh e8 FM.id e7
 refine An Bb (λ_ x=>x) O h9 BP O λkw ia=>?_
 obtain⟨c0,fa,E⟩:=bd E
 refine CE O O O NC O (λh' o=>Ef (St.all h') (ia.mono' (o.all aq.1)) fa) λib=>?_
 have kx:=ib
 refine AC Uh O (AS Bb aq O (mt (mt (mt (mt (mt (mt (mt (mt (mt (mt mh)))))))))) O Ag O (Cg O (AY O (BJ (kp [9,4,0,1] O) λdu af c1=>AI (AA O (Bh O (AN (kp [108,9,4,0,1] O) (AX O E (λic E=>?_) (λic E=>?_)))))))))
 ·obtain ⟨a7,fb,E⟩:=bd E
  refine ND (m:=[(9,vI (BC (c0-k.Cap))),(4,vP b6 0),(0,vP u 0),(1,vI z)]) 9 (λi v hh=>match i with|0=>v=vP u 0|1=>v=vI z∧AG z|2=>v=vP b6 8|3=>v=vI k.Down∧AG k.Down|4=>v=vP b6 9|5=>v=vI k.Delay∧AG k.Delay|6=>v=vI (BC (c0-k.Cap))∧AG (BC (c0-k.Cap))|7=>Rd (SN dt du hh) hh (AM.fnr Tryz.prog (λS h vs (x:(List Int))=>∃w0:Value,vs=[w0]∧Sl S h AM.int w0 x) (λS h v (y:((List Int)×(List Int)))=>∃w0 w1:Value,v= .tuple #[w0,w1]∧Sl S h AM.int w0 y.1∧Sl S h AM.int w1 y.2)) v (λx=>Ab N a7 x)|8=>Rd (SN dt du hh) hh Ar v (⟨k.Down,k.Delay,(-2),(λx=>Ab N a7 x)⟩:AK)|_=>False) [[],[],[],[(2,111)],[],[(4,113)],[],[(6,115)],[(3,112),(5,114),(7,116)]] [(0,109),(1,110),(8,117)] mo (by kernel_rfl) [9,4,0,1] O (by kernel_rfl) (by kernel_rfl) (by kernel_rfl) (kp [9,4,0,1] O) (λi v h1 h2 o1 o2 hr=>?_) ?_ ?_
  ·match i,hr with
    |0,hr|1,hr|2,hr|3,hr|4,hr|5,hr|6,hr=>exact hr
    |7,hr|8,hr=>exact Rd.mono hr (SN.mono af.1 o1 o2)
    |_+9,hr=>exact hr.elim
  ·refine A0.cons O (λ_ _ _=>AH 1 (AA O (AO O))) (A0.cons O (λ_ _ _=>AH 1 (AA O (AO ⟨O,ap⟩))) (A0.cons O (λ_ _ _=>AH 1 (AC PK O (AO O))) (A0.cons O (λ_ _ o _ ie=>by cases ie;exact AH 1 (AS A6 (o.st af) O (mt (mt (mt (mt (mt (mt (mt (mt (mt (mt mh)))))))))) O Ag O (AO ⟨O,dw⟩))) (A0.cons O (λ_ _ _=>AH 1 (AC Rg O (AO O))) (A0.cons O (λ_ _ o _ ig=>by cases ig;exact AH 1 (AS A6 (o.st af) O (mt (mt (mt (mt (mt (mt (mt (mt (mt (mt mh)))))))))) O Ag O (AO ⟨O,dx⟩))) (A0.cons O (λ_ _ _=>AH 1 (AA O (AO ⟨O,(BI _)⟩))) ?_))))))
   refine A0.cons O ?_ ?_
   ·intro mq hh o
    intro ky ih
    have hsN:=SN.st af o
    obtain⟨rfl,ii⟩:=ih
    have hsF:=hsN.fz
    refine Cn O O O TE O (qQ hsF ii fb) λkz ij ik il p=>?_
    obtain⟨dv,rfl,im,fc⟩:=p
    have fd:Rd ij ik (AM.fnr Tryz.prog (λS h vs (x:(List Int))=>∃w0:Value,vs=[w0]∧Sl S h AM.int w0 x) (λS h v (y:((List Int)×(List Int)))=>∃w0 w1:Value,v= .tuple #[w0,w1]∧Sl S h AM.int w0 y.1∧Sl S h AM.int w1 y.2)) (.func (.func 89) #[] #[dv]) (λx=>Ab N a7 x):=J6 89 #[dv] TC λS' h' s' e' L hs x y vs h1 h2=>by obtain⟨w0,rfl,a0⟩:=h1;exact Mg (HW hs a0 (im.mono'' s' e') h2)
    have c2:=Fz.done o il fc
    exact Cv c2.1 (Rd.mono fd c2.2)
   refine A0.cons O ?_ ?_
   ·intro mq hh o
    intro k0 io k1 ip ir b9
    have hsN:=SN.st af o
    obtain⟨rfl,it⟩:=io
    obtain⟨rfl,iu⟩:=ip
    have b9:Rd _ _ (AM.fnr Tryz.prog (λS h vs (x:(List Int))=>∃w0:Value,vs=[w0]∧Sl S h AM.int w0 x) (λS h v (y:((List Int)×(List Int)))=>∃w0 w1:Value,v= .tuple #[w0,w1]∧Sl S h AM.int w0 y.1∧Sl S h AM.int w1 y.2)) ir (λx=>Ab N a7 x):=b9
    refine AH 1 ?_
    obtain⟨fe,ff,rfl,ji,jj⟩:=b9.fnr
    exact Hy (cs:=[vI k.Down,vI k.Delay,vI (-2),(.func (.func fe) #[] ff)]) OC O O O (AO (Ar.mk (x:=(⟨k.Down,k.Delay,(-2),(λx=>Ab N a7 x)⟩:AK)) it iu (iq (n:=(-2)) O) b9))
   exact trivial
  intro k2 c3 k4 iv k6 iw iy c4
  have fg:=SN.st af c3
  cases iv
  obtain⟨rfl,iz⟩:=iw
  have c4:Rd _ _ Ar iy (⟨k.Down,k.Delay,(-2),(λx=>Ab N a7 x)⟩:AK):=c4
  have fh:=fg.sel [4,0,3,3,3,3,0,0,1,0,0] 0 O
  have Z:=ch.trans (ci.trans (br.trans (ba.trans (cj.trans (a1.trans (bh.trans (cz.trans (c1.trans (SN.ext af.1 c3)))))))))
  obtain⟨k7,fi,E⟩:=bd E
  refine Cn O O O XU O (I4 (p0_w:=(⟨p0_w.b,p0_w.in_,(⟨p0_w.s.Hour,b1,b5,p0_w.s.Queue,p0_w.s.Gates,p0_w.s.In,b2⟩:Ak),b3,p0_w.peaks,b4⟩:Aj)) fh ad (c5.mono' Z) ae (c6.mono' Z) (c7.mono' Z) (c8.mono' Z) (c9.mono' Z) (da.mono' Z) (db.mono' Z) (dc.mono' Z) ab (dd.mono' Z) (de.mono' Z) (df.mono' Z) (dg.mono' Z) (dh.mono' Z) ac iz c4 fi) λk8 k9 la i0 p=>?_
  obtain⟨lb,lc,le,lf,rfl,fj⟩:=p
  refine AZ Ou (WF.nil (λaa ww hf hw=>?_))
  have fk:=fj.drop (.tail (.tail (.tail (.tail (.tail (.tail (.tail (.tail (.tail (.tail .head))))))))))
  cases E
  exact J9 hf O hw J8 O (e9.trans (ai.trans (aj.trans (ch.trans (ci.trans (br.trans (ba.trans (cj.trans (a1.trans (bh.trans (cz.trans (c1.trans ((SN.ext af.1 c3).trans i0))))))))))))) ⟨_,_,_,_,_,O,fk⟩
 refine AT (WF.nil (λaa ww hf hw=>?_))
 have fl:=af.sel [4,0,3,3,3,3,0,0,1,0] 1 O
 cases E
 exact J9 hf O hw J8 O (e9.trans (ai.trans (aj.trans (ch.trans (ci.trans (br.trans (ba.trans (cj.trans (a1.trans (bh.trans (cz.trans c1))))))))))) ⟨_,_,_,_,_,O,fl⟩
theorem K6 (hs:St S L h) {bc:Value}{c:AW}(dv:Rd S h B3 bc c) {be:Value}{cw:Ak}(dw:Rd S h CJ be cw) {a0:Value}{d:Ct}(c7:Rd S h Fg a0 d) {r:Ak×(List Ae)×(List Int)}(E:Hq N c cw d=some r):
 CG Tryz.prog 11 #[bc,be,a0] S h (λv S' h'=>∃il im io:Value,v= .tuple #[il,im,io]∧Rd S' h' CJ il r.1∧St S' (OS BT 50 im r.2.1::OS AM.int 3 io r.2.2::L) h'):=by
 refine BB (l:=[bc,be,a0]) 53 Tryz.func11 O Tryz.ntmps11 O λB=>?_
 rw[Hq] at E
 refine WF.sl (B5 O dv (λe=>by cases e) O hs λq1 S2 h3 kr e5 k6=>B5 O (dw.mono e5) (λe=>by cases e) O kr λq8 S9 pt ip c8 ks=>B5 O (c7.mono (e5.trans c8)) (λe=>by cases e) O ip λkt ax pu ir c9 ku=>Cs OT O ir λda cj k c6=>AH 2 (AY O (AY O (AF (AZ (kp [6,5,4,3] O) (AD ?_))))))
 obtain⟨g,it,E⟩:=bd E
 obtain⟨iu,E⟩:=MR E
 refine Rw (m:=[(6,vP da 0),(5,kt),(4,q8),(3,q1)]) [10] [] [(8,[0,1,3,7])] (by kernel_rfl) (λgv X F i v hh=>match i with|0=>Rd ax hh B3 v c|1=>Rd ax hh Fg v d|2=>Rd ax hh CJ v cw|3=>∃w1 w2 w3 w4 w5 w6:Value,v= .agg #[vI g.Hour,w1,w2,w3,w4,w5,w6]∧AG g.Hour∧Sl (SX ax cj hh X) hh Ap w3 g.Queue∧OW ax cj X F [OO AM.int 3 29 w1 g.Own,OS AM.int 3 w2 g.Rem,OS A8 69 w4 g.Gates,OS AM.int 3 w5 g.In,OS AM.int 3 w6 g.Out] hh|4=>Pt ax hh (AM.sl Bw) v c.Places|5=>Sl ax hh Bw v c.Places|6=>v=vI (↑c.Places.length:Int)∧AG (↑c.Places.length:Int)|7=>OW ax cj X F [OS AM.int 3 v (List.replicate ((↑c.Places.length:Int):Int).toNat (0:Int))] hh|8=>v= .agg ((gv 0).cells.toList++(gv 1).cells.toList++(gv 3).cells.toList++[(vN:Value)]++[gv 7]++[(vN:Value)]).toArray|9=>∃w0:Nat,v=vP w0 0∧OW ax cj X F [Bx w0 84 [.string ByteArray.empty,vN,vI 0,vN,vN,vN,vN,vN,vN,vN,vI 0,vN,vN,vN,vN,vN,vI 0,vN,vN,vN,vN,vN,vN,vN,vN,vN]] hh|_=>False) [[],[],[],[(2,13)],[],[(4,15)],[(5,16)],[(6,17)],[(0,11),(1,12),(3,14),(7,18)],[],[]] [(0,11),(1,12),(3,14),(7,18),(8,19),(9,9)] mo (by kernel_rfl) [6,5,4,3] O (by kernel_rfl) (by kernel_rfl) (by kernel_rfl) O (kp [6,5,4,3] O) (λgv i v h1 h2 X X' F o1 o2 hF u1 u2 hr=>?_) (λgv gv' X F i v h1 hz hr=>?_) ?_ ?_ ?_
 ·match i,hr with
   |0,hr|1,hr|2,hr=>exact Rd.mono hr (o2.ext λb hb=>Nat.lt_of_lt_of_le (k.1 b hb) o1.siz)
   |3,hr=>obtain⟨w1,w2,w3,w4,w5,w6,ev,k0,k3,q⟩:=hr;exact⟨w1,w2,w3,w4,w5,w6,ev,k0,Sl.mono' k3 (SX.mono k.1 o1 o2 u1 u2),OW.mono k.1 o1 o2 hF u1 u2 q⟩
   |4,hr=>exact N5.mono hr (o2.ext λb hb=>Nat.lt_of_lt_of_le (k.1 b hb) o1.siz)
   |5,hr=>exact Sl.mono' hr (o2.ext λb hb=>Nat.lt_of_lt_of_le (k.1 b hb) o1.siz)
   |6,hr|8,hr=>exact hr
   |7,hr=>exact OW.mono k.1 o1 o2 hF u1 u2 hr
   |9,hr=>obtain⟨w0,ev,q⟩:=hr;exact⟨w0,ev,OW.mono k.1 o1 o2 hF u1 u2 q⟩
   |_+10,hr=>exact hr.elim
 ·match i,hr with
   |0,hr|1,hr|2,hr|3,hr|4,hr|5,hr|6,hr|7,hr|9,hr=>exact hr
   |8,hr=>rw[hz _ List.mem_cons_self O 0 (by decide),hz _ List.mem_cons_self O 1 (by decide),hz _ List.mem_cons_self O 3 (by decide),hz _ List.mem_cons_self O 7 (by decide)] at hr;exact hr
   |_+10,hr=>exact hr.elim
 ·exact trivial
 ·refine B7.cons O O ?_ ?_
  ·intro gv X mq hh o hX
   have hsN:=o.st k
   exact AH 1 (B4 A6 hsN.1 O (k6.mono (c8.trans (c9.trans (c6.trans (o.ext k.1))))) G8 (λe=>by cases e) O λk4 iv=>AO iv)
  refine B7.cons O O ?_ ?_
  ·intro gv X mq hh o hX
   have hsN:=o.st k
   exact AH 1 (B4 A6 hsN.1 O (ku.mono (c6.trans (o.ext k.1))) T8 (λe=>by cases e) O λk5 iw=>AO iw)
  refine B7.cons O O ?_ ?_
  ·intro gv X mq hh o hX
   have hsN:=o.st k
   exact AH 1 (B4 A6 hsN.1 O (ks.mono (c9.trans (c6.trans (o.ext k.1)))) Gj (λe=>by cases e) O λk7 iy=>AO iy)
  refine Ma O O ?_ ?_
  ·intro gv X mq hh o hX
   have hsN:=SX.fz (X:=X) k o
   intro iz a1
   obtain⟨kv,_,_,a1⟩:=a1
   have a1:=Rd.mono (S':=(SX ax cj hh X)) a1 ⟨λb hb=>(SX.ext k.1 o hX).sub b hb,λ_ _=>rfl,Nat.le_refl _⟩
   have a1:Rd _ _ CJ iz cw:=a1
   refine Cn O O O gV O (On hsN a1 it) λk8 k9 la i0 p=>?_
   obtain⟨lb,lc,le,lf,lg,lh,rfl,i1,i2,gp⟩:=p
   have hsG:=gp.pick (.tail (.tail (.tail (.tail (.tail .head)))))
   obtain⟨F185,hF186,i3,i4,i5⟩:=OW.done k.1 o hX i0 hsG
   exact Cv i3 ⟨F185,hF186,⟨_,_,_,_,_,_,O,i1,Sl.mono' i2 i4,i5⟩⟩
  refine B7.cons O O ?_ ?_
  ·intro gv X mq hh o hX
   have hsN:=o.st k
   exact AH 1 (Ai O (k6.mono (c8.trans (c9.trans (c6.trans (o.ext k.1))))) BU DI O λli i6=>AO i6)
  refine B7.cons O O ?_ ?_
  ·intro gv X mq hh o hX
   have hsN:=o.st k
   intro i7 bt
   obtain⟨kw,_,_,bt⟩:=bt
   have bt:Pt _ _ (AM.sl Bw) i7 c.Places:=bt
   exact AH 1 (An A6 hsN.1 O bt GO O λlj i8=>AO i8)
  refine B7.cons O O ?_ ?_
  ·intro gv X mq hh o hX
   have hsN:=o.st k
   intro i9 bu
   obtain⟨kx,_,_,bu⟩:=bu
   have bu:Sl _ _ Bw i9 c.Places:=bu
   exact AH 1 (Al O bu qZ O λja=>AO ⟨O,(JW ja)⟩)
  refine Ma O O ?_ ?_
  ·intro gv X mq hh o hX
   have hsN:=SX.fz (X:=X) k o
   intro ll db
   obtain⟨ky,_,_,db⟩:=db
   obtain⟨rfl,lm⟩:=db
   refine I9 (r:=AM.int) (zx:=0) FJ O ⟨O,by unfold AG;omega⟩ O O iu O O hsN λlo lp gq jb=>?_
   have hsG:=gq.pick (.tail .head)
   obtain⟨F210,hF211,jc,lq,jd⟩:=OW.done k.1 o hX jb hsG
   exact Cv jc ⟨F210,hF211,jd⟩
  refine B7.cons O O ?_ ?_
  ·intro gv X mq hh o hX
   have hsN:=o.st k
   intro je bv jf bw lr dc ls dd
   obtain⟨gr,_,_,bv⟩:=bv
   have bv:Rd _ _ B3 je c:=bv
   obtain⟨gs,_,_,bw⟩:=bw
   have bw:Rd _ _ Fg jf d:=bw
   obtain⟨gt,_,_,dc⟩:=dc
   obtain⟨lt,lu,lv,lw,lx,ly,rfl,lz,jg,bx⟩:=dc
   obtain⟨gu,dx,rfl,l0⟩:=OW.oolen bx mh
   obtain⟨gw,dy,rfl,l1⟩:=OW.oslen bx (mt mh)
   obtain⟨gx,dz,rfl,l2⟩:=jg.len
   obtain⟨gy,d0,rfl,l3⟩:=OW.oslen bx (mt (mt mh))
   obtain⟨gz,d1,rfl,l4⟩:=OW.oslen bx (mt (mt (mt mh)))
   obtain⟨g0,d2,rfl,l5⟩:=OW.oslen bx (mt (mt (mt (mt mh))))
   obtain⟨g1,_,_,dd⟩:=dd
   obtain⟨g2,d3,rfl,l6⟩:=OW.oslen dd mh
   refine AH 1 ?_
   obtain⟨l7,l8,l9,ma,mb,mc,md,me,rfl,mf,jh,mg,ji,jj,jk,jl,jm,jn,jo,mi⟩:=B3.ex bv
   obtain⟨mj,ml,mm,mn,mp,rfl,jp,jq,jr,js,jt⟩:=Fg.ex bw
   obtain⟨g3,d4,rfl,mr⟩:=(jh).len
   obtain⟨g4,d5,rfl,ms⟩:=(ji).len
   obtain⟨g5,d6,rfl,mu⟩:=(jj).len
   obtain⟨g6,d7,rfl,mv⟩:=(jk).len
   obtain⟨g7,d8,rfl,mw⟩:=(jl).len
   obtain⟨g8,d9,rfl,mx⟩:=(jm).len
   obtain⟨g9,ea,rfl,my⟩:=(jn).len
   obtain⟨ha,eb,rfl,mz⟩:=(jo).len
   obtain⟨hc,ec,rfl,m0⟩:=(jp).len
   obtain⟨hd,ed,rfl,m1⟩:=(jq).len
   obtain⟨he,ee,rfl,m2⟩:=(jr).len
   obtain⟨hg,ef,rfl,m3⟩:=(js).len
   obtain⟨hi,eg,rfl,m4⟩:=(jt).len
   exact Hy (cs:=[.string c.Name,(.slice g3 c.Owners.length d4),vI c.Cells,(.slice g4 c.Places.length d5),(.slice g5 c.Links.length d6),(.slice g6 c.Towns.length d7),(.slice g7 c.Gauges.length d8),(.slice g8 c.Roads.length d9),(.slice g9 c.Shelters.length ea),(.slice ha c.Room.length eb),vI c.Err,(.slice hc d.Rain.length ec),(.slice hd d.Faults.length ed),(.slice he d.Cmds.length ee),(.slice hg d.Takes.length ef),(.slice hi d.Swaps.length eg),vI g.Hour,(.slice gu g.Own.length dx),(.slice gw g.Rem.length dy),(.slice gx g.Queue.length dz),(.slice gy g.Gates.length d0),(.slice gz g.In.length d1),(.slice g0 g.Out.length d2),vN,(.slice g2 (List.replicate ((↑c.Places.length:Int):Int).toNat (0:Int)).length d3),vN]) dC O O O (AO (by rw[←gr,←gs,←gt,←g1];rfl))
  refine Ma O O ?_ ?_
  ·intro gv X mq hh o hX
   have hsN:=SX.fz (X:=X) k o
   refine Cs cN O hsN λm5 m6 hj ju=>?_
   have hsG:=hj.pick (.tail .head)
   obtain⟨F332,hF333,jv,m7,jw⟩:=OW.done k.1 o hX ju hsG
   exact Cv jv ⟨F332,hF333,⟨_,O,jw⟩⟩
  exact B7.skip (by kernel_rfl) (trivial)
 intro ei de kz bz a2 ck jx a3 jy a4 m8 df m9 dg ej dh na di
 obtain⟨hk,a3⟩:=a3
 obtain⟨hl,a4⟩:=a4
 obtain⟨hm,df⟩:=df
 obtain⟨hn,dg⟩:=dg
 obtain⟨k1,dh⟩:=dh
 obtain⟨k2,di⟩:=di
 obtain⟨nb,nc,nd,ne,nf,ng,rfl,b0,ek,jz⟩:=df
 obtain⟨b1,rfl,j0⟩:=di
 have ae:=(Ty.cons (Ty.cons (Ty.cons (Ty.nil k bz a2) ck (j:=3) O jz) ck (j:=7) O dg) ck (j:=9) O j0).st
 simp only[List.cons_append,List.nil_append] at ae
 have a3:=Rd.mono (S':=(SX ax cj ei (UX de))) a3 ⟨λb hb=>(SX.ext k.1 bz (Xz a2)).sub b hb,λ_ _=>rfl,Nat.le_refl _⟩
 have a3:Rd _ _ B3 jx c:=a3
 have a4:=Rd.mono (S':=(SX ax cj ei (UX de))) a4 ⟨λb hb=>(SX.ext k.1 bz (Xz a2)).sub b hb,λ_ _=>rfl,Nat.le_refl _⟩
 have a4:Rd _ _ Fg jy d:=a4
 obtain⟨nh,ni,nj,nk,nl,nm,nn,no,rfl,b2,el,b3,em,en,eo,ep,eq,er,es,b4⟩:=B3.ex a3
 obtain⟨af,G,rfl,np⟩:=(el).len
 obtain⟨ag,H,rfl,nq⟩:=(em).len
 obtain⟨ah,I,rfl,nr⟩:=(en).len
 obtain⟨ai,J,rfl,ns⟩:=(eo).len
 obtain⟨aj,K,rfl,nt⟩:=(ep).len
 obtain⟨ak,M,rfl,nu⟩:=(eq).len
 obtain⟨am,Q,rfl,nv⟩:=(er).len
 obtain⟨an,U,rfl,nw⟩:=(es).len
 obtain⟨nx,ny,nz,n0,n2,rfl,et,eu,ew,ey,ez⟩:=Fg.ex a4
 obtain⟨ao,V,rfl,n3⟩:=(et).len
 obtain⟨ap,W,rfl,n4⟩:=(eu).len
 obtain⟨aq,Y,rfl,n5⟩:=(ew).len
 obtain⟨ar,Z,rfl,n6⟩:=(ey).len
 obtain⟨au,ab,rfl,n7⟩:=(ez).len
 obtain⟨cl,bf,rfl,n8⟩:=ae.oolen (mt (mt mh))
 obtain⟨bg,ay,rfl,n9⟩:=ae.oslen (mt (mt (mt mh)))
 obtain⟨cm,bh,rfl,oa⟩:=(ek).len
 obtain⟨cn,bi,rfl,ob⟩:=ae.oslen (mt (mt (mt (mt mh))))
 obtain⟨co,bj,rfl,oc⟩:=ae.oslen (mt (mt (mt (mt (mt mh)))))
 obtain⟨bk,az,rfl,od⟩:=ae.oslen (mt (mt (mt (mt (mt (mt mh))))))
 obtain⟨cp,bl,rfl,oe⟩:=ae.oslen (mt mh)
 obtain rfl:Value.agg #[.string c.Name,(.slice af c.Owners.length G),vI c.Cells,(.slice ag c.Places.length H),(.slice ah c.Links.length I),(.slice ai c.Towns.length J),(.slice aj c.Gauges.length K),(.slice ak c.Roads.length M),(.slice am c.Shelters.length Q),(.slice an c.Room.length U),vI c.Err,(.slice ao d.Rain.length V),(.slice ap d.Faults.length W),(.slice aq d.Cmds.length Y),(.slice ar d.Takes.length Z),(.slice au d.Swaps.length ab),vI g.Hour,(.slice cl g.Own.length bf),(.slice bg g.Rem.length ay),(.slice cm g.Queue.length bh),(.slice cn g.Gates.length bi),(.slice co g.In.length bj),(.slice bk g.Out.length az),vN,(.slice cp (List.replicate ((↑c.Places.length:Int):Int).toNat (0:Int)).length bl),vN]=ej:=((by rw[dh,←hk,←hl,←hm,←hn];rfl:ej=Value.agg #[.string c.Name,(.slice af c.Owners.length G),vI c.Cells,(.slice ag c.Places.length H),(.slice ah c.Links.length I),(.slice ai c.Towns.length J),(.slice aj c.Gauges.length K),(.slice ak c.Roads.length M),(.slice am c.Shelters.length Q),(.slice an c.Room.length U),vI c.Err,(.slice ao d.Rain.length V),(.slice ap d.Faults.length W),(.slice aq d.Cmds.length Y),(.slice ar d.Takes.length Z),(.slice au d.Swaps.length ab),vI g.Hour,(.slice cl g.Own.length bf),(.slice bg g.Rem.length ay),(.slice cm g.Queue.length bh),(.slice cn g.Gates.length bi),(.slice co g.In.length bj),(.slice bk g.Out.length az),vN,(.slice cp (List.replicate ((↑c.Places.length:Int):Int).toNat (0:Int)).length bl),vN])).symm
 refine Dh (vs:=[.string c.Name,(.slice af c.Owners.length G),vI c.Cells,(.slice ag c.Places.length H),(.slice ah c.Links.length I),(.slice ai c.Towns.length J),(.slice aj c.Gauges.length K),(.slice ak c.Roads.length M),(.slice am c.Shelters.length Q),(.slice an c.Room.length U),vI c.Err,(.slice ao d.Rain.length V),(.slice ap d.Faults.length W),(.slice aq d.Cmds.length Y),(.slice ar d.Takes.length Z),(.slice au d.Swaps.length ab),vI g.Hour,(.slice cl g.Own.length bf),(.slice bg g.Rem.length ay),(.slice cm g.Queue.length bh),(.slice cn g.Gates.length bi),(.slice co g.In.length bj),(.slice bk g.Out.length az),vN,(.slice cp (List.replicate ((↑c.Places.length:Int):Int).toNat (0:Int)).length bl),vN]) O O O O cY O ae .head O λog ho u=>AZ (kp [9,6,3] O) (WF.sl ?_)
 have hp:=ho.nil BT 50
 have hq:=hp.nil Ap 60
 have ht:=hq.sel [2,3,3,3,3,3,1,1,0,0] 0 O
 have e0:=el.mono' u
 have e1:=em.mono' u
 have e2:=en.mono' u
 have e3:=eo.mono' u
 have e4:=ep.mono' u
 have e6:=eq.mono' u
 have e7:=er.mono' u
 have e8:=es.mono' u
 have e9:=et.mono' u
 have fb:=eu.mono' u
 have fc:=ew.mono' u
 have fd:=ey.mono' u
 have fe:=ez.mono' u
 have ff:=ek.mono' u
 obtain⟨dj,hu,E⟩:=bd E
 refine Cn O O O gU O (M0 (p0_w:=(⟨c,d,g,([]:List Ae),(List.replicate ((↑c.Places.length:Int):Int).toNat (0:Int)),([]:List Ao)⟩:Aj)) ht b2 e0 b3 e1 e2 e3 e4 e6 e7 e8 b4 e9 fb fc fd fe b0 ff hu) λoh oi oj y p=>?_
 obtain⟨ok,rfl,hv⟩:=p
 refine AZ (kp [9,6,3] O) (WF.sl ?_)
 have fg:=e0.mono' y
 have fh:=e1.mono' y
 have fi:=e2.mono' y
 have fj:=e3.mono' y
 have fk:=e4.mono' y
 have fl:=e6.mono' y
 have fm:=e7.mono' y
 have fn:=e8.mono' y
 have fo:=e9.mono' y
 have fp:=fb.mono' y
 have fq:=fc.mono' y
 have fr:=fd.mono' y
 have fs:=fe.mono' y
 have ft:=ff.mono' y
 obtain⟨j1,hx,E⟩:=bd E
 refine Cn O O O gT O (Mz (p0_w:=(⟨c,d,({ g with Gates:=dj}:Ak),([]:List Ae),(List.replicate ((↑c.Places.length:Int):Int).toNat (0:Int)),([]:List Ao)⟩:Aj)) hv b2 fg b3 fh fi fj fk fl fm fn b4 fo fp fq fr fs b0 ft hx) λol om oo z p=>?_
 obtain⟨op,rfl,hy⟩:=p
 refine AZ (kp [9,6,3] O) (WF.sl ?_)
 have fu:=fg.mono' z
 have fv:=fh.mono' z
 have fw:=fi.mono' z
 have fx:=fj.mono' z
 have fy:=fk.mono' z
 have f0:=fl.mono' z
 have f1:=fm.mono' z
 have f2:=fn.mono' z
 have f3:=fo.mono' z
 have f4:=fp.mono' z
 have f5:=fq.mono' z
 have f6:=fr.mono' z
 have f7:=fs.mono' z
 have f8:=ft.mono' z
 obtain⟨ac,h0,E⟩:=bd E
 refine Cn O O O gR O (NH (p0_w:=(⟨c,d,(⟨g.Hour,j1,g.Rem,g.Queue,dj,g.In,g.Out⟩:Ak),([]:List Ae),(List.replicate ((↑c.Places.length:Int):Int).toNat (0:Int)),([]:List Ao)⟩:Aj)) hy b2 fu b3 fv fw fx fy f0 f1 f2 b4 f3 f4 f5 f6 f7 b0 f8 h0) λoq os ot A p=>?_
 obtain⟨ou,a8,j2,rfl,h4⟩:=p
 refine AZ (kp [9,6,3] O) (WF.sl ?_)
 have f9:=fu.mono' A
 have ga:=fv.mono' A
 have gb:=fw.mono' A
 have gc:=fx.mono' A
 have gd:=fy.mono' A
 have ge:=f0.mono' A
 have gf:=f1.mono' A
 have gg:=f2.mono' A
 have gh:=f3.mono' A
 have gi:=f4.mono' A
 have gj:=f5.mono' A
 have gl:=f6.mono' A
 have gm:=f7.mono' A
 obtain⟨s,h5,E⟩:=bd E
 refine Cn O O O gQ O (Lc (p0_w:=(⟨c,d,(⟨g.Hour,ac.1,g.Rem,g.Queue,dj,ac.2.1,g.Out⟩:Ak),ac.2.2,(List.replicate ((↑c.Places.length:Int):Int).toNat (0:Int)),([]:List Ao)⟩:Aj)) h4 b2 f9 b3 ga gb gc gd ge gf gg b4 gh gi gj gl gm b0 (f8.mono' A) h5) λov dk dl C p=>?_
 obtain⟨j3,cx,a9,ba,rfl,dm⟩:=p
 refine AZ (kp [9,6,3] O) (AD (AI (Ai O (k6.mono (c8.trans (c9.trans (c6.trans ((SX.ext k.1 bz (Xz a2)).trans (u.trans (y.trans (z.trans (A.trans C))))))))) BU DI O λox j4=>An A6 dm.1 O j4 GO O λoy j5=>Al O j5 qZ O λoz=>AA O (AN (kp [27,26,9,6] O) (Am (λa w=>∃(b5:Value) (a5:List (List Int)) (b6:Value) (a6:List Int) (b7:Value) (a7:List Int) (b8:Value) (b9:List Ae) (ca:Value) (ad:List Ao),IV B dk dl (53,[]) a w [(9,vP b1 0),(6,vP da 0)] (OS (AM.sl AM.int) 29 b5 a5::OS AM.int 3 b6 a6::OS AM.int 3 b7 a7::OS BT 50 b8 b9::OS Ap 60 ca ad::Bx b1 84 [.string c.Name,(.slice af c.Owners.length G),vI c.Cells,(.slice ag c.Places.length H),(.slice ah c.Links.length I),(.slice ai c.Towns.length J),(.slice aj c.Gauges.length K),(.slice ak c.Roads.length M),(.slice am c.Shelters.length Q),(.slice an c.Room.length U),vI c.Err,(.slice ao d.Rain.length V),(.slice ap d.Faults.length W),(.slice aq d.Cmds.length Y),(.slice ar d.Takes.length Z),(.slice au d.Swaps.length ab),vI g.Hour,b5,b6,cx,a9,a8,b7,b8,ba,ca]::OS Ap 60 cx s.2.1::OS A8 69 a9 s.2.2.1::OS AM.int 3 a8 ac.2.1::OS AM.int 3 ba s.2.2.2::Bx da 36 [vI 0,vN,vN,vN,vN,vN,vN]::L) λ_ _=>Eh N g ac s a5 a6 a7 b9 ad=some r) ?_ ?_)))))
 ·refine A3 (λn1=>λa w=>∃(cb:Int) (cy:Value) (cc:List (List Int)) (cz:Value) (cd:List Int) (c0:Value) (ce:List Int) (c1:Value) (cf:List Ae) (c2:Value) (cg:List Ao),IV B dk dl (53,[]) a w [(26,vI (↑c.Places.length:Int)),(9,vP b1 0),(6,vP da 0),(27,vI cb)] (OS (AM.sl AM.int) 29 cy cc::OS AM.int 3 cz cd::OS AM.int 3 c0 ce::OS BT 50 c1 cf::OS Ap 60 c2 cg::Bx b1 84 [.string c.Name,(.slice af c.Owners.length G),vI c.Cells,(.slice ag c.Places.length H),(.slice ah c.Links.length I),(.slice ai c.Towns.length J),(.slice aj c.Gauges.length K),(.slice ak c.Roads.length M),(.slice am c.Shelters.length Q),(.slice an c.Room.length U),vI c.Err,(.slice ao d.Rain.length V),(.slice ap d.Faults.length W),(.slice aq d.Cmds.length Y),(.slice ar d.Takes.length Z),(.slice au d.Swaps.length ab),vI g.Hour,cy,cz,cx,a9,a8,c0,c1,ba,c2]::OS Ap 60 cx s.2.1::OS A8 69 a9 s.2.2.1::OS AM.int 3 a8 ac.2.1::OS AM.int 3 ba s.2.2.2::Bx da 36 [vI 0,vN,vN,vN,vN,vN,vN]::L) λ_ _=>AG cb∧Eg N c d g ac s (Eh N g ac s) n1 cb cc cd ce cf cg=some r) N ?_ ?_ ?_
  ·intro aa ww hf hw
   have h6:=dm.sel [1,1,4,4,5,0,0,0,0,0,0] 0 O
   exact⟨0,j3,s.1,(.slice bg g.Rem.length ay),g.Rem,(.slice bk g.Out.length az),g.Out,j2,ac.2.2,((vN)),([]:List Ao),_,_,hf.sub (kp [26,9,6,27] O),hw,h6,(B9.refl dk dl),(iq (n:=0) O),E⟩
  ·rintro aa ww ⟨_,_,_,_,_,_,_,_,_,_,_,_,_,_,_,_,_,_,E⟩
   rw[Eg] at E;cases E
  rintro n1 aa ww ⟨cb,cy,cc,cz,cd,c0,ce,c1,cf,c2,cg,o0,o3,hf,hw,dn,D,j6,E⟩
  refine Ad ?_ hf hw
  clear hf hw ww aa
  rw[Eg] at E
  refine AI (Aq O (AN (kp [28,26,9,6,27] O) (AD (AX O E (λj7 E=>?_) (λj7 E=>?_)))))
  ·refine AT (AD (A5 (AI (AA O (AL O (kp [10,26,9,6,27] O) (EQ (AH 1 (AA O (AF ?_)))))))))
   have h7:=dn.sel [5,0,0,3,3,3,0,0,1,0,0] 0 O
   obtain⟨ch,h8,E⟩:=bd E
   refine Cn O O O gP O (M1 (p0_w:=(⟨c,d,(⟨g.Hour,cc,cd,s.2.1,s.2.2.1,ac.2.1,ce⟩:Ak),cf,s.2.2.2,cg⟩:Aj)) h7 b2 (f9.mono' (C.trans D)) b3 (ga.mono' (C.trans D)) (gb.mono' (C.trans D)) (gc.mono' (C.trans D)) (gd.mono' (C.trans D)) (ge.mono' (C.trans D)) (gf.mono' (C.trans D)) (gg.mono' (C.trans D)) b4 (gh.mono' (C.trans D)) (gi.mono' (C.trans D)) (gj.mono' (C.trans D)) (gl.mono' (C.trans D)) (gm.mono' (C.trans D)) b0 j6 h8) λo4 o5 o6 j8 p=>?_
   obtain⟨j9,ka,kb,kc,kd,rfl,h9⟩:=p
   refine AZ (kp [26,9,6,27] O) (BK (BY (.inl O) (Af O (AA O (AN (kp [27,26,9,6] O) (WF.nil (λaa ww hf hw=>?_)))))))
   have ia:=h9.sel [1,1,4,4,5,0,0,0,0,0,0] 0 O
   exact⟨(BC (cb+1)),j9,ch.1,ka,ch.2.1,kb,ch.2.2.1,kc,ch.2.2.2.1,kd,ch.2.2.2.2,_,_,hf.sub (kp [26,9,6,27] O),hw,ia,(D.trans j8),(BI _),E⟩
  refine A9 O (λaa ww hf hw=>?_)
  exact⟨cy,cc,cz,cd,c0,ce,c1,cf,c2,cg,_,_,hf.sub (kp [9,6] O),hw,dn,D,E⟩
 rintro aa ww ⟨b5,a5,b6,a6,b7,a7,b8,b9,ca,ad,o7,o8,hf,hw,bm,ke,E⟩
 refine Ad ?_ hf hw
 clear hf hw ww aa
 rw[Eh] at E
 refine WF.sl (AH 5 (AC CU O (AC Jl O (AS A6 bm O (mt (mt (mt (mt (mt mh))))) O LG O (AC Rb O (AS A6 bm O (mt (mt (mt (mt (mt mh))))) O LG O (AF ?_)))))))
 obtain⟨ib,E⟩:=MR E
 refine JQ (r:=Ap) (l:=s.2.1) (xs:=ad) O O Qn O (St.src bm (mt (mt (mt (mt mh))))) O ib O bm (λ_=>(.tail (.tail (.tail (.tail (.tail (.tail .head))))))) λo9 pa dp kf=>AH 2 (AC CU O (AC Jl O (AF ?_)))
 obtain⟨aw,av,rfl,pb⟩:=dp.oslen (mt (mt (mt (mt (mt (mt mh))))))
 refine Hz (vs:=[(.slice aw (s.2.1++ad).length av)]) (cs':=[.string c.Name,(.slice af c.Owners.length G),vI c.Cells,(.slice ag c.Places.length H),(.slice ah c.Links.length I),(.slice ai c.Towns.length J),(.slice aj c.Gauges.length K),(.slice ak c.Roads.length M),(.slice am c.Shelters.length Q),(.slice an c.Room.length U),vI c.Err,(.slice ao d.Rain.length V),(.slice ap d.Faults.length W),(.slice aq d.Cmds.length Y),(.slice ar d.Takes.length Z),(.slice au d.Swaps.length ab),vI g.Hour,b5,b6,(.slice aw (s.2.1++ad).length av),a9,a8,b7,b8,ba,ca]) O O O O LG O dp (.tail (.tail (.tail (.tail (.tail .head))))) O O λpc dq kg=>AZ (kp [9,6] O) (WF.sl (AH 6 (AC CU O (AC Id O (AS A6 dq O (mt (mt (mt (mt (mt mh))))) O Ag O (Af O (AC CU O (AC Id O (AF (Hz (vs:=[vI (BC (g.Hour+1))]) (cs':=[.string c.Name,(.slice af c.Owners.length G),vI c.Cells,(.slice ag c.Places.length H),(.slice ah c.Links.length I),(.slice ai c.Towns.length J),(.slice aj c.Gauges.length K),(.slice ak c.Roads.length M),(.slice am c.Shelters.length Q),(.slice an c.Room.length U),vI c.Err,(.slice ao d.Rain.length V),(.slice ap d.Faults.length W),(.slice aq d.Cmds.length Y),(.slice ar d.Takes.length Z),(.slice au d.Swaps.length ab),vI (BC (g.Hour+1)),b5,b6,(.slice aw (s.2.1++ad).length av),a9,a8,b7,b8,ba,ca]) O O O O Ag O dq (.tail (.tail (.tail (.tail (.tail .head))))) O O λpd t kh=>AZ (kp [9,6] O) (AD ?_)))))))))))
 obtain⟨cq,bn,rfl,pe⟩:=t.oslen mh
 obtain⟨cr,bo,rfl,pf⟩:=t.oslen (mt mh)
 obtain⟨ct,bp,rfl,pg⟩:=t.oslen (mt (mt (mt (mt (mt (mt (mt mh)))))))
 obtain⟨cu,bq,rfl,ph⟩:=t.oslen (mt (mt (mt (mt (mt (mt (mt (mt mh))))))))
 obtain⟨cv,br,rfl,pi⟩:=t.oslen (mt (mt mh))
 obtain⟨dr,c3,rfl,pj⟩:=t.oslen (mt (mt (mt mh)))
 obtain⟨ds,c4,rfl,pk⟩:=t.oslen (mt (mt (mt (mt (mt (mt (mt (mt (mt mh)))))))))
 obtain⟨ic,eh,rfl,pl⟩:=t.oslen (mt (mt (mt (mt mh))))
 refine Zj (λw=>w.heap[b1]? =some (.cells ([.string c.Name,(.slice af c.Owners.length G),vI c.Cells,(.slice ag c.Places.length H),(.slice ah c.Links.length I),(.slice ai c.Towns.length J),(.slice aj c.Gauges.length K),(.slice ak c.Roads.length M),(.slice am c.Shelters.length Q),(.slice an c.Room.length U),vI c.Err,(.slice ao d.Rain.length V),(.slice ap d.Faults.length W),(.slice aq d.Cmds.length Y),(.slice ar d.Takes.length Z),(.slice au d.Swaps.length ab),vI (BC (g.Hour+1)),(.slice cq a5.length bn),(.slice cr a6.length bo),(.slice aw (s.2.1++ad).length av),(.slice ct s.2.2.1.length bp),(.slice cu ac.2.1.length bq),(.slice cv a7.length br),(.slice dr b9.length c3),(.slice ds s.2.2.2.length c4),(.slice ic ad.length eh)]:List Value).toArray 84 (0,0))) mo (Tw 0 O (by kernel_rfl) (λw hw=>t.bxW (mt (mt (mt (mt (mt mh))))) hw) O CU O (P6 1 (vs:=[vI (BC (g.Hour+1)),(.slice cq a5.length bn),(.slice cr a6.length bo),(.slice aw (s.2.1++ad).length av),(.slice ct s.2.2.1.length bp),(.slice cu ac.2.1.length bq),(.slice cv a7.length br)]) O (by kernel_rfl) (λw hw=>t.bxW (mt (mt (mt (mt (mt mh))))) hw) O (λw hw=>hw) O O Gj O O (Tw 2 O (by kernel_rfl) (λw hw=>t.bxW (mt (mt (mt (mt (mt mh))))) hw) O Nn O (P6 3 (vs:=[(.slice dr b9.length c3)]) O (by kernel_rfl) (λw hw=>t.bxW (mt (mt (mt (mt (mt mh))))) hw) O (λw hw=>hw) O O SG O O (Tw 4 O (by kernel_rfl) (λw hw=>t.bxW (mt (mt (mt (mt (mt mh))))) hw) O Jk O (P6 5 (vs:=[(.slice ds s.2.2.2.length c4)]) O (by kernel_rfl) (λw hw=>t.bxW (mt (mt (mt (mt (mt mh))))) hw) O (λw hw=>hw) O O BP O O (Y5 6 O O (by kernel_rfl) (Dh (vs:=[vI (BC (g.Hour+1)),(.slice cq a5.length bn),(.slice cr a6.length bo),(.slice aw (s.2.1++ad).length av),(.slice ct s.2.2.1.length bp),(.slice cu ac.2.1.length bq),(.slice cv a7.length br)]) O O O O Gj O t (.tail (.tail (.tail (.tail (.tail (.tail (.tail (.tail (.tail (.tail .head)))))))))) O λpm bs ki=>U2 (λw hw=>bs.bxW (mt (mt (mt (mt (mt mh))))) hw) (Xq 7 O (by kernel_rfl) (λw hw=>bs.bxW (mt (mt (mt (mt (mt mh))))) hw) O O (Xq 8 O (by kernel_rfl) (λw hw=>bs.bxW (mt (mt (mt (mt (mt mh))))) hw) O O (U3 (by kernel_rfl) (kp [8,7,6] O) (Ac (λaa ww hf hw=>?_)))))))))))))
 obtain⟨pn,id,kj,kk⟩:=bs.pubs .head
 obtain⟨po,ie,gn,kl⟩:=id.pubs .head
 obtain⟨pp,ig,dt,km⟩:=ie.pubs (.tail (.tail (.tail (.tail .head))))
 obtain⟨pq,ih,c5,kn⟩:=ig.pubs (.tail (.tail (.tail (.tail .head))))
 obtain⟨pr,ii,ci,ko⟩:=ih.pubs (.tail (.tail (.tail (.tail .head))))
 obtain⟨ps,ij,bb,kq⟩:=ii.pubs .head
 have du:=ij.sel [0,2,2] 2 O
 have ik:=du.drop (.tail (.tail .head))
 cases E
 exact J9 hf O hw (IC (Xt hf hw du O (mt (mt mh)) Gj O) (IC (Im hf (v:=_) O) (IC (Im hf (v:=_) O) J8))) O (e5.trans (c8.trans (c9.trans (c6.trans ((SX.ext k.1 bz (Xz a2)).trans (u.trans (y.trans (z.trans (A.trans (C.trans (ke.trans (kf.trans (kg.trans (kh.trans (ki.trans (kj.trans (gn.trans (dt.trans (c5.trans (ci.trans bb)))))))))))))))))))) ⟨_,_,_,O,(CJ.mk (x:=(⟨(BC (g.Hour+1)),a5,a6,(s.2.1++ad),s.2.2.1,ac.2.1,a7⟩:Ak)) (BI _) (kk.mono' (gn.trans (dt.trans (c5.trans (ci.trans bb))))) (kl.mono' (dt.trans (c5.trans (ci.trans bb)))) (km.mono' (c5.trans (ci.trans bb))) (kn.mono' (ci.trans bb)) (ko.mono' bb) kq),ik⟩
end Go.Proofs.YtblcgjadhemlbaaGreat
