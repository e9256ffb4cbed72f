import Derived.Test.YtblcgjadhemlbaaGreatTWalk12
namespace Go.Proofs.YtblcgjadhemlbaaGreat
open Go.RowKit
set_option linter.unusedVariables false
set_option linter.unusedSimpArgs false
set_option maxRecDepth 10000
set_option maxHeartbeats 2000000
variable {N:Nat}{S:Nat→Prop}{L:List HP}{h:Aw}
theorem Ow (hs:St S L h) {c:Value}{d:Dl}(u:Rd S h B1 c d) {j:Int}(y:AE j) {b:Int}(s:AE b) {r:Int×Int}(E:Iw N d j b=some r):
 CL Tryz.prog 65 #[c,vI j,vI b] S h (λv S' h'=>v= .tuple #[vI r.1,vI r.2]∧AE r.1∧AE r.2∧St S' (L) h'):=by
 refine BF (l:=[c,vI j,vI b]) 51 Tryz.func65 O Tryz.ntmps65 O λB=>?_
 rw[Iw] at E
 refine WF.sl (B3 O u (λe=>by cases e) O hs λq1 S2 h3 A K J=>AI 2 (AY O (AY O (AG (AZ (kp [3,1,2] O) (AC (Bt (.inl O) A (AA O (Af O J Dl.f_Num Rn O λq7 k8=>Ag Bg A.1 O k8 Ae O λr9=>Af O J Dl.f_Den K3 O λad M=>Ag Bg A.1 O M Ae O λQ=>?_)))))))))
 obtain⟨i,H,E⟩:=bd E
 refine IC (v:= .tuple #[vI i.1,vI i.2.1,.bool i.2.2]) (Ψ:=AE i.1∧AE i.2.1) O O O TI O (λh' o=>(IB (St.all h') y r9 Q H).mono λ_ _ _ _ p=>⟨p.1,⟨p.2.1,p.2.2.1⟩⟩) λU=>?_
 obtain⟨V,ae⟩:=U
 refine AA O (Bo O (Bo O (Bo O (AY O (AY O (AY O (BQ (kp [10,9,8,3,2] O) λC k x=>AC (AH (AA O (BZ O (AM (kp [23,9,8,3,2] O) (AX O E (λW E=>?_) (λW E=>?_)))))))))))))
 ·refine AH (AY O (AL O (kp [7,6] O) (Ad (λF G g t=>?_))))
  cases E
  exact KD g O t (IF (Ir g (v:=_) O) (IF (Ir g (v:=_) O) KC)) O (K.trans x) ⟨O,(iq (n:=0) O),(iq (n:=0) O),k⟩
 refine AO (AH (AL O (kp [11,9,8,3,2] O) (AC (AH (AA O (Gb O (AA O (AV 5 31 (.bool ((decide (0≤b))&&(decide (b<d.Den)))) ?_ ?_))))))))
 ·cases af:(decide (0≤b))
  ·exact Aa O O
  exact AB O (AA O (AB O (Af O (J.mono x) Dl.f_Den K3 O λag X=>AB O (Ag A6 k.1 O X Ae O λah=>AB O (Ao O (AJ O (AU O)))))))
 refine AM (kp [31,11,9,8,3,2] O) (Ga (λa w=>∃(z:Int),IV B S2 C (51,[]) a w [(9,vI i.2.1),(8,vI i.1),(3,q1),(11,vI z)] (L) λ_ _=>AE z∧Hf N d i z=some r) ?_ ?_)
 ·refine AX O E (λY E=>?_) (λY E=>?_)
  ·refine BY (.inl O) (AA O (AL O (kp [11,9,8,3] O) (WF.nil (λF G g t=>?_))))
   exact⟨b,_,_,g.sub (kp [9,8,3,11] O),t,k,(B9.refl S2 C),s,E⟩
  refine AO (WF.nil (λF G g t=>?_))
  exact⟨0,_,_,g.sub (kp [9,8,3,11] O),t,k,(B9.refl S2 C),(iq (n:=0) O),E⟩
 rintro F G ⟨z,ai,aj,g,t,m,D,ak,E⟩
 refine Ac ?_ g t
 clear g t G F
 rw[Hf] at E
 refine AC (AH (AA O (AA O (Ai O ?_))))
 have I:=J.mono (x.trans D)
 refine Af O I Dl.f_Den K3 O λal Z=>Ag A6 m.1 O Z Ae O λam=>Ao O (AM (kp [38,9,8,3,11] O) (AX O E (λab E=>?_) (λab E=>?_)))
 ·refine AH (AA O (AA O (AA O (Ai O (AY O (AL O (kp [7,6] O) (Ad (λF G g t=>?_))))))))
  cases E
  exact KD g O t (IF (Ir g (v:=_) O) (IF (Ir g (v:=_) O) KC)) O (K.trans (x.trans D)) ⟨O,V,(BG _),m⟩
 refine AO (AC (BY (.inr ⟨mo,by kernel_rfl⟩) (AA O (Ai O (AA O (AA O (Ai O (Af O I Dl.f_Den K3 O λan ac=>Ag A6 m.1 O ac Ae O λao=>Cz O (AY O (AL O (kp [7,6] O) (Ad (λF G g t=>?_))))))))))))
 cases E
 exact KD g O t (IF (Ir g (v:=_) O) (IF (Ir g (v:=_) O) KC)) O (K.trans (x.trans D)) ⟨O,(BG _),(BG _),m⟩
theorem M5 {u:Nat}{p0_w:An}{H:Value}{I:Value}{J:Value}{K:Value}{M:Value}{Q:Value}{U:Value}{V:Value}{A:Value}{C:Value}{D:Value}{F:Value}{G:Value}{ak:Value}{t:Value}{c:Value}{d:Value}{g:Value}{am:Value}{an:Value}{j:Value}{ao:Value}(hs:St S (Bx u 84 [.string p0_w.b.Name,H,vI p0_w.b.Cells,I,J,K,M,Q,U,V,vI p0_w.b.Err,A,C,D,F,G,vI p0_w.s.Hour,ak,t,c,d,g,am,an,j,ao]::OS (AN.sl AN.int) 29 ak p0_w.s.Own::OS AN.int 3 t p0_w.s.Rem::OS Ar 60 c p0_w.s.Queue::OS BE 69 d p0_w.s.Gates::OS AN.int 3 g p0_w.s.In::OS AN.int 3 am p0_w.s.Out::OS BJ 50 an p0_w.moves::OS AN.int 3 j p0_w.peaks::OS Ar 60 ao p0_w.sent::L) h) (ad:p0_w.b.Name.size≤maxLen) (ca:Sl S h AN.str H p0_w.b.Owners) (ae:AE p0_w.b.Cells) (az:Sl S h B1 I p0_w.b.Places) (cb:Sl S h Bv J p0_w.b.Links) (cc:Sl S h GQ K p0_w.b.Towns) (cd:Sl S h EV M p0_w.b.Gauges) (ce:Sl S h Fp Q p0_w.b.Roads) (cf:Sl S h Cx U p0_w.b.Shelters) (cg:Sl S h AN.int V p0_w.b.Room) (ab:AE p0_w.b.Err) (bj:Sl S h AN.int A p0_w.in_.Rain) (bk:Sl S h FM C p0_w.in_.Faults) (bl:Sl S h Ic D p0_w.in_.Cmds) (bm:Sl S h FO F p0_w.in_.Takes) (bn:Sl S h GC G p0_w.in_.Swaps) (ac:AE p0_w.s.Hour) {z:Int}(ap:AE z) {r:(List (List Int))×(List Int)×(List Int)×(List Ah)×(List Av)}(E:HE N p0_w z=some r):
 CL Tryz.prog 34 #[vP u 0,vI z] S h (λv S' h'=>∃w_0_17 w_0_18 w_0_22 w_0_23 w_0_25:Value,v= .tuple #[]∧St S' (Bx u 84 [.string p0_w.b.Name,H,vI p0_w.b.Cells,I,J,K,M,Q,U,V,vI p0_w.b.Err,A,C,D,F,G,vI p0_w.s.Hour,w_0_17,w_0_18,c,d,g,w_0_22,w_0_23,j,w_0_25]::OS (AN.sl AN.int) 29 w_0_17 r.1::OS AN.int 3 w_0_18 r.2.1::OS Ar 60 c p0_w.s.Queue::OS BE 69 d p0_w.s.Gates::OS AN.int 3 g p0_w.s.In::OS AN.int 3 w_0_22 r.2.2.1::OS BJ 50 w_0_23 r.2.2.2.1::OS AN.int 3 j p0_w.peaks::OS Ar 60 w_0_25 r.2.2.2.2::L) h'):=by
 refine BF (l:=[vP u 0,vI z]) 119 Tryz.func34 O Tryz.ntmps34 O λB=>?_
 rw[HE] at E
 refine WF.sl (AI 8 (AA O (CN O O (AD GE O (AD C0 O (AT A6 hs O mh O Fq O (AA O ?_)))))))
 obtain⟨k,i0,E⟩:=bd E
 refine A9 O O az Ez i0 O λq2 k3=>B6 A6 hs.1 O k3 Jt (λe=>by cases e) O λv4 k5=>AG (Cn OR O hs λb6 h7 i1 e9=>?_)
 obtain⟨bo,bp,bq,rfl,i2,i3,i4,i5,fm,fn,i6,i7,dw,dx,i8,fo⟩:=B1.ex (k5.mono e9)
 refine HM (vs:=[.string k.Name,vI k.Kind,vI k.Office,vI k.Cap,bo,bp,vI k.Num,vI k.Den,vI k.Down,vI k.Delay,vI k.Floor,bq]) (cs':=[.string k.Name,vI k.Kind,vI k.Office,vI k.Cap,bo,bp,vI k.Num,vI k.Den,vI k.Down,vI k.Delay,vI k.Floor,bq]) O O O (AF O (AF O (AF O (AF O (AF fm.one (AF fn.one (AF O (AF O (AF O (AF O (AF O (AF fo.one EG)))))))))))) Jt O i1 .head O O λlf fp ai=>AZ (kp [4,0,1] O) (AC (WF.sl (AI 2 (AA O (AA O (AG ?_))))))
 have fq:=fp.sel [1,1,1,1,1,1,1,1,1,1,0] 0 O
 have fr:=ca.mono' (e9.trans ai)
 have fs:=az.mono' (e9.trans ai)
 have ft:=cb.mono' (e9.trans ai)
 have fu:=cc.mono' (e9.trans ai)
 have fv:=cd.mono' (e9.trans ai)
 have fw:=ce.mono' (e9.trans ai)
 have fx:=cf.mono' (e9.trans ai)
 have fy:=cg.mono' (e9.trans ai)
 have f0:=bj.mono' (e9.trans ai)
 have f1:=bk.mono' (e9.trans ai)
 have f2:=bl.mono' (e9.trans ai)
 have f3:=bm.mono' (e9.trans ai)
 have f4:=bn.mono' (e9.trans ai)
 obtain⟨f5,f6,E⟩:=bd E
 refine Ct O O O fI O (M2 (p0_w:=p0_w) fq ad fr ae fs ft fu fv fw fx fy ab f0 f1 f2 f3 f4 ac ap f6) λlg lh li aj p=>?_
 have f7:=p
 refine AI 2 (AA O (AA O (AG ?_)))
 have f8:=f7.sel [1,1,1,1,1,1,1,1,1,1,0,0] 0 O
 have c5:=fr.mono' aj
 have c6:=fs.mono' aj
 have c7:=ft.mono' aj
 have c8:=fu.mono' aj
 have c9:=fv.mono' aj
 have da:=fw.mono' aj
 have db:=fx.mono' aj
 have dc:=fy.mono' aj
 have dd:=f0.mono' aj
 have de:=f1.mono' aj
 have df:=f2.mono' aj
 have dg:=f3.mono' aj
 have dh:=f4.mono' aj
 obtain⟨f9,ga,E⟩:=bd E
 refine Ct O O O fH O (M6 (p0_w:=p0_w) f8 ad c5 ae c6 c7 c8 c9 da db dc ab dd de df dg dh ac ap ga) λlj ll lm ch p=>?_
 have gb:=p
 obtain⟨lo,gc,ci,i9⟩:=gb.pubs (.tail (.tail (.tail (.tail (.tail (.tail (.tail (.tail (.tail (.tail (.tail .head)))))))))))
 obtain⟨lp,gd,br,ge⟩:=gc.pubs .head
 have gf:=i9.mono' br
 obtain⟨gg,dy,rfl,lq⟩:=(gf).len
 obtain⟨gh,dz,rfl,lr⟩:=(ge).len
 refine D0 (cs:=[(.slice gg f5.length dy),(.slice gh f9.length dz)]) aK O O O O O O O gd λls lt gi ba=>?_
 have ja:=ge.mono' ba
 have jb:=gf.mono' ba
 have gj:=gi.bxos (r:=(AN.sl Au)) (l:=([f5,f9]:List (List AK))) .head ⟨_,_,O,⟨_,O,jb⟩,⟨_,_,O,⟨_,O,ja⟩,O⟩⟩ (by simp [maxLen])
 obtain⟨lu,gk,cj,jc⟩:=gj.pubs .head
 obtain⟨d0,gl,E⟩:=bd E
 refine Ct O O O fJ O (Gi gk jc gl) λgm d1 d2 a1 p=>?_
 have ck:=p
 refine AI 2 (K7 ck mh O Lc O λjj=>AA O (AG (AZ (kp [27,26,25,4,0,1] O) (Aj (λa w=>∃(a2:Value) (ar:List (List Int)) (a3:Value) (au:List Int) (a4:Value) (av:List Ah) (a5:Value) (aw:List Av),IV B d1 d2 (119,[]) a w [(4,vP b6 0),(0,vP u 0),(1,vI z)] (OS (AN.sl AN.int) 29 a2 ar::OS AN.int 3 a3 au::OS BJ 50 a4 av::OS Ar 60 a5 aw::Bx u 84 [.string p0_w.b.Name,H,vI p0_w.b.Cells,I,J,K,M,Q,U,V,vI p0_w.b.Err,A,C,D,F,G,vI p0_w.s.Hour,a2,t,c,d,g,a3,a4,j,a5]::OS AN.int 3 t p0_w.s.Rem::OS Ar 60 c p0_w.s.Queue::OS BE 69 d p0_w.s.Gates::OS AN.int 3 g p0_w.s.In::OS AN.int 3 j p0_w.peaks::Bx b6 56 [.string k.Name,vI k.Kind,vI k.Office,vI k.Cap,bo,bp,vI k.Num,vI k.Den,vI k.Down,vI k.Delay,vI k.Floor,bq]::L) λ_ _=>E7 N p0_w z k ar au av aw=some r) ?_ ?_))))
 ·refine A3 (λn1=>λa w=>∃(bb:Int) (bu:Value) (bc:List (List Int)) (bv:Value) (be:List Int) (bw:Value) (bf:List Ah) (bx:Value) (bg:List Av),IV B d1 d2 (119,[]) a w [(26,vI (↑d0.length:Int)),(25,gm),(4,vP b6 0),(0,vP u 0),(1,vI z),(27,vI bb)] (OS (AN.sl AN.int) 29 bu bc::OS AN.int 3 bv be::OS BJ 50 bw bf::OS Ar 60 bx bg::OS Au 111 gm d0::Bx u 84 [.string p0_w.b.Name,H,vI p0_w.b.Cells,I,J,K,M,Q,U,V,vI p0_w.b.Err,A,C,D,F,G,vI p0_w.s.Hour,bu,t,c,d,g,bv,bw,j,bx]::OS AN.int 3 t p0_w.s.Rem::OS Ar 60 c p0_w.s.Queue::OS BE 69 d p0_w.s.Gates::OS AN.int 3 g p0_w.s.In::OS AN.int 3 j p0_w.peaks::Bx b6 56 [.string k.Name,vI k.Kind,vI k.Office,vI k.Cap,bo,bp,vI k.Num,vI k.Den,vI k.Down,vI k.Delay,vI k.Floor,bq]::L) λ_ _=>AE bb∧C3 N p0_w z d0 (E7 N p0_w z k) n1 bb bc be bf bg=some r) N ?_ ?_ ?_
  ·intro aa ww hf hw
   have d3:=ck.sel [2,6,6,7,0,0,0,0,0,0,0,0] 0 O
   exact⟨0,ak,p0_w.s.Own,am,p0_w.s.Out,an,p0_w.moves,ao,p0_w.sent,_,_,hf.sub (kp [26,25,4,0,1,27] O),hw,d3,(B9.refl d1 d2),(iq (n:=0) O),E⟩
  ·rintro aa ww ⟨_,_,_,_,_,_,_,_,_,_,_,_,_,_,_,_,E⟩
   rw[C3] at E;cases E
  rintro n1 aa ww ⟨bb,bu,bc,bv,be,bw,bf,bx,bg,jk,jl,hf,hw,a8,cl,jm,E⟩
  refine Ac ?_ hf hw
  clear hf hw ww aa
  rw[C3] at E
  refine AH (Ao O (AM (kp [28,26,25,4,0,1,27] O) (AC (AX O E (λgn E=>?_) (λgn E=>?_)))))
  ·refine AO (AC (A8 (WF.sl (AI 2 ?_))))
   obtain⟨jn,d4,E⟩:=bd E
   refine A0 a8 (mt (mt (mt (mt mh)))) O O Lc d4 O λjo d5=>?_
   obtain⟨ax,d6,E⟩:=bd E
   have gp:=a8.epAt (mt (mt (mt (mt mh)))) d6 FL.id d5
   refine B6 A6 (λ_ x=>x) O gp TY (λe=>by cases e) O λjp gq=>AG (Cn Zl O a8 λjq jr d7 cm=>?_)
   obtain⟨js,rfl,gr,gs,gt,di⟩:=Au.ex (gq.mono cm)
   obtain⟨cn,co,rfl,jd,je⟩:=di.fnr
   refine DW (vs:=[vI ax.to_,vI ax.delay,vI ax.way,(.func (.func cn) #[] co)]) O O O O TY O d7 .head O λjt cp cq=>AZ (kp [6,26,25,4,0,1,27] O) (EX (AI 3 (AA O (AA O (Dk (vs:=[vI ax.to_,vI ax.delay,vI ax.way,(.func (.func cn) #[] co)]) A6 cp O mh O O TY O O (AG ?_))))))
   have d8:=cp.sel [6,1,5,5,5,5,1,1,3,1,0,0,0] 0 O
   have W:=ch.trans (ci.trans (br.trans (ba.trans (cj.trans (a1.trans (cl.trans (cm.trans cq)))))))
   obtain⟨bz,d9,E⟩:=bd E
   refine Ct O O O XP O (JA (p0_w:=(⟨p0_w.b,p0_w.in_,(⟨p0_w.s.Hour,bc,p0_w.s.Rem,p0_w.s.Queue,p0_w.s.Gates,p0_w.s.In,be⟩:Am),bf,p0_w.peaks,bg⟩:An)) d8 ad (c5.mono' W) ae (c6.mono' W) (c7.mono' W) (c8.mono' W) (c9.mono' W) (da.mono' W) (db.mono' W) (dc.mono' W) ab (dd.mono' W) (de.mono' W) (df.mono' W) (dg.mono' W) (dh.mono' W) ac ap (Au.mk (x:=ax) gr gs gt (di.mono cq)) d9) λju jv jw gu p=>?_
   obtain⟨gv,gw,gx,gy,rfl,ea⟩:=p
   refine AZ (kp [26,25,4,0,1,27] O) (BP (BY (.inl O) (Ai O (AA O (AM (kp [27,26,25,4,0,1] O) (WF.nil (λaa ww hf hw=>?_)))))))
   have eb:=ea.sel [1,5,5,6,7,0,0,0,0,0,0,1] 1 O
   exact⟨(BM (bb+1)),gv,bz.1,gw,bz.2.1,gx,bz.2.2.1,gy,bz.2.2.2,_,_,hf.sub (kp [26,25,4,0,1,27] O),hw,eb,(cl.trans (cm.trans (cq.trans gu))),(BG _),E⟩
  refine BA O (λaa ww hf hw=>?_)
  have ec:=a8.sel [0,0,0,0,1,1,1,1,1,1,1] 1 O
  exact⟨bu,bc,bv,be,bw,bf,bx,bg,_,_,hf.sub (kp [4,0,1] O),hw,ec,cl,E⟩
 rintro aa ww ⟨a2,ar,a3,au,a4,av,a5,aw,b0,dj,hf,hw,X,bh,E⟩
 refine Ac ?_ hf hw
 clear hf hw ww aa
 rw[E7] at E
 refine AC (AH (AD K3 O (AT A6 X O (mt (mt (mt (mt (mt (mt (mt (mt (mt (mt mh)))))))))) O Ae O (Bl O (AM (kp [38,4,0,1] O) (Ga (λa w=>∃(cr:Value) (b1:List (List Int)) (ct:Value) (b2:List Int) (cu:Value) (b3:List Ah) (cv:Value) (b4:List Av) (b5:List Int),IV B b0 dj (119,[]) a w [(4,vP b6 0),(0,vP u 0),(1,vI z)] (OS (AN.sl AN.int) 29 cr b1::OS AN.int 3 ct b2::OS BJ 50 cu b3::OS Ar 60 cv b4::Bx u 84 [.string p0_w.b.Name,H,vI p0_w.b.Cells,I,J,K,M,Q,U,V,vI p0_w.b.Err,A,C,D,F,G,vI p0_w.s.Hour,cr,t,c,d,g,ct,cu,j,cv]::OS AN.int 3 t b5::OS Ar 60 c p0_w.s.Queue::OS BE 69 d p0_w.s.Gates::OS AN.int 3 g p0_w.s.In::OS AN.int 3 j p0_w.peaks::Bx b6 56 [.string k.Name,vI k.Kind,vI k.Office,vI k.Cap,bo,bp,vI k.Num,vI k.Den,vI k.Down,vI k.Delay,vI k.Floor,bq]::L) λ_ _=>C4 N p0_w z k b1 b2 b3 b4 b5=some r) ?_ ?_))))))
 ·refine AX O E (λgz E=>?_) (λgz E=>?_)
  ·refine AC (Bt (.inr ⟨mo,by kernel_rfl⟩) X (Dk (vs:=[.string k.Name,vI k.Kind,vI k.Office,vI k.Cap,bo,bp,vI k.Num,vI k.Den,vI k.Down,vI k.Delay,vI k.Floor,bq]) Bg X O (mt (mt (mt (mt (mt (mt (mt (mt (mt (mt mh)))))))))) O O Jt O O (AA O (CN O O (AD Jl O (AT Bg X O (mt (mt (mt (mt mh)))) O BX O (AA O ?_)))))))
   obtain⟨jx,ed,E⟩:=bd E
   refine A0 X (mt (mt (mt (mt (mt (mt (mt (mt (mt mh))))))))) O O BR ed O λjy ee=>?_
   obtain⟨jz,ef,E⟩:=bd E
   have g0:=X.epAt (mt (mt (mt (mt (mt (mt (mt (mt (mt mh))))))))) ef FL.id ee
   refine Ag Bg (λ_ x=>x) O g0 Ae O λg1=>AA O (CN O O (AD CZ O (AD Jm O (AT Bg X O (mt (mt (mt (mt mh)))) O BX O (AA O ?_)))))
   obtain⟨j0,eg,E⟩:=bd E
   refine A0 X (mt (mt (mt (mt (mt mh))))) O O BR eg O λj1 eh=>?_
   obtain⟨j2,ei,E⟩:=bd E
   have g2:=X.epAt (mt (mt (mt (mt (mt mh))))) ei FL.id eh
   refine Ag Bg (λ_ x=>x) O g2 Ae O λg3=>?_
   have bs:=ai.trans (aj.trans (ch.trans (ci.trans (br.trans (ba.trans (cj.trans (a1.trans bh)))))))
   obtain⟨ag,ej,E⟩:=bd E
   refine IC (v:= .tuple #[vI ag.1,vI ag.2]) (Ψ:=AE ag.1∧AE ag.2) O O O fG O (λh' o=>(Ow (St.all h') (B1.mk (x:=k) i2 i3 i4 i5 ((fm.mono' bs).mono' (o.all X.1)) ((fn.mono' bs).mono' (o.all X.1)) i6 i7 dw dx i8 ((fo.mono' bs).mono' (o.all X.1))) g1 g3 ej).mono λ_ _ _ _ p=>⟨p.1,⟨p.2.1,p.2.2.1⟩⟩) λg4=>?_
   obtain⟨g5,g6⟩:=g4
   refine AA O (Bo O (Bo O (AY O (AY O (BQ (kp [8,7,4,0,1] O) λj3 bt dk=>WF.sl (AI 7 (AA O (CN O O (AD CZ O (AD Jm O (AT A6 bt O (mt (mt (mt (mt mh)))) O BX O (AA O ?_))))))))))))
   obtain⟨j4,ek,E⟩:=bd E
   refine A0 bt (mt (mt (mt (mt (mt mh))))) O O BR ek O λj5 el=>AG ?_
   obtain⟨g7,em,E⟩:=bd E
   refine Er (r:=AN.int) (l:=p0_w.s.Rem) (i:=z) (x:=g7) O O (⟨_,O,O,(iq (n:=0) O)⟩:Rd _ _ AN.int _ 0) el em Lr.id Ae (λ_=>rfl) bt (.tail (.tail (.tail (.tail (.tail .head))))) λj6 ay dl=>AZ (kp [8,7,4,0,1] O) (AC (AC (Bt (.inl O) ay (AA O (CN O O (AD CZ O (AD D2 O (AT Bg ay O (mt (mt (mt (mt mh)))) O G9 O (AA O ?_)))))))))
   obtain⟨j7,en,E⟩:=bd E
   refine A0 ay mh O O E3 en O λj8 eo=>?_
   obtain⟨j9,ep,E⟩:=bd E
   have g8:=ay.epAt mh ep FL.id eo
   refine Al Bg (λ_ x=>x) O g8 BX O λka g9=>?_
   obtain⟨kb,eq,E⟩:=bd E
   refine CX O O O NG O (λh' o=>Ek (St.all h') (g9.mono' (o.all ay.1)) eq) λha=>?_
   have kc:=ha
   refine AA O (Gb O (BQ (kp [76,8,7,4,0,1] O) λdm a9 dn=>Ga (λa w=>∃(bi:List Int),IV B b0 dm (119,[]) a w [(7,vI ag.1),(4,vP b6 0),(0,vP u 0),(1,vI z)] (OS (AN.sl AN.int) 29 a2 ar::OS AN.int 3 a3 au::OS BJ 50 a4 av::OS Ar 60 a5 aw::Bx u 84 [.string p0_w.b.Name,H,vI p0_w.b.Cells,I,J,K,M,Q,U,V,vI p0_w.b.Err,A,C,D,F,G,vI p0_w.s.Hour,a2,t,c,d,g,a3,a4,j,a5]::OS AN.int 3 t bi::OS Ar 60 c p0_w.s.Queue::OS BE 69 d p0_w.s.Gates::OS AN.int 3 g p0_w.s.In::OS AN.int 3 j p0_w.peaks::Bx b6 56 [.string k.Name,vI k.Kind,vI k.Office,vI k.Cap,bo,bp,vI k.Num,vI k.Den,vI k.Down,vI k.Delay,vI k.Floor,bq]::L) λ_ _=>E6 N p0_w z k ar au av aw ag (C4 N p0_w z k) bi=some r) ?_ ?_))
   ·refine AX O E (λhb E=>?_) (λhb E=>?_)
    ·refine EX (AI 8 (AA O (CN O O (AD CZ O (AD Jm O (AT A6 a9 O (mt (mt (mt (mt mh)))) O BX O (AA O (AA O ?_))))))))
     obtain⟨kd,er,E⟩:=bd E
     refine A0 a9 (mt (mt (mt (mt (mt mh))))) O O BR er O λke es=>AG ?_
     obtain⟨hc,et,E⟩:=bd E
     refine Er (r:=AN.int) (l:=(upd p0_w.s.Rem z 0)) (i:=z) (x:=hc) O O (⟨_,O,O,g6⟩:Rd _ _ AN.int _ ag.2) es et Lr.id Ae (λ_=>rfl) a9 (.tail (.tail (.tail (.tail (.tail .head))))) λkf eu hd=>AZ (kp [7,4,0,1] O) (WF.nil (λaa ww hf hw=>?_))
     exact⟨(upd (upd p0_w.s.Rem z 0) z ag.2),_,_,hf.sub (kp [7,4,0,1] O),hw,eu,hd,E⟩
    refine AO (WF.nil (λaa ww hf hw=>?_))
    exact⟨(upd p0_w.s.Rem z 0),_,_,hf.sub (kp [7,4,0,1] O),hw,a9,(B9.refl b0 dm),E⟩
   rintro aa ww ⟨bi,dp,dq,hf,hw,ah,dr,E⟩
   refine Ac ?_ hf hw
   clear hf hw ww aa
   rw[E6] at E
   obtain⟨a6,ev,E⟩:=bd E
   refine NH (m:=[(7,vI ag.1),(4,vP b6 0),(0,vP u 0),(1,vI z)]) 9 (λi v hh=>match i with|0=>v=vP u 0|1=>v=vI z∧AE z|2=>v=vP b6 8|3=>v=vI k.Down∧AE k.Down|4=>v=vP b6 9|5=>v=vI k.Delay∧AE k.Delay|6=>v=vI ag.1∧AE ag.1|7=>Rd (SN dp dq hh) hh (AN.fnr Tryz.prog (λS h vs (x:(List Int))=>∃w0:Value,vs=[w0]∧Sl S h AN.int w0 x) (λS h v (y:((List Int)×(List Int)))=>∃w0 w1:Value,v= .tuple #[w0,w1]∧Sl S h AN.int w0 y.1∧Sl S h AN.int w1 y.2)) v (λx=>Ab N a6 x)|8=>Rd (SN dp dq hh) hh Au v (⟨k.Down,k.Delay,(-1),(λx=>Ab N a6 x)⟩:AK)|_=>False) [[],[],[],[(2,87)],[],[(4,89)],[],[(6,91)],[(3,88),(5,90),(7,92)]] [(0,85),(1,86),(8,93)] mo (by kernel_rfl) [7,4,0,1] O (by kernel_rfl) (by kernel_rfl) (by kernel_rfl) (kp [7,4,0,1] O) (λi v h1 h2 o1 o2 hr=>?_) ?_ ?_
   ·match i,hr with
     |0,hr|1,hr|2,hr|3,hr|4,hr|5,hr|6,hr=>exact hr
     |7,hr|8,hr=>exact Rd.mono hr (SN.mono ah.1 o1 o2)
     |_+9,hr=>exact hr.elim
   ·refine A7.cons O (λ_ _ _=>AI 1 (AA O (AQ O))) (A7.cons O (λ_ _ _=>AI 1 (AA O (AQ ⟨O,ap⟩))) (A7.cons O (λ_ _ _=>AI 1 (AD PN O (AQ O))) (A7.cons O (λ_ _ o _ he=>by cases he;exact AI 1 (AT A6 (o.st ah) O (mt (mt (mt (mt (mt (mt (mt (mt (mt (mt mh)))))))))) O Ae O (AQ ⟨O,dw⟩))) (A7.cons O (λ_ _ _=>AI 1 (AD Rm O (AQ O))) (A7.cons O (λ_ _ o _ hg=>by cases hg;exact AI 1 (AT A6 (o.st ah) O (mt (mt (mt (mt (mt (mt (mt (mt (mt (mt mh)))))))))) O Ae O (AQ ⟨O,dx⟩))) (A7.cons O (λ_ _ _=>AI 1 (AA O (AQ ⟨O,g5⟩))) ?_))))))
    refine A7.cons O ?_ ?_
    ·intro mq hh o
     intro kg hi
     have hsN:=SN.st ah o
     obtain⟨rfl,hj⟩:=hi
     have hsF:=hsN.fz
     refine Ct O O O TJ O (IS hsF hj ev) λkh hk hl hm p=>?_
     obtain⟨ds,rfl,hn,ew⟩:=p
     have ey:Rd hk hl (AN.fnr Tryz.prog (λS h vs (x:(List Int))=>∃w0:Value,vs=[w0]∧Sl S h AN.int w0 x) (λS h v (y:((List Int)×(List Int)))=>∃w0 w1:Value,v= .tuple #[w0,w1]∧Sl S h AN.int w0 y.1∧Sl S h AN.int w1 y.2)) (.func (.func 89) #[] #[ds]) (λx=>Ab N a6 x):=J9 89 #[ds] TH λS' h' s' e' L hs x y vs h1 h2=>by obtain⟨w0,rfl,a0⟩:=h1;exact Ml (HX hs a0 (hn.mono'' s' e') h2)
     have cw:=Fz.done o hm ew
     exact C1 cw.1 (Rd.mono ey cw.2)
    refine A7.cons O ?_ ?_
    ·intro mq hh o
     intro ki ho kj hp hq b7
     have hsN:=SN.st ah o
     obtain⟨rfl,ht⟩:=ho
     obtain⟨rfl,hu⟩:=hp
     have b7:Rd _ _ (AN.fnr Tryz.prog (λS h vs (x:(List Int))=>∃w0:Value,vs=[w0]∧Sl S h AN.int w0 x) (λS h v (y:((List Int)×(List Int)))=>∃w0 w1:Value,v= .tuple #[w0,w1]∧Sl S h AN.int w0 y.1∧Sl S h AN.int w1 y.2)) hq (λx=>Ab N a6 x):=b7
     refine AI 1 ?_
     obtain⟨ez,e0,rfl,jf,jg⟩:=b7.fnr
     exact H1 (cs:=[vI k.Down,vI k.Delay,vI (-1),(.func (.func ez) #[] e0)]) OD O O O (AQ (Au.mk (x:=(⟨k.Down,k.Delay,(-1),(λx=>Ab N a6 x)⟩:AK)) ht hu (iq (n:=(-1)) O) b7))
    exact trivial
   intro kk cx kl hv km hx hy cy
   have e1:=SN.st ah cx
   cases hv
   obtain⟨rfl,hz⟩:=hx
   have cy:Rd _ _ Au hy (⟨k.Down,k.Delay,(-1),(λx=>Ab N a6 x)⟩:AK):=cy
   have e2:=e1.sel [4,0,3,3,3,3,0,0,1,0,0] 0 O
   have Y:=ch.trans (ci.trans (br.trans (ba.trans (cj.trans (a1.trans (bh.trans (dk.trans (dl.trans (dn.trans (dr.trans (SN.ext ah.1 cx)))))))))))
   obtain⟨b8,e3,E⟩:=bd E
   refine Ct O O O XP O (JA (p0_w:=(⟨p0_w.b,p0_w.in_,(⟨p0_w.s.Hour,ar,bi,p0_w.s.Queue,p0_w.s.Gates,p0_w.s.In,au⟩:Am),av,p0_w.peaks,aw⟩:An)) e2 ad (c5.mono' Y) ae (c6.mono' Y) (c7.mono' Y) (c8.mono' Y) (c9.mono' Y) (da.mono' Y) (db.mono' Y) (dc.mono' Y) ab (dd.mono' Y) (de.mono' Y) (df.mono' Y) (dg.mono' Y) (dh.mono' Y) ac hz cy e3) λkn ko kq h0 p=>?_
   obtain⟨h3,h4,h5,h6,rfl,e4⟩:=p
   refine AZ (kp [4,0,1] O) (WF.nil (λaa ww hf hw=>?_))
   have e5:=e4.sel [1,5,5,6,0,0,0,0,0,0,0] 0 O
   exact⟨h3,b8.1,h4,b8.2.1,h5,b8.2.2.1,h6,b8.2.2.2,bi,_,_,hf.sub (kp [4,0,1] O),hw,e5,(dk.trans (dl.trans (dn.trans (dr.trans ((SN.ext ah.1 cx).trans h0))))),E⟩
  refine AO (WF.nil (λaa ww hf hw=>?_))
  exact⟨a2,ar,a3,au,a4,av,a5,aw,p0_w.s.Rem,_,_,hf.sub (kp [4,0,1] O),hw,X,(B9.refl b0 dj),E⟩
 rintro aa ww ⟨cr,b1,ct,b2,cu,b3,cv,b4,b5,dt,kr,hf,hw,aq,cz,E⟩
 refine Ac ?_ hf hw
 clear hf hw ww aa
 rw[C4] at E
 refine AC (Bt (.inr ⟨mo,by kernel_rfl⟩) aq (AA O (CN O O (AD CZ O (AD D2 O (AT Bg aq O (mt (mt (mt (mt mh)))) O G9 O (AA O ?_)))))))
 obtain⟨ks,e6,E⟩:=bd E
 refine A0 aq mh O O E3 e6 O λkt e7=>?_
 obtain⟨ku,e8,E⟩:=bd E
 have h8:=aq.epAt mh e8 FL.id e7
 refine Al Bg (λ_ x=>x) O h8 BX O λkv h9=>?_
 obtain⟨c0,fa,E⟩:=bd E
 refine CX O O O NG O (λh' o=>Ek (St.all h') (h9.mono' (o.all aq.1)) fa) λia=>?_
 have kw:=ia
 refine AD Uj O (AT Bg aq O (mt (mt (mt (mt (mt (mt (mt (mt (mt (mt mh)))))))))) O Ae O (Cz O (AY O (BQ (kp [9,4,0,1] O) λdu af c1=>AH (AA O (Bk O (AM (kp [108,9,4,0,1] O) (AX O E (λib E=>?_) (λib E=>?_)))))))))
 ·obtain ⟨a7,fb,E⟩:=bd E
  refine NH (m:=[(9,vI (BM (c0-k.Cap))),(4,vP b6 0),(0,vP u 0),(1,vI z)]) 9 (λi v hh=>match i with|0=>v=vP u 0|1=>v=vI z∧AE z|2=>v=vP b6 8|3=>v=vI k.Down∧AE k.Down|4=>v=vP b6 9|5=>v=vI k.Delay∧AE k.Delay|6=>v=vI (BM (c0-k.Cap))∧AE (BM (c0-k.Cap))|7=>Rd (SN dt du hh) hh (AN.fnr Tryz.prog (λS h vs (x:(List Int))=>∃w0:Value,vs=[w0]∧Sl S h AN.int w0 x) (λS h v (y:((List Int)×(List Int)))=>∃w0 w1:Value,v= .tuple #[w0,w1]∧Sl S h AN.int w0 y.1∧Sl S h AN.int w1 y.2)) v (λx=>Ab N a7 x)|8=>Rd (SN dt du hh) hh Au v (⟨k.Down,k.Delay,(-2),(λx=>Ab N a7 x)⟩:AK)|_=>False) [[],[],[],[(2,111)],[],[(4,113)],[],[(6,115)],[(3,112),(5,114),(7,116)]] [(0,109),(1,110),(8,117)] mo (by kernel_rfl) [9,4,0,1] O (by kernel_rfl) (by kernel_rfl) (by kernel_rfl) (kp [9,4,0,1] O) (λi v h1 h2 o1 o2 hr=>?_) ?_ ?_
  ·match i,hr with
    |0,hr|1,hr|2,hr|3,hr|4,hr|5,hr|6,hr=>exact hr
    |7,hr|8,hr=>exact Rd.mono hr (SN.mono af.1 o1 o2)
    |_+9,hr=>exact hr.elim
  ·refine A7.cons O (λ_ _ _=>AI 1 (AA O (AQ O))) (A7.cons O (λ_ _ _=>AI 1 (AA O (AQ ⟨O,ap⟩))) (A7.cons O (λ_ _ _=>AI 1 (AD PN O (AQ O))) (A7.cons O (λ_ _ o _ ic=>by cases ic;exact AI 1 (AT A6 (o.st af) O (mt (mt (mt (mt (mt (mt (mt (mt (mt (mt mh)))))))))) O Ae O (AQ ⟨O,dw⟩))) (A7.cons O (λ_ _ _=>AI 1 (AD Rm O (AQ O))) (A7.cons O (λ_ _ o _ ie=>by cases ie;exact AI 1 (AT A6 (o.st af) O (mt (mt (mt (mt (mt (mt (mt (mt (mt (mt mh)))))))))) O Ae O (AQ ⟨O,dx⟩))) (A7.cons O (λ_ _ _=>AI 1 (AA O (AQ ⟨O,(BG _)⟩))) ?_))))))
   refine A7.cons O ?_ ?_
   ·intro mq hh o
    intro kx ig
    have hsN:=SN.st af o
    obtain⟨rfl,ih⟩:=ig
    have hsF:=hsN.fz
    refine Ct O O O TJ O (IS hsF ih fb) λky ii ij ik p=>?_
    obtain⟨dv,rfl,il,fc⟩:=p
    have fd:Rd ii ij (AN.fnr Tryz.prog (λS h vs (x:(List Int))=>∃w0:Value,vs=[w0]∧Sl S h AN.int w0 x) (λS h v (y:((List Int)×(List Int)))=>∃w0 w1:Value,v= .tuple #[w0,w1]∧Sl S h AN.int w0 y.1∧Sl S h AN.int w1 y.2)) (.func (.func 89) #[] #[dv]) (λx=>Ab N a7 x):=J9 89 #[dv] TH λS' h' s' e' L hs x y vs h1 h2=>by obtain⟨w0,rfl,a0⟩:=h1;exact Ml (HX hs a0 (il.mono'' s' e') h2)
    have c2:=Fz.done o ik fc
    exact C1 c2.1 (Rd.mono fd c2.2)
   refine A7.cons O ?_ ?_
   ·intro mq hh o
    intro kz im k0 io ip b9
    have hsN:=SN.st af o
    obtain⟨rfl,ir⟩:=im
    obtain⟨rfl,it⟩:=io
    have b9:Rd _ _ (AN.fnr Tryz.prog (λS h vs (x:(List Int))=>∃w0:Value,vs=[w0]∧Sl S h AN.int w0 x) (λS h v (y:((List Int)×(List Int)))=>∃w0 w1:Value,v= .tuple #[w0,w1]∧Sl S h AN.int w0 y.1∧Sl S h AN.int w1 y.2)) ip (λx=>Ab N a7 x):=b9
    refine AI 1 ?_
    obtain⟨fe,ff,rfl,jh,ji⟩:=b9.fnr
    exact H1 (cs:=[vI k.Down,vI k.Delay,vI (-2),(.func (.func fe) #[] ff)]) OD O O O (AQ (Au.mk (x:=(⟨k.Down,k.Delay,(-2),(λx=>Ab N a7 x)⟩:AK)) ir it (iq (n:=(-2)) O) b9))
   exact trivial
  intro k1 c3 k2 iu k4 iv iw c4
  have fg:=SN.st af c3
  cases iu
  obtain⟨rfl,iy⟩:=iv
  have c4:Rd _ _ Au iw (⟨k.Down,k.Delay,(-2),(λx=>Ab N a7 x)⟩:AK):=c4
  have fh:=fg.sel [4,0,3,3,3,3,0,0,1,0,0] 0 O
  have Z:=ch.trans (ci.trans (br.trans (ba.trans (cj.trans (a1.trans (bh.trans (cz.trans (c1.trans (SN.ext af.1 c3)))))))))
  obtain⟨k6,fi,E⟩:=bd E
  refine Ct O O O XP O (JA (p0_w:=(⟨p0_w.b,p0_w.in_,(⟨p0_w.s.Hour,b1,b5,p0_w.s.Queue,p0_w.s.Gates,p0_w.s.In,b2⟩:Am),b3,p0_w.peaks,b4⟩:An)) fh ad (c5.mono' Z) ae (c6.mono' Z) (c7.mono' Z) (c8.mono' Z) (c9.mono' Z) (da.mono' Z) (db.mono' Z) (dc.mono' Z) ab (dd.mono' Z) (de.mono' Z) (df.mono' Z) (dg.mono' Z) (dh.mono' Z) ac iy c4 fi) λk7 k8 k9 iz p=>?_
  obtain⟨la,lb,lc,le,rfl,fj⟩:=p
  refine AZ Ov (WF.nil (λaa ww hf hw=>?_))
  have fk:=fj.drop (.tail (.tail (.tail (.tail (.tail (.tail (.tail (.tail (.tail (.tail .head))))))))))
  cases E
  exact KD hf O hw KC O (e9.trans (ai.trans (aj.trans (ch.trans (ci.trans (br.trans (ba.trans (cj.trans (a1.trans (bh.trans (cz.trans (c1.trans ((SN.ext af.1 c3).trans iz))))))))))))) ⟨_,_,_,_,_,O,fk⟩
 refine AO (WF.nil (λaa ww hf hw=>?_))
 have fl:=af.sel [4,0,3,3,3,3,0,0,1,0] 1 O
 cases E
 exact KD hf O hw KC O (e9.trans (ai.trans (aj.trans (ch.trans (ci.trans (br.trans (ba.trans (cj.trans (a1.trans (bh.trans (cz.trans c1))))))))))) ⟨_,_,_,_,_,O,fl⟩
theorem K9 (hs:St S L h) {bc:Value}{c:AW}(dv:Rd S h B8 bc c) {be:Value}{cw:Am}(dw:Rd S h CP be cw) {a0:Value}{d:Cy}(c7:Rd S h FY a0 d) {r:Am×(List Ah)×(List Int)}(E:IU N c cw d=some r):
 CL Tryz.prog 11 #[bc,be,a0] S h (λv S' h'=>∃ik il im:Value,v= .tuple #[ik,il,im]∧Rd S' h' CP ik r.1∧St S' (OS BJ 50 il r.2.1::OS AN.int 3 im r.2.2::L) h'):=by
 refine BF (l:=[bc,be,a0]) 53 Tryz.func11 O Tryz.ntmps11 O λB=>?_
 rw[IU] at E
 refine WF.sl (B3 O dv (λe=>by cases e) O hs λq1 S2 h3 kq e5 k6=>B3 O (dw.mono e5) (λe=>by cases e) O kq λq8 S9 ps io c8 kr=>B3 O (c7.mono (e5.trans c8)) (λe=>by cases e) O io λks ax pt ip c9 kt=>Cn OT O ip λda cj k c6=>AI 2 (AY O (AY O (AG (AZ (kp [6,5,4,3] O) (AC ?_))))))
 obtain⟨g,ir,E⟩:=bd E
 obtain⟨it,E⟩:=MU E
 refine R3 (m:=[(6,vP da 0),(5,ks),(4,q8),(3,q1)]) [10] [] [(8,[0,1,3,7])] (by kernel_rfl) (λgv X F i v hh=>match i with|0=>Rd ax hh B8 v c|1=>Rd ax hh FY v d|2=>Rd ax hh CP v cw|3=>∃w1 w2 w3 w4 w5 w6:Value,v= .agg #[vI g.Hour,w1,w2,w3,w4,w5,w6]∧AE g.Hour∧Sl (SX ax cj hh X) hh Ar w3 g.Queue∧OW ax cj X F [OO AN.int 3 29 w1 g.Own,OS AN.int 3 w2 g.Rem,OS BE 69 w4 g.Gates,OS AN.int 3 w5 g.In,OS AN.int 3 w6 g.Out] hh|4=>Pt ax hh (AN.sl B1) v c.Places|5=>Sl ax hh B1 v c.Places|6=>v=vI (↑c.Places.length:Int)∧AE (↑c.Places.length:Int)|7=>OW ax cj X F [OS AN.int 3 v (List.replicate ((↑c.Places.length:Int):Int).toNat (0:Int))] hh|8=>v= .agg ((gv 0).cells.toList++(gv 1).cells.toList++(gv 3).cells.toList++[(vN:Value)]++[gv 7]++[(vN:Value)]).toArray|9=>∃w0:Nat,v=vP w0 0∧OW ax cj X F [Bx w0 84 [.string ByteArray.empty,vN,vI 0,vN,vN,vN,vN,vN,vN,vN,vI 0,vN,vN,vN,vN,vN,vI 0,vN,vN,vN,vN,vN,vN,vN,vN,vN]] hh|_=>False) [[],[],[],[(2,13)],[],[(4,15)],[(5,16)],[(6,17)],[(0,11),(1,12),(3,14),(7,18)],[],[]] [(0,11),(1,12),(3,14),(7,18),(8,19),(9,9)] mo (by kernel_rfl) [6,5,4,3] O (by kernel_rfl) (by kernel_rfl) (by kernel_rfl) O (kp [6,5,4,3] O) (λgv i v h1 h2 X X' F o1 o2 hF u1 u2 hr=>?_) (λgv gv' X F i v h1 hz hr=>?_) ?_ ?_ ?_
 ·match i,hr with
   |0,hr|1,hr|2,hr=>exact Rd.mono hr (o2.ext λb hb=>Nat.lt_of_lt_of_le (k.1 b hb) o1.siz)
   |3,hr=>obtain⟨w1,w2,w3,w4,w5,w6,ev,k0,k3,q⟩:=hr;exact⟨w1,w2,w3,w4,w5,w6,ev,k0,Sl.mono' k3 (SX.mono k.1 o1 o2 u1 u2),OW.mono k.1 o1 o2 hF u1 u2 q⟩
   |4,hr=>exact N6.mono hr (o2.ext λb hb=>Nat.lt_of_lt_of_le (k.1 b hb) o1.siz)
   |5,hr=>exact Sl.mono' hr (o2.ext λb hb=>Nat.lt_of_lt_of_le (k.1 b hb) o1.siz)
   |6,hr|8,hr=>exact hr
   |7,hr=>exact OW.mono k.1 o1 o2 hF u1 u2 hr
   |9,hr=>obtain⟨w0,ev,q⟩:=hr;exact⟨w0,ev,OW.mono k.1 o1 o2 hF u1 u2 q⟩
   |_+10,hr=>exact hr.elim
 ·match i,hr with
   |0,hr|1,hr|2,hr|3,hr|4,hr|5,hr|6,hr|7,hr|9,hr=>exact hr
   |8,hr=>rw[hz _ List.mem_cons_self O 0 (by decide),hz _ List.mem_cons_self O 1 (by decide),hz _ List.mem_cons_self O 3 (by decide),hz _ List.mem_cons_self O 7 (by decide)] at hr;exact hr
   |_+10,hr=>exact hr.elim
 ·exact trivial
 ·refine CC.cons O O ?_ ?_
  ·intro gv X mq hh o hX
   have hsN:=o.st k
   exact AI 1 (B6 A6 hsN.1 O (k6.mono (c8.trans (c9.trans (c6.trans (o.ext k.1))))) G0 (λe=>by cases e) O λk2 iu=>AQ iu)
  refine CC.cons O O ?_ ?_
  ·intro gv X mq hh o hX
   have hsN:=o.st k
   exact AI 1 (B6 A6 hsN.1 O (kt.mono (c6.trans (o.ext k.1))) SO (λe=>by cases e) O λk4 iv=>AQ iv)
  refine CC.cons O O ?_ ?_
  ·intro gv X mq hh o hX
   have hsN:=o.st k
   exact AI 1 (B6 A6 hsN.1 O (kr.mono (c9.trans (c6.trans (o.ext k.1)))) G8 (λe=>by cases e) O λk5 iw=>AQ iw)
  refine Md O O ?_ ?_
  ·intro gv X mq hh o hX
   have hsN:=SX.fz (X:=X) k o
   intro iy a1
   obtain⟨ku,_,_,a1⟩:=a1
   have a1:=Rd.mono (S':=(SX ax cj hh X)) a1 ⟨λb hb=>(SX.ext k.1 o hX).sub b hb,λ_ _=>rfl,Nat.le_refl _⟩
   have a1:Rd _ _ CP iy cw:=a1
   refine Ct O O O gJ O (Oo hsN a1 ir) λk7 k8 k9 iz p=>?_
   obtain⟨la,lb,lc,le,lf,lg,rfl,i0,i1,gn⟩:=p
   have hsG:=gn.pick (.tail (.tail (.tail (.tail (.tail .head)))))
   obtain⟨F185,hF186,i2,i3,i4⟩:=OW.done k.1 o hX iz hsG
   exact C1 i2 ⟨F185,hF186,⟨_,_,_,_,_,_,O,i0,Sl.mono' i1 i3,i4⟩⟩
  refine CC.cons O O ?_ ?_
  ·intro gv X mq hh o hX
   have hsN:=o.st k
   exact AI 1 (Af O (k6.mono (c8.trans (c9.trans (c6.trans (o.ext k.1))))) BO C0 O λlh i5=>AQ i5)
  refine CC.cons O O ?_ ?_
  ·intro gv X mq hh o hX
   have hsN:=o.st k
   intro i6 bt
   obtain⟨kv,_,_,bt⟩:=bt
   have bt:Pt _ _ (AN.sl B1) i6 c.Places:=bt
   exact AI 1 (Al A6 hsN.1 O bt Fq O λli i7=>AQ i7)
  refine CC.cons O O ?_ ?_
  ·intro gv X mq hh o hX
   have hsN:=o.st k
   intro i8 bu
   obtain⟨kw,_,_,bu⟩:=bu
   have bu:Sl _ _ B1 i8 c.Places:=bu
   exact AI 1 (Ak O bu Ez O λi9=>AQ ⟨O,(JY i9)⟩)
  refine Md O O ?_ ?_
  ·intro gv X mq hh o hX
   have hsN:=SX.fz (X:=X) k o
   intro lj db
   obtain⟨kx,_,_,db⟩:=db
   obtain⟨rfl,ll⟩:=db
   refine JD (r:=AN.int) (zx:=0) FJ O ⟨O,by unfold AE;omega⟩ O O it O O hsN λlm lo gp ja=>?_
   have hsG:=gp.pick (.tail .head)
   obtain⟨F210,hF211,jb,lp,jc⟩:=OW.done k.1 o hX ja hsG
   exact C1 jb ⟨F210,hF211,jc⟩
  refine CC.cons O O ?_ ?_
  ·intro gv X mq hh o hX
   have hsN:=o.st k
   intro jd bv je bw lq dc lr dd
   obtain⟨gq,_,_,bv⟩:=bv
   have bv:Rd _ _ B8 jd c:=bv
   obtain⟨gr,_,_,bw⟩:=bw
   have bw:Rd _ _ FY je d:=bw
   obtain⟨gs,_,_,dc⟩:=dc
   obtain⟨ls,lt,lu,lv,lw,lx,rfl,ly,jf,bx⟩:=dc
   obtain⟨gt,dx,rfl,lz⟩:=OW.oolen bx mh
   obtain⟨gu,dy,rfl,l0⟩:=OW.oslen bx (mt mh)
   obtain⟨gw,dz,rfl,l1⟩:=jf.len
   obtain⟨gx,d0,rfl,l2⟩:=OW.oslen bx (mt (mt mh))
   obtain⟨gy,d1,rfl,l3⟩:=OW.oslen bx (mt (mt (mt mh)))
   obtain⟨gz,d2,rfl,l4⟩:=OW.oslen bx (mt (mt (mt (mt mh))))
   obtain⟨g0,_,_,dd⟩:=dd
   obtain⟨g1,d3,rfl,l5⟩:=OW.oslen dd mh
   refine AI 1 ?_
   obtain⟨l6,l7,l8,l9,ma,mb,mc,md,rfl,me,jg,mf,jh,ji,jj,jk,jl,jm,jn,mg⟩:=B8.ex bv
   obtain⟨mi,mj,ml,mm,mn,rfl,jo,jp,jq,jr,js⟩:=FY.ex bw
   obtain⟨g2,d4,rfl,mp⟩:=(jg).len
   obtain⟨g3,d5,rfl,mr⟩:=(jh).len
   obtain⟨g4,d6,rfl,ms⟩:=(ji).len
   obtain⟨g5,d7,rfl,mu⟩:=(jj).len
   obtain⟨g6,d8,rfl,mv⟩:=(jk).len
   obtain⟨g7,d9,rfl,mw⟩:=(jl).len
   obtain⟨g8,ea,rfl,mx⟩:=(jm).len
   obtain⟨g9,eb,rfl,my⟩:=(jn).len
   obtain⟨ha,ec,rfl,mz⟩:=(jo).len
   obtain⟨hc,ed,rfl,m0⟩:=(jp).len
   obtain⟨hd,ee,rfl,m1⟩:=(jq).len
   obtain⟨he,ef,rfl,m2⟩:=(jr).len
   obtain⟨hg,eg,rfl,m3⟩:=(js).len
   exact H1 (cs:=[.string c.Name,(.slice g2 c.Owners.length d4),vI c.Cells,(.slice g3 c.Places.length d5),(.slice g4 c.Links.length d6),(.slice g5 c.Towns.length d7),(.slice g6 c.Gauges.length d8),(.slice g7 c.Roads.length d9),(.slice g8 c.Shelters.length ea),(.slice g9 c.Room.length eb),vI c.Err,(.slice ha d.Rain.length ec),(.slice hc d.Faults.length ed),(.slice hd d.Cmds.length ee),(.slice he d.Takes.length ef),(.slice hg d.Swaps.length eg),vI g.Hour,(.slice gt g.Own.length dx),(.slice gu g.Rem.length dy),(.slice gw g.Queue.length dz),(.slice gx g.Gates.length d0),(.slice gy g.In.length d1),(.slice gz g.Out.length d2),vN,(.slice g1 (List.replicate ((↑c.Places.length:Int):Int).toNat (0:Int)).length d3),vN]) cX O O O (AQ (by rw[←gq,←gr,←gs,←g0];rfl))
  refine Md O O ?_ ?_
  ·intro gv X mq hh o hX
   have hsN:=SX.fz (X:=X) k o
   refine Cn cH O hsN λm4 m5 hi jt=>?_
   have hsG:=hi.pick (.tail .head)
   obtain⟨F332,hF333,ju,m6,jv⟩:=OW.done k.1 o hX jt hsG
   exact C1 ju ⟨F332,hF333,⟨_,O,jv⟩⟩
  exact CC.skip (by kernel_rfl) (trivial)
 intro ei de ky bz a2 ck jw a3 jx a4 m7 df m8 dg ej dh m9 di
 obtain⟨hj,a3⟩:=a3
 obtain⟨hk,a4⟩:=a4
 obtain⟨hl,df⟩:=df
 obtain⟨hm,dg⟩:=dg
 obtain⟨kz,dh⟩:=dh
 obtain⟨k1,di⟩:=di
 obtain⟨na,nb,nc,nd,ne,nf,rfl,b0,ek,jy⟩:=df
 obtain⟨b1,rfl,jz⟩:=di
 have ae:=(T3.cons (T3.cons (T3.cons (T3.nil k bz a2) ck (j:=3) O jy) ck (j:=7) O dg) ck (j:=9) O jz).st
 simp only[List.cons_append,List.nil_append] at ae
 have a3:=Rd.mono (S':=(SX ax cj ei (UX de))) a3 ⟨λb hb=>(SX.ext k.1 bz (Xw a2)).sub b hb,λ_ _=>rfl,Nat.le_refl _⟩
 have a3:Rd _ _ B8 jw c:=a3
 have a4:=Rd.mono (S':=(SX ax cj ei (UX de))) a4 ⟨λb hb=>(SX.ext k.1 bz (Xw a2)).sub b hb,λ_ _=>rfl,Nat.le_refl _⟩
 have a4:Rd _ _ FY jx d:=a4
 obtain⟨ng,nh,ni,nj,nk,nl,nm,nn,rfl,b2,el,b3,em,en,eo,ep,eq,er,es,b4⟩:=B8.ex a3
 obtain⟨af,G,rfl,no⟩:=(el).len
 obtain⟨ag,H,rfl,np⟩:=(em).len
 obtain⟨ah,I,rfl,nq⟩:=(en).len
 obtain⟨ai,J,rfl,nr⟩:=(eo).len
 obtain⟨aj,K,rfl,ns⟩:=(ep).len
 obtain⟨ak,M,rfl,nt⟩:=(eq).len
 obtain⟨am,Q,rfl,nu⟩:=(er).len
 obtain⟨an,U,rfl,nv⟩:=(es).len
 obtain⟨nw,nx,ny,nz,n0,rfl,et,eu,ew,ey,ez⟩:=FY.ex a4
 obtain⟨ao,V,rfl,n2⟩:=(et).len
 obtain⟨ap,W,rfl,n3⟩:=(eu).len
 obtain⟨aq,Y,rfl,n4⟩:=(ew).len
 obtain⟨ar,Z,rfl,n5⟩:=(ey).len
 obtain⟨au,ab,rfl,n6⟩:=(ez).len
 obtain⟨cl,bf,rfl,n7⟩:=ae.oolen (mt (mt mh))
 obtain⟨bg,ay,rfl,n8⟩:=ae.oslen (mt (mt (mt mh)))
 obtain⟨cm,bh,rfl,n9⟩:=(ek).len
 obtain⟨cn,bi,rfl,oa⟩:=ae.oslen (mt (mt (mt (mt mh))))
 obtain⟨co,bj,rfl,ob⟩:=ae.oslen (mt (mt (mt (mt (mt mh)))))
 obtain⟨bk,az,rfl,oc⟩:=ae.oslen (mt (mt (mt (mt (mt (mt mh))))))
 obtain⟨cp,bl,rfl,od⟩:=ae.oslen (mt mh)
 obtain rfl:Value.agg #[.string c.Name,(.slice af c.Owners.length G),vI c.Cells,(.slice ag c.Places.length H),(.slice ah c.Links.length I),(.slice ai c.Towns.length J),(.slice aj c.Gauges.length K),(.slice ak c.Roads.length M),(.slice am c.Shelters.length Q),(.slice an c.Room.length U),vI c.Err,(.slice ao d.Rain.length V),(.slice ap d.Faults.length W),(.slice aq d.Cmds.length Y),(.slice ar d.Takes.length Z),(.slice au d.Swaps.length ab),vI g.Hour,(.slice cl g.Own.length bf),(.slice bg g.Rem.length ay),(.slice cm g.Queue.length bh),(.slice cn g.Gates.length bi),(.slice co g.In.length bj),(.slice bk g.Out.length az),vN,(.slice cp (List.replicate ((↑c.Places.length:Int):Int).toNat (0:Int)).length bl),vN]=ej:=((by rw[dh,←hj,←hk,←hl,←hm];rfl:ej=Value.agg #[.string c.Name,(.slice af c.Owners.length G),vI c.Cells,(.slice ag c.Places.length H),(.slice ah c.Links.length I),(.slice ai c.Towns.length J),(.slice aj c.Gauges.length K),(.slice ak c.Roads.length M),(.slice am c.Shelters.length Q),(.slice an c.Room.length U),vI c.Err,(.slice ao d.Rain.length V),(.slice ap d.Faults.length W),(.slice aq d.Cmds.length Y),(.slice ar d.Takes.length Z),(.slice au d.Swaps.length ab),vI g.Hour,(.slice cl g.Own.length bf),(.slice bg g.Rem.length ay),(.slice cm g.Queue.length bh),(.slice cn g.Gates.length bi),(.slice co g.In.length bj),(.slice bk g.Out.length az),vN,(.slice cp (List.replicate ((↑c.Places.length:Int):Int).toNat (0:Int)).length bl),vN])).symm
 refine DW (vs:=[.string c.Name,(.slice af c.Owners.length G),vI c.Cells,(.slice ag c.Places.length H),(.slice ah c.Links.length I),(.slice ai c.Towns.length J),(.slice aj c.Gauges.length K),(.slice ak c.Roads.length M),(.slice am c.Shelters.length Q),(.slice an c.Room.length U),vI c.Err,(.slice ao d.Rain.length V),(.slice ap d.Faults.length W),(.slice aq d.Cmds.length Y),(.slice ar d.Takes.length Z),(.slice au d.Swaps.length ab),vI g.Hour,(.slice cl g.Own.length bf),(.slice bg g.Rem.length ay),(.slice cm g.Queue.length bh),(.slice cn g.Gates.length bi),(.slice co g.In.length bj),(.slice bk g.Out.length az),vN,(.slice cp (List.replicate ((↑c.Places.length:Int):Int).toNat (0:Int)).length bl),vN]) O O O O cR O ae .head O λoe hn u=>AZ (kp [9,6,3] O) (WF.sl ?_)
 have ho:=hn.nil BJ 50
 have hp:=ho.nil Ar 60
 have hq:=hp.sel [2,3,3,3,3,3,1,1,0,0] 0 O
 have e0:=el.mono' u
 have e1:=em.mono' u
 have e2:=en.mono' u
 have e3:=eo.mono' u
 have e4:=ep.mono' u
 have e6:=eq.mono' u
 have e7:=er.mono' u
 have e8:=es.mono' u
 have e9:=et.mono' u
 have fb:=eu.mono' u
 have fc:=ew.mono' u
 have fd:=ey.mono' u
 have fe:=ez.mono' u
 have ff:=ek.mono' u
 obtain⟨dj,ht,E⟩:=bd E
 refine Ct O O O gI O (M4 (p0_w:=(⟨c,d,g,([]:List Ah),(List.replicate ((↑c.Places.length:Int):Int).toNat (0:Int)),([]:List Av)⟩:An)) hq b2 e0 b3 e1 e2 e3 e4 e6 e7 e8 b4 e9 fb fc fd fe b0 ff ht) λog oh oi y p=>?_
 obtain⟨oj,rfl,hu⟩:=p
 refine AZ (kp [9,6,3] O) (WF.sl ?_)
 have fg:=e0.mono' y
 have fh:=e1.mono' y
 have fi:=e2.mono' y
 have fj:=e3.mono' y
 have fk:=e4.mono' y
 have fl:=e6.mono' y
 have fm:=e7.mono' y
 have fn:=e8.mono' y
 have fo:=e9.mono' y
 have fp:=fb.mono' y
 have fq:=fc.mono' y
 have fr:=fd.mono' y
 have fs:=fe.mono' y
 have ft:=ff.mono' y
 obtain⟨j0,hv,E⟩:=bd E
 refine Ct O O O gH O (M3 (p0_w:=(⟨c,d,({ g with Gates:=dj}:Am),([]:List Ah),(List.replicate ((↑c.Places.length:Int):Int).toNat (0:Int)),([]:List Av)⟩:An)) hu b2 fg b3 fh fi fj fk fl fm fn b4 fo fp fq fr fs b0 ft hv) λok ol om z p=>?_
 obtain⟨oo,rfl,hx⟩:=p
 refine AZ (kp [9,6,3] O) (WF.sl ?_)
 have fu:=fg.mono' z
 have fv:=fh.mono' z
 have fw:=fi.mono' z
 have fx:=fj.mono' z
 have fy:=fk.mono' z
 have f0:=fl.mono' z
 have f1:=fm.mono' z
 have f2:=fn.mono' z
 have f3:=fo.mono' z
 have f4:=fp.mono' z
 have f5:=fq.mono' z
 have f6:=fr.mono' z
 have f7:=fs.mono' z
 have f8:=ft.mono' z
 obtain⟨ac,hy,E⟩:=bd E
 refine Ct O O O gG O (NM (p0_w:=(⟨c,d,(⟨g.Hour,j0,g.Rem,g.Queue,dj,g.In,g.Out⟩:Am),([]:List Ah),(List.replicate ((↑c.Places.length:Int):Int).toNat (0:Int)),([]:List Av)⟩:An)) hx b2 fu b3 fv fw fx fy f0 f1 f2 b4 f3 f4 f5 f6 f7 b0 f8 hy) λop oq os A p=>?_
 obtain⟨ot,a8,j1,rfl,h0⟩:=p
 refine AZ (kp [9,6,3] O) (WF.sl ?_)
 have f9:=fu.mono' A
 have ga:=fv.mono' A
 have gb:=fw.mono' A
 have gc:=fx.mono' A
 have gd:=fy.mono' A
 have ge:=f0.mono' A
 have gf:=f1.mono' A
 have gg:=f2.mono' A
 have gh:=f3.mono' A
 have gi:=f4.mono' A
 have gj:=f5.mono' A
 have gk:=f6.mono' A
 have gl:=f7.mono' A
 obtain⟨s,h4,E⟩:=bd E
 refine Ct O O O gE O (Lb (p0_w:=(⟨c,d,(⟨g.Hour,ac.1,g.Rem,g.Queue,dj,ac.2.1,g.Out⟩:Am),ac.2.2,(List.replicate ((↑c.Places.length:Int):Int).toNat (0:Int)),([]:List Av)⟩:An)) h0 b2 f9 b3 ga gb gc gd ge gf gg b4 gh gi gj gk gl b0 (f8.mono' A) h4) λou dk dl C p=>?_
 obtain⟨j2,cx,a9,ba,rfl,dm⟩:=p
 refine AZ (kp [9,6,3] O) (AC (AH (Af O (k6.mono (c8.trans (c9.trans (c6.trans ((SX.ext k.1 bz (Xw a2)).trans (u.trans (y.trans (z.trans (A.trans C))))))))) BO C0 O λov j3=>Al A6 dm.1 O j3 Fq O λox j4=>Ak O j4 Ez O λoy=>AA O (AM (kp [27,26,9,6] O) (Aj (λa w=>∃(b5:Value) (a5:List (List Int)) (b6:Value) (a6:List Int) (b7:Value) (a7:List Int) (b8:Value) (b9:List Ah) (ca:Value) (ad:List Av),IV B dk dl (53,[]) a w [(9,vP b1 0),(6,vP da 0)] (OS (AN.sl AN.int) 29 b5 a5::OS AN.int 3 b6 a6::OS AN.int 3 b7 a7::OS BJ 50 b8 b9::OS Ar 60 ca ad::Bx b1 84 [.string c.Name,(.slice af c.Owners.length G),vI c.Cells,(.slice ag c.Places.length H),(.slice ah c.Links.length I),(.slice ai c.Towns.length J),(.slice aj c.Gauges.length K),(.slice ak c.Roads.length M),(.slice am c.Shelters.length Q),(.slice an c.Room.length U),vI c.Err,(.slice ao d.Rain.length V),(.slice ap d.Faults.length W),(.slice aq d.Cmds.length Y),(.slice ar d.Takes.length Z),(.slice au d.Swaps.length ab),vI g.Hour,b5,b6,cx,a9,a8,b7,b8,ba,ca]::OS Ar 60 cx s.2.1::OS BE 69 a9 s.2.2.1::OS AN.int 3 a8 ac.2.1::OS AN.int 3 ba s.2.2.2::Bx da 36 [vI 0,vN,vN,vN,vN,vN,vN]::L) λ_ _=>FU N g ac s a5 a6 a7 b9 ad=some r) ?_ ?_)))))
 ·refine A3 (λn1=>λa w=>∃(cb:Int) (cy:Value) (cc:List (List Int)) (cz:Value) (cd:List Int) (c0:Value) (ce:List Int) (c1:Value) (cf:List Ah) (c2:Value) (cg:List Av),IV B dk dl (53,[]) a w [(26,vI (↑c.Places.length:Int)),(9,vP b1 0),(6,vP da 0),(27,vI cb)] (OS (AN.sl AN.int) 29 cy cc::OS AN.int 3 cz cd::OS AN.int 3 c0 ce::OS BJ 50 c1 cf::OS Ar 60 c2 cg::Bx b1 84 [.string c.Name,(.slice af c.Owners.length G),vI c.Cells,(.slice ag c.Places.length H),(.slice ah c.Links.length I),(.slice ai c.Towns.length J),(.slice aj c.Gauges.length K),(.slice ak c.Roads.length M),(.slice am c.Shelters.length Q),(.slice an c.Room.length U),vI c.Err,(.slice ao d.Rain.length V),(.slice ap d.Faults.length W),(.slice aq d.Cmds.length Y),(.slice ar d.Takes.length Z),(.slice au d.Swaps.length ab),vI g.Hour,cy,cz,cx,a9,a8,c0,c1,ba,c2]::OS Ar 60 cx s.2.1::OS BE 69 a9 s.2.2.1::OS AN.int 3 a8 ac.2.1::OS AN.int 3 ba s.2.2.2::Bx da 36 [vI 0,vN,vN,vN,vN,vN,vN]::L) λ_ _=>AE cb∧FT N c d g ac s (FU N g ac s) n1 cb cc cd ce cf cg=some r) N ?_ ?_ ?_
  ·intro aa ww hf hw
   have h5:=dm.sel [1,1,4,4,5,0,0,0,0,0,0] 0 O
   exact⟨0,j2,s.1,(.slice bg g.Rem.length ay),g.Rem,(.slice bk g.Out.length az),g.Out,j1,ac.2.2,((vN)),([]:List Av),_,_,hf.sub (kp [26,9,6,27] O),hw,h5,(B9.refl dk dl),(iq (n:=0) O),E⟩
  ·rintro aa ww ⟨_,_,_,_,_,_,_,_,_,_,_,_,_,_,_,_,_,_,E⟩
   rw[FT] at E;cases E
  rintro n1 aa ww ⟨cb,cy,cc,cz,cd,c0,ce,c1,cf,c2,cg,oz,o0,hf,hw,dn,D,j5,E⟩
  refine Ac ?_ hf hw
  clear hf hw ww aa
  rw[FT] at E
  refine AH (Ao O (AM (kp [28,26,9,6,27] O) (AC (AX O E (λj6 E=>?_) (λj6 E=>?_)))))
  ·refine AO (AC (A8 (AH (AA O (AL O (kp [10,26,9,6,27] O) (EX (AI 1 (AA O (AG ?_)))))))))
   have h6:=dn.sel [5,0,0,3,3,3,0,0,1,0,0] 0 O
   obtain⟨ch,h7,E⟩:=bd E
   refine Ct O O O gC O (M5 (p0_w:=(⟨c,d,(⟨g.Hour,cc,cd,s.2.1,s.2.2.1,ac.2.1,ce⟩:Am),cf,s.2.2.2,cg⟩:An)) h6 b2 (f9.mono' (C.trans D)) b3 (ga.mono' (C.trans D)) (gb.mono' (C.trans D)) (gc.mono' (C.trans D)) (gd.mono' (C.trans D)) (ge.mono' (C.trans D)) (gf.mono' (C.trans D)) (gg.mono' (C.trans D)) b4 (gh.mono' (C.trans D)) (gi.mono' (C.trans D)) (gj.mono' (C.trans D)) (gk.mono' (C.trans D)) (gl.mono' (C.trans D)) b0 j5 h7) λo3 o4 o5 j7 p=>?_
   obtain⟨j8,j9,ka,kb,kc,rfl,h8⟩:=p
   refine AZ (kp [26,9,6,27] O) (BP (BY (.inl O) (Ai O (AA O (AM (kp [27,26,9,6] O) (WF.nil (λaa ww hf hw=>?_)))))))
   have h9:=h8.sel [1,1,4,4,5,0,0,0,0,0,0] 0 O
   exact⟨(BM (cb+1)),j8,ch.1,j9,ch.2.1,ka,ch.2.2.1,kb,ch.2.2.2.1,kc,ch.2.2.2.2,_,_,hf.sub (kp [26,9,6,27] O),hw,h9,(D.trans j7),(BG _),E⟩
  refine BA O (λaa ww hf hw=>?_)
  exact⟨cy,cc,cz,cd,c0,ce,c1,cf,c2,cg,_,_,hf.sub (kp [9,6] O),hw,dn,D,E⟩
 rintro aa ww ⟨b5,a5,b6,a6,b7,a7,b8,b9,ca,ad,o6,o7,hf,hw,bm,kd,E⟩
 refine Ac ?_ hf hw
 clear hf hw ww aa
 rw[FU] at E
 refine WF.sl (AI 5 (AD CZ O (AD IL O (AT A6 bm O (mt (mt (mt (mt (mt mh))))) O Ju O (AD Rh O (AT A6 bm O (mt (mt (mt (mt (mt mh))))) O Ju O (AG ?_)))))))
 obtain⟨ia,E⟩:=MU E
 refine JT (r:=Ar) (l:=s.2.1) (xs:=ad) O O Qp O (St.src bm (mt (mt (mt (mt mh))))) O ia O bm (λ_=>(.tail (.tail (.tail (.tail (.tail (.tail .head))))))) λo8 o9 dp ke=>AI 2 (AD CZ O (AD IL O (AG ?_)))
 obtain⟨aw,av,rfl,pa⟩:=dp.oslen (mt (mt (mt (mt (mt (mt mh))))))
 refine H2 (vs:=[(.slice aw (s.2.1++ad).length av)]) (cs':=[.string c.Name,(.slice af c.Owners.length G),vI c.Cells,(.slice ag c.Places.length H),(.slice ah c.Links.length I),(.slice ai c.Towns.length J),(.slice aj c.Gauges.length K),(.slice ak c.Roads.length M),(.slice am c.Shelters.length Q),(.slice an c.Room.length U),vI c.Err,(.slice ao d.Rain.length V),(.slice ap d.Faults.length W),(.slice aq d.Cmds.length Y),(.slice ar d.Takes.length Z),(.slice au d.Swaps.length ab),vI g.Hour,b5,b6,(.slice aw (s.2.1++ad).length av),a9,a8,b7,b8,ba,ca]) O O O O Ju O dp (.tail (.tail (.tail (.tail (.tail .head))))) O O λpb dq kf=>AZ (kp [9,6] O) (WF.sl (AI 6 (AD CZ O (AD IM O (AT A6 dq O (mt (mt (mt (mt (mt mh))))) O Ae O (Ai O (AD CZ O (AD IM O (AG (H2 (vs:=[vI (BM (g.Hour+1))]) (cs':=[.string c.Name,(.slice af c.Owners.length G),vI c.Cells,(.slice ag c.Places.length H),(.slice ah c.Links.length I),(.slice ai c.Towns.length J),(.slice aj c.Gauges.length K),(.slice ak c.Roads.length M),(.slice am c.Shelters.length Q),(.slice an c.Room.length U),vI c.Err,(.slice ao d.Rain.length V),(.slice ap d.Faults.length W),(.slice aq d.Cmds.length Y),(.slice ar d.Takes.length Z),(.slice au d.Swaps.length ab),vI (BM (g.Hour+1)),b5,b6,(.slice aw (s.2.1++ad).length av),a9,a8,b7,b8,ba,ca]) O O O O Ae O dq (.tail (.tail (.tail (.tail (.tail .head))))) O O λpc t kg=>AZ (kp [9,6] O) (AC ?_)))))))))))
 obtain⟨cq,bn,rfl,pd⟩:=t.oslen mh
 obtain⟨cr,bo,rfl,pe⟩:=t.oslen (mt mh)
 obtain⟨ct,bp,rfl,pf⟩:=t.oslen (mt (mt (mt (mt (mt (mt (mt mh)))))))
 obtain⟨cu,bq,rfl,pg⟩:=t.oslen (mt (mt (mt (mt (mt (mt (mt (mt mh))))))))
 obtain⟨cv,br,rfl,ph⟩:=t.oslen (mt (mt mh))
 obtain⟨dr,c3,rfl,pi⟩:=t.oslen (mt (mt (mt mh)))
 obtain⟨ds,c4,rfl,pj⟩:=t.oslen (mt (mt (mt (mt (mt (mt (mt (mt (mt mh)))))))))
 obtain⟨ib,eh,rfl,pk⟩:=t.oslen (mt (mt (mt (mt mh))))
 refine Zd (λw=>w.heap[b1]? =some (.cells ([.string c.Name,(.slice af c.Owners.length G),vI c.Cells,(.slice ag c.Places.length H),(.slice ah c.Links.length I),(.slice ai c.Towns.length J),(.slice aj c.Gauges.length K),(.slice ak c.Roads.length M),(.slice am c.Shelters.length Q),(.slice an c.Room.length U),vI c.Err,(.slice ao d.Rain.length V),(.slice ap d.Faults.length W),(.slice aq d.Cmds.length Y),(.slice ar d.Takes.length Z),(.slice au d.Swaps.length ab),vI (BM (g.Hour+1)),(.slice cq a5.length bn),(.slice cr a6.length bo),(.slice aw (s.2.1++ad).length av),(.slice ct s.2.2.1.length bp),(.slice cu ac.2.1.length bq),(.slice cv a7.length br),(.slice dr b9.length c3),(.slice ds s.2.2.2.length c4),(.slice ib ad.length eh)]:List Value).toArray 84 (0,0))) mo (T0 0 O (by kernel_rfl) (λw hw=>t.bxW (mt (mt (mt (mt (mt mh))))) hw) O CZ O (QB 1 (vs:=[vI (BM (g.Hour+1)),(.slice cq a5.length bn),(.slice cr a6.length bo),(.slice aw (s.2.1++ad).length av),(.slice ct s.2.2.1.length bp),(.slice cu ac.2.1.length bq),(.slice cv a7.length br)]) O (by kernel_rfl) (λw hw=>t.bxW (mt (mt (mt (mt (mt mh))))) hw) O (λw hw=>hw) O O G8 O O (T0 2 O (by kernel_rfl) (λw hw=>t.bxW (mt (mt (mt (mt (mt mh))))) hw) O Np O (QB 3 (vs:=[(.slice dr b9.length c3)]) O (by kernel_rfl) (λw hw=>t.bxW (mt (mt (mt (mt (mt mh))))) hw) O (λw hw=>hw) O O SL O O (T0 4 O (by kernel_rfl) (λw hw=>t.bxW (mt (mt (mt (mt (mt mh))))) hw) O Jl O (QB 5 (vs:=[(.slice ds s.2.2.2.length c4)]) O (by kernel_rfl) (λw hw=>t.bxW (mt (mt (mt (mt (mt mh))))) hw) O (λw hw=>hw) O O BX O O (Y1 6 O O (by kernel_rfl) (DW (vs:=[vI (BM (g.Hour+1)),(.slice cq a5.length bn),(.slice cr a6.length bo),(.slice aw (s.2.1++ad).length av),(.slice ct s.2.2.1.length bp),(.slice cu ac.2.1.length bq),(.slice cv a7.length br)]) O O O O G8 O t (.tail (.tail (.tail (.tail (.tail (.tail (.tail (.tail (.tail (.tail .head)))))))))) O λpl bs kh=>U3 (λw hw=>bs.bxW (mt (mt (mt (mt (mt mh))))) hw) (Xn 7 O (by kernel_rfl) (λw hw=>bs.bxW (mt (mt (mt (mt (mt mh))))) hw) O O (Xn 8 O (by kernel_rfl) (λw hw=>bs.bxW (mt (mt (mt (mt (mt mh))))) hw) O O (U4 (by kernel_rfl) (kp [8,7,6] O) (Ad (λaa ww hf hw=>?_)))))))))))))
 obtain⟨pm,ic,ki,kj⟩:=bs.pubs .head
 obtain⟨pn,id,gm,kk⟩:=ic.pubs .head
 obtain⟨po,ie,dt,kl⟩:=id.pubs (.tail (.tail (.tail (.tail .head))))
 obtain⟨pp,ig,c5,km⟩:=ie.pubs (.tail (.tail (.tail (.tail .head))))
 obtain⟨pq,ih,ci,kn⟩:=ig.pubs (.tail (.tail (.tail (.tail .head))))
 obtain⟨pr,ii,bb,ko⟩:=ih.pubs .head
 have du:=ii.sel [0,2,2] 2 O
 have ij:=du.drop (.tail (.tail .head))
 cases E
 exact KD hf O hw (IF (Xq hf hw du O (mt (mt mh)) G8 O) (IF (Ir hf (v:=_) O) (IF (Ir hf (v:=_) O) KC))) O (e5.trans (c8.trans (c9.trans (c6.trans ((SX.ext k.1 bz (Xw a2)).trans (u.trans (y.trans (z.trans (A.trans (C.trans (kd.trans (ke.trans (kf.trans (kg.trans (kh.trans (ki.trans (gm.trans (dt.trans (c5.trans (ci.trans bb)))))))))))))))))))) ⟨_,_,_,O,(CP.mk (x:=(⟨(BM (g.Hour+1)),a5,a6,(s.2.1++ad),s.2.2.1,ac.2.1,a7⟩:Am)) (BG _) (kj.mono' (gm.trans (dt.trans (c5.trans (ci.trans bb))))) (kk.mono' (dt.trans (c5.trans (ci.trans bb)))) (kl.mono' (c5.trans (ci.trans bb))) (km.mono' (ci.trans bb)) (kn.mono' bb) ko),ij⟩
end Go.Proofs.YtblcgjadhemlbaaGreat
