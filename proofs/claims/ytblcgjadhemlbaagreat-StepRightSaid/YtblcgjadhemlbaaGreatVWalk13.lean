import Derived.Test.YtblcgjadhemlbaaGreatVWalk12
namespace Go.Proofs.YtblcgjadhemlbaaGreat
set_option linter.all false
open Go.RowKit
open Go.Proofs.Tryz
set_option maxRecDepth 10000
set_option maxHeartbeats 2000000
variable {N:Nat}{S:Nat→Prop}{L:List HP}{h:BL}
def PP (hs:St S L h) {c:Value}{d:D1}(u:Rd S h Cd c d) {j:Int}(y:AH j) {b:Int}(s:AH b) {r:Int×Int}(E:IE N d j b=some r):
 C5 prog 65 #[c,vI j,vI b] S h (λv S' h'=>v= .tuple #[vI r.1,vI r.2]∧AH r.1∧AH r.2∧St S' (L) h'):=by
 refine Bv (l:=[c,vI j,vI b]) 51 func65 O ntmps65 O λB=>?_
 rw[IE] at E
 refine WF.sl (Cm O u (λe=>by cases e) O hs λq1 S2 h3 A K J=>AF 2 (AY O (AY O (AG (AZ (kp [3,1,2] O) (AE (CX (.inl O) A (AA O (A8 O J D1.f_Num SI O λq7 k8=>A9 CL A.1 O k8 A7 O λr9=>A8 O J D1.f_Den Lb O λad M=>A9 CL A.1 O M A7 O λQ=>?_)))))))))
 obtain⟨i,H,E⟩:=bd E
 refine It (v:= .tuple #[vI i.1,vI i.2.1,.bool i.2.2]) (Ψ:=AH i.1∧AH i.2.1) O O O Tu O (λh' o=>(Is (St.all h') y r9 Q H).mono λ_ _ _ _ p=>⟨p.1,⟨p.2.1,p.2.2.1⟩⟩) λU=>?_
 obtain⟨V,ae⟩:=U
 refine AA O (CS O (CS O (CS O (AY O (AY O (AY O (B3 (kp [10,9,8,3,2] O) λC k x=>AE (AI (AA O (CE O (AN (kp [23,9,8,3,2] O) (AX O E (λW E=>?_) (λW E=>?_)))))))))))))
 ·refine AI (AY O (AM O (kp [7,6] O) (A5 (λF G g t=>?_))))
  cases E
  exact Kn g O t (Ix (JP g (v:=_) O) (Ix (JP g (v:=_) O) Km)) O (K.trans x) ⟨O,(iq (n:=0) O),(iq (n:=0) O),k⟩
 refine AT (AI (AM O (kp [11,9,8,3,2] O) (AE (AI (AA O (HQ O (AA O (AW 5 31 (.bool ((decide (0≤b))&&(decide (b<d.L)))) ?_ ?_))))))))
 ·cases af:(decide (0≤b))
  ·exact A3 O O
  exact AB O (AA O (AB O (A8 O (J.mono x) D1.f_Den Lb O λag X=>AB O (A9 BY k.1 O X A7 O λah=>AB O (BK O (AL O (AV O)))))))
 refine AN (kp [31,11,9,8,3,2] O) (HN (λa w=>∃(z:Int),IV B S2 C (51,[]) a w [(9,vI i.2.1),(8,vI i.1),(3,q1),(11,vI z)] (L) λ_ _=>AH z∧Gj N d i z=some r) ?_ ?_)
 ·refine AX O E (λY E=>?_) (λY E=>?_)
  ·refine CN (.inl O) (AA O (AM O (kp [11,9,8,3] O) (WF.nil (λF G g t=>?_))))
   exact⟨b,_,_,g.sub (kp [9,8,3,11] O),t,k,(Cv.refl S2 C),s,E⟩
  refine AT (WF.nil (λF G g t=>?_))
  exact⟨0,_,_,g.sub (kp [9,8,3,11] O),t,k,(Cv.refl S2 C),(iq (n:=0) O),E⟩
 rintro F G ⟨z,ai,aj,g,t,m,D,ak,E⟩
 refine A6 ?_ g t
 clear g t G F
 rw[Gj] at E
 refine AE (AI (AA O (AA O (BB O ?_))))
 have I:=J.mono (x.trans D)
 refine A8 O I D1.f_Den Lb O λal Z=>A9 BY m.1 O Z A7 O λam=>BK O (AN (kp [38,9,8,3,11] O) (AX O E (λab E=>?_) (λab E=>?_)))
 ·refine AI (AA O (AA O (AA O (BB O (AY O (AM O (kp [7,6] O) (A5 (λF G g t=>?_))))))))
  cases E
  exact Kn g O t (Ix (JP g (v:=_) O) (Ix (JP g (v:=_) O) Km)) O (K.trans (x.trans D)) ⟨O,V,(B1 _),m⟩
 refine AT (AE (CN (.inr ⟨mo,by kernel_rfl⟩) (AA O (BB O (AA O (AA O (BB O (A8 O I D1.f_Den Lb O λan ac=>A9 BY m.1 O ac A7 O λao=>Dk O (AY O (AM O (kp [7,6] O) (A5 (λF G g t=>?_))))))))))))
 cases E
 exact Kn g O t (Ix (JP g (v:=_) O) (Ix (JP g (v:=_) O) Km)) O (K.trans (x.trans D)) ⟨O,(B1 _),(B1 _),m⟩
def NX {u:Nat}{p0_w:A4}{Y:Value}{Z:Value}{ab:Value}{ac:Value}{ad:Value}{ae:Value}{af:Value}{ag:Value}{D:Value}{I:Value}{V:Value}{W:Value}{X:Value}{ax:Value}{t:Value}{c:Value}{d:Value}{g:Value}{ay:Value}{az:Value}{j:Value}{a1:Value}(hs:St S (Bx u 84 [.string p0_w.b.F,Y,vI p0_w.b.R,Z,ab,ac,ad,ae,af,ag,vI p0_w.b.U,D,I,V,W,X,vI p0_w.s.B,ax,t,c,d,g,ay,az,j,a1]::OS (BW.sl AJ) 29 ax p0_w.s.G::OS AJ 3 t p0_w.s.M::OS BI 60 c p0_w.s.J::OS Bu 69 d p0_w.s.Q::OS AJ 3 g p0_w.s.O::OS AJ 3 ay p0_w.s.P::OS CF 50 az p0_w.moves::OS AJ 3 j p0_w.peaks::OS BI 60 a1 p0_w.sent::L) h) (ao:p0_w.b.F.size≤maxLen) (cp:Sl S h BW.str Y p0_w.b.H) (ap:AH p0_w.b.R) (ba:Sl S h Cd Z p0_w.b.A) (cq:Sl S h Ce ab p0_w.b.E) (cr:Sl S h HB ac p0_w.b.Ag) (ct:Sl S h FL ad p0_w.b.Aq) (cu:Sl S h G2 ae p0_w.b.At) (cv:Sl S h Dh af p0_w.b.Av) (cw:Sl S h AJ ag p0_w.b.Au) (am:AH p0_w.b.U) (bt:Sl S h AJ D p0_w.in_.Aa) (bu:Sl S h GL I p0_w.in_.Am) (bv:Sl S h JE V p0_w.in_.Ar) (bw:Sl S h GV W p0_w.in_.Ae) (bx:Sl S h HC X p0_w.in_.Az) (an:AH p0_w.s.B) {z:Int}(a2:AH z) {r:(List (List Int))×(List Int)×(List Int)×(List BA)×(List BE)}(E:GS N p0_w z=some r):
 C5 prog 34 #[vP u 0,vI z] S h (λv S' h'=>∃b5 b7 b8 b9 ca:Value,v= .tuple #[]∧St S' (Bx u 84 [.string p0_w.b.F,Y,vI p0_w.b.R,Z,ab,ac,ad,ae,af,ag,vI p0_w.b.U,D,I,V,W,X,vI p0_w.s.B,b5,b7,c,d,g,b8,b9,j,ca]::OS (BW.sl AJ) 29 b5 r.1::OS AJ 3 b7 r.2.1::OS BI 60 c p0_w.s.J::OS Bu 69 d p0_w.s.Q::OS AJ 3 g p0_w.s.O::OS AJ 3 b8 r.2.2.1::OS CF 50 b9 r.2.2.2.1::OS AJ 3 j p0_w.peaks::OS BI 60 ca r.2.2.2.2::L) h'):=by
 refine Bv (l:=[vP u 0,vI z]) 119 func34 O ntmps34 O λB=>?_
 rw[GS] at E
 refine WF.sl (AF 8 (AA O (C7 O O (AD G4 O (AD Do O (AS BY hs O mh O Gu O (AA O ?_)))))))
 obtain⟨k,ji,E⟩:=bd E
 refine Bz O O ba Fy ji O λq2 k3=>Ci BY hs.1 O k3 KX (λe=>by cases e) O λv4 k5=>AG (Di O2 O hs λb6 h7 jj e9=>?_)
 obtain⟨bz,b0,b1,rfl,jk,jl,jm,jn,f4,f5,jo,jp,ec,ed,jq,f6⟩:=Cd.ex (k5.mono e9)
 refine IA (vs:=[.string k.F,vI k.C,vI k.An,vI k.Aj,bz,b0,vI k.S,vI k.L,vI k.Ak,vI k.K,vI k.Bd,b1]) (cs':=[.string k.F,vI k.C,vI k.An,vI k.Aj,bz,b0,vI k.S,vI k.L,vI k.Ak,vI k.K,vI k.Bd,b1]) O O O (AC O (AC O (AC O (AC O (AC f4.one (AC f5.one (AC O (AC O (AC O (AC O (AC O (AC f6.one FA)))))))))))) KX O jj .head O O λlz f7 av=>AZ (kp [4,0,1] O) (AE (WF.sl (AF 2 (AA O (AA O (AG ?_))))))
 have f8:=f7.sel [1,1,1,1,1,1,1,1,1,1,0] 0 O
 have f9:=cp.mono' (e9.trans av)
 have ga:=ba.mono' (e9.trans av)
 have gb:=cq.mono' (e9.trans av)
 have gc:=cr.mono' (e9.trans av)
 have gd:=ct.mono' (e9.trans av)
 have ge:=cu.mono' (e9.trans av)
 have gf:=cv.mono' (e9.trans av)
 have gg:=cw.mono' (e9.trans av)
 have gh:=bt.mono' (e9.trans av)
 have gi:=bu.mono' (e9.trans av)
 have gj:=bv.mono' (e9.trans av)
 have gl:=bw.mono' (e9.trans av)
 have gm:=bx.mono' (e9.trans av)
 obtain⟨gn,gp,E⟩:=bd E
 refine DU O O O iO O (NU (p0_w:=p0_w) f8 ao f9 ap ga gb gc gd ge gf gg am gh gi gj gl gm an a2 gp) λl0 l1 l2 aw p=>?_
 have gq:=p
 refine AF 2 (AA O (AA O (AG ?_)))
 have gr:=gq.sel [1,1,1,1,1,1,1,1,1,1,0,0] 0 O
 have dl:=f9.mono' aw
 have dm:=ga.mono' aw
 have dn:=gb.mono' aw
 have dp:=gc.mono' aw
 have dq:=gd.mono' aw
 have dr:=ge.mono' aw
 have ds:=gf.mono' aw
 have dt:=gg.mono' aw
 have du:=gh.mono' aw
 have dv:=gi.mono' aw
 have dw:=gj.mono' aw
 have dx:=gl.mono' aw
 have dy:=gm.mono' aw
 obtain⟨gs,gt,E⟩:=bd E
 refine DU O O O iN O (NY (p0_w:=p0_w) gr ao dl ap dm dn dp dq dr ds dt am du dv dw dx dy an a2 gt) λl3 l4 l5 cx p=>?_
 have gu:=p
 obtain⟨l6,gv,cy,jr⟩:=gu.pubs (.tail (.tail (.tail (.tail (.tail (.tail (.tail (.tail (.tail (.tail (.tail .head)))))))))))
 obtain⟨l7,gw,b2,gx⟩:=gv.pubs .head
 have gy:=jr.mono' b2
 obtain⟨gz,ee,rfl,l8⟩:=(gy).len
 obtain⟨g0,ef,rfl,l9⟩:=(gx).len
 refine Em (cs:=[(.slice gz gn.length ee),(.slice g0 gs.length ef)]) cO O O O O O O O gw λma mb g1 bl=>?_
 have js:=gx.mono' bl
 have jt:=gy.mono' bl
 have g2:=g1.bxos (r:=(BW.sl BJ)) (l:=([gn,gs]:List (List AK))) .head ⟨_,_,O,⟨_,O,jt⟩,⟨_,_,O,⟨_,O,js⟩,O⟩⟩ (by simp [maxLen])
 obtain⟨mc,g3,cz,ju⟩:=g2.pubs .head
 obtain⟨eg,g4,E⟩:=bd E
 refine DU O O O iP O (Ha g3 ju g4) λg5 eh ei bb p=>?_
 have c0:=p
 refine AF 2 (MO c0 mh O MA O λj1=>AA O (AG (AZ (kp [27,26,25,4,0,1] O) (BF (λa w=>∃(bc:Value) (a4:List (List Int)) (be:Value) (a5:List Int) (bf:Value) (a6:List BA) (bg:Value) (a7:List BE),IV B eh ei (119,[]) a w [(4,vP b6 0),(0,vP u 0),(1,vI z)] (OS (BW.sl AJ) 29 bc a4::OS AJ 3 be a5::OS CF 50 bf a6::OS BI 60 bg a7::Bx u 84 [.string p0_w.b.F,Y,vI p0_w.b.R,Z,ab,ac,ad,ae,af,ag,vI p0_w.b.U,D,I,V,W,X,vI p0_w.s.B,bc,t,c,d,g,be,bf,j,bg]::OS AJ 3 t p0_w.s.M::OS BI 60 c p0_w.s.J::OS Bu 69 d p0_w.s.Q::OS AJ 3 g p0_w.s.O::OS AJ 3 j p0_w.peaks::Bx b6 56 [.string k.F,vI k.C,vI k.An,vI k.Aj,bz,b0,vI k.S,vI k.L,vI k.Ak,vI k.K,vI k.Bd,b1]::L) λ_ _=>Ew N p0_w z k a4 a5 a6 a7=some r) ?_ ?_))))
 ·refine BT (λn1=>λa w=>∃(bm:Int) (cb:Value) (bn:List (List Int)) (cc:Value) (bo:List Int) (cd:Value) (bp:List BA) (ce:Value) (bq:List BE),IV B eh ei (119,[]) a w [(26,vI (↑eg.length:Int)),(25,g5),(4,vP b6 0),(0,vP u 0),(1,vI z),(27,vI bm)] (OS (BW.sl AJ) 29 cb bn::OS AJ 3 cc bo::OS CF 50 cd bp::OS BI 60 ce bq::OS BJ 111 g5 eg::Bx u 84 [.string p0_w.b.F,Y,vI p0_w.b.R,Z,ab,ac,ad,ae,af,ag,vI p0_w.b.U,D,I,V,W,X,vI p0_w.s.B,cb,t,c,d,g,cc,cd,j,ce]::OS AJ 3 t p0_w.s.M::OS BI 60 c p0_w.s.J::OS Bu 69 d p0_w.s.Q::OS AJ 3 g p0_w.s.O::OS AJ 3 j p0_w.peaks::Bx b6 56 [.string k.F,vI k.C,vI k.An,vI k.Aj,bz,b0,vI k.S,vI k.L,vI k.Ak,vI k.K,vI k.Bd,b1]::L) λ_ _=>AH bm∧DA N p0_w z eg (Ew N p0_w z k) n1 bm bn bo bp bq=some r) N ?_ ?_ ?_
  ·intro aa ww hf hw
   have ej:=c0.sel [2,6,6,7,0,0,0,0,0,0,0,0] 0 O
   exact⟨0,ax,p0_w.s.G,ay,p0_w.s.P,az,p0_w.moves,a1,p0_w.sent,_,_,hf.sub (kp [26,25,4,0,1,27] O),hw,ej,(Cv.refl eh ei),(iq (n:=0) O),E⟩
  ·rintro aa ww ⟨_,_,_,_,_,_,_,_,_,_,_,_,_,_,_,_,E⟩
   rw[DA] at E;cases E
  rintro n1 aa ww ⟨bm,cb,bn,cc,bo,cd,bp,ce,bq,j2,j3,hf,hw,bj,c1,j4,E⟩
  refine A6 ?_ hf hw
  clear hf hw ww aa
  rw[DA] at E
  refine AI (BK O (AN (kp [28,26,25,4,0,1,27] O) (AE (AX O E (λg6 E=>?_) (λg6 E=>?_)))))
  ·refine AT (AE (BV (WF.sl (AF 2 ?_))))
   obtain⟨j5,ek,E⟩:=bd E
   refine BU bj (mt (mt (mt (mt mh)))) O O MA ek O λj6 el=>?_
   obtain⟨a8,em,E⟩:=bd E
   have g7:=bj.epAt (mt (mt (mt (mt mh)))) em GM.id el
   refine Ci BY (λ_ x=>x) O g7 UB (λe=>by cases e) O λj7 g8=>AG (Di bF O bj λj8 j9 en c2=>?_)
   obtain⟨ka,rfl,g9,ha,hb,dz⟩:=BJ.ex (g8.mono c2)
   obtain⟨c3,c4,rfl,jv,jw⟩:=dz.fnr
   refine EW (vs:=[vI a8.to_,vI a8.delay,vI a8.way,(.func (.func c3) #[] c4)]) O O O O UB O en .head O λkb c5 c6=>AZ (kp [6,26,25,4,0,1,27] O) (FO (AF 3 (AA O (AA O (EH (vs:=[vI a8.to_,vI a8.delay,vI a8.way,(.func (.func c3) #[] c4)]) BY c5 O mh O O UB O O (AG ?_))))))
   have eo:=c5.sel [6,1,5,5,5,5,1,1,3,1,0,0,0] 0 O
   have ah:=cx.trans (cy.trans (b2.trans (bl.trans (cz.trans (bb.trans (c1.trans (c2.trans c6)))))))
   obtain⟨cf,ep,E⟩:=bd E
   refine DU O O O YJ O (Jg (p0_w:=(⟨p0_w.b,p0_w.in_,(⟨p0_w.s.B,bn,p0_w.s.M,p0_w.s.J,p0_w.s.Q,p0_w.s.O,bo⟩:BD),bp,p0_w.peaks,bq⟩:A4)) eo ao (dl.mono' ah) ap (dm.mono' ah) (dn.mono' ah) (dp.mono' ah) (dq.mono' ah) (dr.mono' ah) (ds.mono' ah) (dt.mono' ah) am (du.mono' ah) (dv.mono' ah) (dw.mono' ah) (dx.mono' ah) (dy.mono' ah) an a2 (BJ.mk (x:=a8) g9 ha hb (dz.mono c6)) ep) λkc kd ke hc p=>?_
   obtain⟨hd,he,hg,hi,rfl,eq⟩:=p
   refine AZ (kp [26,25,4,0,1,27] O) (B5 (CN (.inl O) (BB O (AA O (AN (kp [27,26,25,4,0,1] O) (WF.nil (λaa ww hf hw=>?_)))))))
   have er:=eq.sel [1,5,5,6,7,0,0,0,0,0,0,1] 1 O
   exact⟨(B0 (bm+1)),hd,cf.1,he,cf.2.1,hg,cf.2.2.1,hi,cf.2.2.2,_,_,hf.sub (kp [26,25,4,0,1,27] O),hw,er,(c1.trans (c2.trans (c6.trans hc))),(B1 _),E⟩
  refine By O (λaa ww hf hw=>?_)
  have es:=bj.sel [0,0,0,0,1,1,1,1,1,1,1] 1 O
  exact⟨cb,bn,cc,bo,cd,bp,ce,bq,_,_,hf.sub (kp [4,0,1] O),hw,es,c1,E⟩
 rintro aa ww ⟨bc,a4,be,a5,bf,a6,bg,a7,cg,d0,hf,hw,ai,br,E⟩
 refine A6 ?_ hf hw
 clear hf hw ww aa
 rw[Ew] at E
 refine AE (AI (AD Lb O (AS BY ai O (mt (mt (mt (mt (mt (mt (mt (mt (mt (mt mh)))))))))) O A7 O (CW O (AN (kp [38,4,0,1] O) (HN (λa w=>∃(c7:Value) (ch:List (List Int)) (c8:Value) (ci:List Int) (c9:Value) (cj:List BA) (da:Value) (ck:List BE) (cl:List Int),IV B cg d0 (119,[]) a w [(4,vP b6 0),(0,vP u 0),(1,vI z)] (OS (BW.sl AJ) 29 c7 ch::OS AJ 3 c8 ci::OS CF 50 c9 cj::OS BI 60 da ck::Bx u 84 [.string p0_w.b.F,Y,vI p0_w.b.R,Z,ab,ac,ad,ae,af,ag,vI p0_w.b.U,D,I,V,W,X,vI p0_w.s.B,c7,t,c,d,g,c8,c9,j,da]::OS AJ 3 t cl::OS BI 60 c p0_w.s.J::OS Bu 69 d p0_w.s.Q::OS AJ 3 g p0_w.s.O::OS AJ 3 j p0_w.peaks::Bx b6 56 [.string k.F,vI k.C,vI k.An,vI k.Aj,bz,b0,vI k.S,vI k.L,vI k.Ak,vI k.K,vI k.Bd,b1]::L) λ_ _=>C4 N p0_w z k ch ci cj ck cl=some r) ?_ ?_))))))
 ·refine AX O E (λhj E=>?_) (λhj E=>?_)
  ·refine AE (CX (.inr ⟨mo,by kernel_rfl⟩) ai (EH (vs:=[.string k.F,vI k.C,vI k.An,vI k.Aj,bz,b0,vI k.S,vI k.L,vI k.Ak,vI k.K,vI k.Bd,b1]) CL ai O (mt (mt (mt (mt (mt (mt (mt (mt (mt (mt mh)))))))))) O O KX O O (AA O (C7 O O (AD KN O (AS CL ai O (mt (mt (mt (mt mh)))) O CG O (AA O ?_)))))))
   obtain⟨kf,et,E⟩:=bd E
   refine BU ai (mt (mt (mt (mt (mt (mt (mt (mt (mt mh))))))))) O O CA et O λkg eu=>?_
   obtain⟨kh,ev,E⟩:=bd E
   have hk:=ai.epAt (mt (mt (mt (mt (mt (mt (mt (mt (mt mh))))))))) ev GM.id eu
   refine A9 CL (λ_ x=>x) O hk A7 O λhl=>AA O (C7 O O (AD DI O (AD KP O (AS CL ai O (mt (mt (mt (mt mh)))) O CG O (AA O ?_)))))
   obtain⟨ki,ew,E⟩:=bd E
   refine BU ai (mt (mt (mt (mt (mt mh))))) O O CA ew O λkj ey=>?_
   obtain⟨kk,ez,E⟩:=bd E
   have hm:=ai.epAt (mt (mt (mt (mt (mt mh))))) ez GM.id ey
   refine A9 CL (λ_ x=>x) O hm A7 O λhn=>?_
   have b3:=av.trans (aw.trans (cx.trans (cy.trans (b2.trans (bl.trans (cz.trans (bb.trans br)))))))
   obtain⟨ar,e0,E⟩:=bd E
   refine It (v:= .tuple #[vI ar.1,vI ar.2]) (Ψ:=AH ar.1∧AH ar.2) O O O iM O (λh' o=>(PP (St.all h') (Cd.mk (x:=k) jk jl jm jn ((f4.mono' b3).mono' (o.all ai.1)) ((f5.mono' b3).mono' (o.all ai.1)) jo jp ec ed jq ((f6.mono' b3).mono' (o.all ai.1))) hl hn e0).mono λ_ _ _ _ p=>⟨p.1,⟨p.2.1,p.2.2.1⟩⟩) λho=>?_
   obtain⟨hp,hq⟩:=ho
   refine AA O (CS O (CS O (AY O (AY O (B3 (kp [8,7,4,0,1] O) λkl b4 d1=>WF.sl (AF 7 (AA O (C7 O O (AD DI O (AD KP O (AS BY b4 O (mt (mt (mt (mt mh)))) O CG O (AA O ?_))))))))))))
   obtain⟨km,e1,E⟩:=bd E
   refine BU b4 (mt (mt (mt (mt (mt mh))))) O O CA e1 O λkn e2=>AG ?_
   obtain⟨ht,e3,E⟩:=bd E
   refine Fm (r:=AJ) (l:=p0_w.s.M) (i:=z) (x:=ht) O O (⟨_,O,O,(iq (n:=0) O)⟩:Rd _ _ AJ _ 0) e2 e3 ML.id A7 (λ_=>rfl) b4 (.tail (.tail (.tail (.tail (.tail .head))))) λko a9 d2=>AZ (kp [8,7,4,0,1] O) (AE (AE (CX (.inl O) a9 (AA O (C7 O O (AD DI O (AD Eo O (AS CL a9 O (mt (mt (mt (mt mh)))) O Hz O (AA O ?_)))))))))
   obtain⟨kq,e4,E⟩:=bd E
   refine BU a9 mh O O Fx e4 O λkr e5=>?_
   obtain⟨ks,e6,E⟩:=bd E
   have hu:=a9.epAt mh e6 GM.id e5
   refine BG CL (λ_ x=>x) O hu CG O λkt hv=>?_
   obtain⟨ku,e7,E⟩:=bd E
   refine DF O O O Nj O (λh' o=>Fg (St.all h') (hv.mono' (o.all a9.1)) e7) λhx=>?_
   have kv:=hx
   refine AA O (HQ O (B3 (kp [76,8,7,4,0,1] O) λd3 bk d4=>HN (λa w=>∃(bs:List Int),IV B cg d3 (119,[]) a w [(7,vI ar.1),(4,vP b6 0),(0,vP u 0),(1,vI z)] (OS (BW.sl AJ) 29 bc a4::OS AJ 3 be a5::OS CF 50 bf a6::OS BI 60 bg a7::Bx u 84 [.string p0_w.b.F,Y,vI p0_w.b.R,Z,ab,ac,ad,ae,af,ag,vI p0_w.b.U,D,I,V,W,X,vI p0_w.s.B,bc,t,c,d,g,be,bf,j,bg]::OS AJ 3 t bs::OS BI 60 c p0_w.s.J::OS Bu 69 d p0_w.s.Q::OS AJ 3 g p0_w.s.O::OS AJ 3 j p0_w.peaks::Bx b6 56 [.string k.F,vI k.C,vI k.An,vI k.Aj,bz,b0,vI k.S,vI k.L,vI k.Ak,vI k.K,vI k.Bd,b1]::L) λ_ _=>EI N p0_w z k a4 a5 a6 a7 ar (C4 N p0_w z k) bs=some r) ?_ ?_))
   ·refine AX O E (λhy E=>?_) (λhy E=>?_)
    ·refine FO (AF 8 (AA O (C7 O O (AD DI O (AD KP O (AS BY bk O (mt (mt (mt (mt mh)))) O CG O (AA O (AA O ?_))))))))
     obtain⟨kw,e8,E⟩:=bd E
     refine BU bk (mt (mt (mt (mt (mt mh))))) O O CA e8 O λkx fa=>AG ?_
     obtain⟨hz,fb,E⟩:=bd E
     refine Fm (r:=AJ) (l:=(upd p0_w.s.M z 0)) (i:=z) (x:=hz) O O (⟨_,O,O,hq⟩:Rd _ _ AJ _ ar.2) fa fb ML.id A7 (λ_=>rfl) bk (.tail (.tail (.tail (.tail (.tail .head))))) λky fc h0=>AZ (kp [7,4,0,1] O) (WF.nil (λaa ww hf hw=>?_))
     exact⟨(upd (upd p0_w.s.M z 0) z ar.2),_,_,hf.sub (kp [7,4,0,1] O),hw,fc,h0,E⟩
    refine AT (WF.nil (λaa ww hf hw=>?_))
    exact⟨(upd p0_w.s.M z 0),_,_,hf.sub (kp [7,4,0,1] O),hw,bk,(Cv.refl cg d3),E⟩
   rintro aa ww ⟨bs,d5,d6,hf,hw,au,d7,E⟩
   refine A6 ?_ hf hw
   clear hf hw ww aa
   rw[EI] at E
   obtain⟨bh,fd,E⟩:=bd E
   refine MV (m:=[(7,vI ar.1),(4,vP b6 0),(0,vP u 0),(1,vI z)]) 9 (λi v hh=>match i with|0=>v=vP u 0|1=>v=vI z∧AH z|2=>v=vP b6 8|3=>v=vI k.Ak∧AH k.Ak|4=>v=vP b6 9|5=>v=vI k.K∧AH k.K|6=>v=vI ar.1∧AH ar.1|7=>Rd (SN d5 d6 hh) hh (BW.fnr prog (λS h vs (x:(List Int))=>∃w0:Value,vs=[w0]∧Sl S h AJ w0 x) (λS h v (y:((List Int)×(List Int)))=>∃w0 w1:Value,v= .tuple #[w0,w1]∧Sl S h AJ w0 y.1∧Sl S h AJ w1 y.2)) v (λx=>A0 N bh x)|8=>Rd (SN d5 d6 hh) hh BJ v (⟨k.Ak,k.K,(-1),(λx=>A0 N bh x)⟩:AK)|_=>False) [[],[],[],[(2,87)],[],[(4,89)],[],[(6,91)],[(3,88),(5,90),(7,92)]] [(0,85),(1,86),(8,93)] mo (by kernel_rfl) [7,4,0,1] O (by kernel_rfl) (by kernel_rfl) (by kernel_rfl) (kp [7,4,0,1] O) (λi v h1 h2 o1 o2 hr=>?_) ?_ ?_
   ·match i,hr with
     |0,hr|1,hr|2,hr|3,hr|4,hr|5,hr|6,hr=>exact hr
     |7,hr|8,hr=>exact Rd.mono hr (SN.mono au.1 o1 o2)
     |_+9,hr=>exact hr.elim
   ·refine BP.cons O (λ_ _ _=>AF 1 (AA O (AO O))) (BP.cons O (λ_ _ _=>AF 1 (AA O (AO ⟨O,a2⟩))) (BP.cons O (λ_ _ _=>AF 1 (AD Po O (AO O))) (BP.cons O (λ_ _ o _ h3=>by cases h3;exact AF 1 (AS BY (o.st au) O (mt (mt (mt (mt (mt (mt (mt (mt (mt (mt mh)))))))))) O A7 O (AO ⟨O,ec⟩))) (BP.cons O (λ_ _ _=>AF 1 (AD SH O (AO O))) (BP.cons O (λ_ _ o _ h4=>by cases h4;exact AF 1 (AS BY (o.st au) O (mt (mt (mt (mt (mt (mt (mt (mt (mt (mt mh)))))))))) O A7 O (AO ⟨O,ed⟩))) (BP.cons O (λ_ _ _=>AF 1 (AA O (AO ⟨O,hp⟩))) ?_))))))
    refine BP.cons O ?_ ?_
    ·intro mq hh o
     intro kz h5
     have db:=SN.st au o
     obtain⟨rfl,h6⟩:=h5
     have fe:=db.fz
     refine DU O O O Tv O (I6 fe h6 fd) λk0 h8 h9 ia p=>?_
     obtain⟨d8,rfl,ib,ff⟩:=p
     have fg:Rd h8 h9 (BW.fnr prog (λS h vs (x:(List Int))=>∃w0:Value,vs=[w0]∧Sl S h AJ w0 x) (λS h v (y:((List Int)×(List Int)))=>∃w0 w1:Value,v= .tuple #[w0,w1]∧Sl S h AJ w0 y.1∧Sl S h AJ w1 y.2)) (.func (.func 89) #[] #[d8]) (λx=>A0 N bh x):=Ki 89 #[d8] Tt λS' h' s' e' L hs x y vs h1 h2=>by obtain⟨w0,rfl,a0⟩:=h1;exact NE (IK hs a0 (ib.mono'' s' e') h2)
     have dc:=Fz.done o ia ff
     exact DV dc.1 (Rd.mono fg dc.2)
    refine BP.cons O ?_ ?_
    ·intro mq hh o
     intro k1 ic k2 ie ig cm
     have db:=SN.st au o
     obtain⟨rfl,ih⟩:=ic
     obtain⟨rfl,ii⟩:=ie
     have cm:Rd _ _ (BW.fnr prog (λS h vs (x:(List Int))=>∃w0:Value,vs=[w0]∧Sl S h AJ w0 x) (λS h v (y:((List Int)×(List Int)))=>∃w0 w1:Value,v= .tuple #[w0,w1]∧Sl S h AJ w0 y.1∧Sl S h AJ w1 y.2)) ig (λx=>A0 N bh x):=cm
     refine AF 1 ?_
     obtain⟨fh,fi,rfl,jx,jy⟩:=cm.fnr
     exact Ik (cs:=[vI k.Ak,vI k.K,vI (-1),(.func (.func fh) #[] fi)]) Ol O O O (AO (BJ.mk (x:=(⟨k.Ak,k.K,(-1),(λx=>A0 N bh x)⟩:AK)) ih ii (iq (n:=(-1)) O) cm))
    exact trivial
   intro k4 dd k6 ij k7 ik il de
   have fj:=SN.st au dd
   cases ij
   obtain⟨rfl,im⟩:=ik
   have de:Rd _ _ BJ il (⟨k.Ak,k.K,(-1),(λx=>A0 N bh x)⟩:AK):=de
   have fk:=fj.sel [4,0,3,3,3,3,0,0,1,0,0] 0 O
   have aj:=cx.trans (cy.trans (b2.trans (bl.trans (cz.trans (bb.trans (br.trans (d1.trans (d2.trans (d4.trans (d7.trans (SN.ext au.1 dd)))))))))))
   obtain⟨cn,fl,E⟩:=bd E
   refine DU O O O YJ O (Jg (p0_w:=(⟨p0_w.b,p0_w.in_,(⟨p0_w.s.B,a4,bs,p0_w.s.J,p0_w.s.Q,p0_w.s.O,a5⟩:BD),a6,p0_w.peaks,a7⟩:A4)) fk ao (dl.mono' aj) ap (dm.mono' aj) (dn.mono' aj) (dp.mono' aj) (dq.mono' aj) (dr.mono' aj) (ds.mono' aj) (dt.mono' aj) am (du.mono' aj) (dv.mono' aj) (dw.mono' aj) (dx.mono' aj) (dy.mono' aj) an im de fl) λk8 k9 la io p=>?_
   obtain⟨ip,ir,it,iu,rfl,fm⟩:=p
   refine AZ (kp [4,0,1] O) (WF.nil (λaa ww hf hw=>?_))
   have fn:=fm.sel [1,5,5,6,0,0,0,0,0,0,0] 0 O
   exact⟨ip,cn.1,ir,cn.2.1,it,cn.2.2.1,iu,cn.2.2.2,bs,_,_,hf.sub (kp [4,0,1] O),hw,fn,(d1.trans (d2.trans (d4.trans (d7.trans ((SN.ext au.1 dd).trans io))))),E⟩
  refine AT (WF.nil (λaa ww hf hw=>?_))
  exact⟨bc,a4,be,a5,bf,a6,bg,a7,p0_w.s.M,_,_,hf.sub (kp [4,0,1] O),hw,ai,(Cv.refl cg d0),E⟩
 rintro aa ww ⟨c7,ch,c8,ci,c9,cj,da,ck,cl,d9,lb,hf,hw,a3,df,E⟩
 refine A6 ?_ hf hw
 clear hf hw ww aa
 rw[C4] at E
 refine AE (CX (.inr ⟨mo,by kernel_rfl⟩) a3 (AA O (C7 O O (AD DI O (AD Eo O (AS CL a3 O (mt (mt (mt (mt mh)))) O Hz O (AA O ?_)))))))
 obtain⟨lc,fo,E⟩:=bd E
 refine BU a3 mh O O Fx fo O λle fp=>?_
 obtain⟨lf,fq,E⟩:=bd E
 have iv:=a3.epAt mh fq GM.id fp
 refine BG CL (λ_ x=>x) O iv CG O λlg iw=>?_
 obtain⟨dg,fr,E⟩:=bd E
 refine DF O O O Nj O (λh' o=>Fg (St.all h') (iw.mono' (o.all a3.1)) fr) λiy=>?_
 have lh:=iy
 refine AD SK O (AS CL a3 O (mt (mt (mt (mt (mt (mt (mt (mt (mt (mt mh)))))))))) O A7 O (Dk O (AY O (B3 (kp [9,4,0,1] O) λea aq dh=>AI (AA O (CP O (AN (kp [108,9,4,0,1] O) (AX O E (λiz E=>?_) (λiz E=>?_)))))))))
 ·obtain ⟨bi,fs,E⟩:=bd E
  refine MV (m:=[(9,vI (B0 (dg-k.Aj))),(4,vP b6 0),(0,vP u 0),(1,vI z)]) 9 (λi v hh=>match i with|0=>v=vP u 0|1=>v=vI z∧AH z|2=>v=vP b6 8|3=>v=vI k.Ak∧AH k.Ak|4=>v=vP b6 9|5=>v=vI k.K∧AH k.K|6=>v=vI (B0 (dg-k.Aj))∧AH (B0 (dg-k.Aj))|7=>Rd (SN d9 ea hh) hh (BW.fnr prog (λS h vs (x:(List Int))=>∃w0:Value,vs=[w0]∧Sl S h AJ w0 x) (λS h v (y:((List Int)×(List Int)))=>∃w0 w1:Value,v= .tuple #[w0,w1]∧Sl S h AJ w0 y.1∧Sl S h AJ w1 y.2)) v (λx=>A0 N bi x)|8=>Rd (SN d9 ea hh) hh BJ v (⟨k.Ak,k.K,(-2),(λx=>A0 N bi x)⟩:AK)|_=>False) [[],[],[],[(2,111)],[],[(4,113)],[],[(6,115)],[(3,112),(5,114),(7,116)]] [(0,109),(1,110),(8,117)] mo (by kernel_rfl) [9,4,0,1] O (by kernel_rfl) (by kernel_rfl) (by kernel_rfl) (kp [9,4,0,1] O) (λi v h1 h2 o1 o2 hr=>?_) ?_ ?_
  ·match i,hr with
    |0,hr|1,hr|2,hr|3,hr|4,hr|5,hr|6,hr=>exact hr
    |7,hr|8,hr=>exact Rd.mono hr (SN.mono aq.1 o1 o2)
    |_+9,hr=>exact hr.elim
  ·refine BP.cons O (λ_ _ _=>AF 1 (AA O (AO O))) (BP.cons O (λ_ _ _=>AF 1 (AA O (AO ⟨O,a2⟩))) (BP.cons O (λ_ _ _=>AF 1 (AD Po O (AO O))) (BP.cons O (λ_ _ o _ i0=>by cases i0;exact AF 1 (AS BY (o.st aq) O (mt (mt (mt (mt (mt (mt (mt (mt (mt (mt mh)))))))))) O A7 O (AO ⟨O,ec⟩))) (BP.cons O (λ_ _ _=>AF 1 (AD SH O (AO O))) (BP.cons O (λ_ _ o _ i1=>by cases i1;exact AF 1 (AS BY (o.st aq) O (mt (mt (mt (mt (mt (mt (mt (mt (mt (mt mh)))))))))) O A7 O (AO ⟨O,ed⟩))) (BP.cons O (λ_ _ _=>AF 1 (AA O (AO ⟨O,(B1 _)⟩))) ?_))))))
   refine BP.cons O ?_ ?_
   ·intro mq hh o
    intro li i2
    have db:=SN.st aq o
    obtain⟨rfl,i3⟩:=i2
    have fe:=db.fz
    refine DU O O O Tv O (I6 fe i3 fs) λlj i4 i5 i6 p=>?_
    obtain⟨eb,rfl,i7,ft⟩:=p
    have fu:Rd i4 i5 (BW.fnr prog (λS h vs (x:(List Int))=>∃w0:Value,vs=[w0]∧Sl S h AJ w0 x) (λS h v (y:((List Int)×(List Int)))=>∃w0 w1:Value,v= .tuple #[w0,w1]∧Sl S h AJ w0 y.1∧Sl S h AJ w1 y.2)) (.func (.func 89) #[] #[eb]) (λx=>A0 N bi x):=Ki 89 #[eb] Tt λS' h' s' e' L hs x y vs h1 h2=>by obtain⟨w0,rfl,a0⟩:=h1;exact NE (IK hs a0 (i7.mono'' s' e') h2)
    have di:=Fz.done o i6 ft
    exact DV di.1 (Rd.mono fu di.2)
   refine BP.cons O ?_ ?_
   ·intro mq hh o
    intro ll i8 lm i9 ja co
    have db:=SN.st aq o
    obtain⟨rfl,jb⟩:=i8
    obtain⟨rfl,jc⟩:=i9
    have co:Rd _ _ (BW.fnr prog (λS h vs (x:(List Int))=>∃w0:Value,vs=[w0]∧Sl S h AJ w0 x) (λS h v (y:((List Int)×(List Int)))=>∃w0 w1:Value,v= .tuple #[w0,w1]∧Sl S h AJ w0 y.1∧Sl S h AJ w1 y.2)) ja (λx=>A0 N bi x):=co
    refine AF 1 ?_
    obtain⟨fv,fw,rfl,jz,j0⟩:=co.fnr
    exact Ik (cs:=[vI k.Ak,vI k.K,vI (-2),(.func (.func fv) #[] fw)]) Ol O O O (AO (BJ.mk (x:=(⟨k.Ak,k.K,(-2),(λx=>A0 N bi x)⟩:AK)) jb jc (iq (n:=(-2)) O) co))
   exact trivial
  intro lo dj lp jd lq je jf dk
  have fx:=SN.st aq dj
  cases jd
  obtain⟨rfl,jg⟩:=je
  have dk:Rd _ _ BJ jf (⟨k.Ak,k.K,(-2),(λx=>A0 N bi x)⟩:AK):=dk
  have fy:=fx.sel [4,0,3,3,3,3,0,0,1,0,0] 0 O
  have ak:=cx.trans (cy.trans (b2.trans (bl.trans (cz.trans (bb.trans (br.trans (df.trans (dh.trans (SN.ext aq.1 dj)))))))))
  obtain⟨lr,f0,E⟩:=bd E
  refine DU O O O YJ O (Jg (p0_w:=(⟨p0_w.b,p0_w.in_,(⟨p0_w.s.B,ch,cl,p0_w.s.J,p0_w.s.Q,p0_w.s.O,ci⟩:BD),cj,p0_w.peaks,ck⟩:A4)) fy ao (dl.mono' ak) ap (dm.mono' ak) (dn.mono' ak) (dp.mono' ak) (dq.mono' ak) (dr.mono' ak) (ds.mono' ak) (dt.mono' ak) am (du.mono' ak) (dv.mono' ak) (dw.mono' ak) (dx.mono' ak) (dy.mono' ak) an jg dk f0) λls lt lu jh p=>?_
  obtain⟨lv,lw,lx,ly,rfl,f1⟩:=p
  refine AZ PO (WF.nil (λaa ww hf hw=>?_))
  have f2:=f1.drop (.tail (.tail (.tail (.tail (.tail (.tail (.tail (.tail (.tail (.tail .head))))))))))
  cases E
  exact Kn hf O hw Km O (e9.trans (av.trans (aw.trans (cx.trans (cy.trans (b2.trans (bl.trans (cz.trans (bb.trans (br.trans (df.trans (dh.trans ((SN.ext aq.1 dj).trans jh))))))))))))) ⟨_,_,_,_,_,O,f2⟩
 refine AT (WF.nil (λaa ww hf hw=>?_))
 have f3:=aq.sel [4,0,3,3,3,3,0,0,1,0] 1 O
 cases E
 exact Kn hf O hw Km O (e9.trans (av.trans (aw.trans (cx.trans (cy.trans (b2.trans (bl.trans (cz.trans (bb.trans (br.trans (df.trans dh))))))))))) ⟨_,_,_,_,_,O,f3⟩
def Lg (hs:St S L h) {bl:Value}{c:AU}(d4:Rd S h CZ bl c) {bm:Value}{c4:BD}(d5:Rd S h C3 bm c4) {a8:Value}{d:Eb}(df:Rd S h Gf a8 d) {r:BD×(List BA)×(List Int)}(E:Gz N c c4 d=some r):
 C5 prog 11 #[bl,bm,a8] S h (λv S' h'=>∃i1 i2 i3:Value,v= .tuple #[i1,i2,i3]∧Rd S' h' C3 i1 r.1∧St S' (OS CF 50 i2 r.2.1::OS AJ 3 i3 r.2.2::L) h'):=by
 refine Bv (l:=[bl,bm,a8]) 53 func11 O ntmps11 O λB=>?_
 rw[Gz] at E
 refine WF.sl (Cm O d4 (λe=>by cases e) O hs λq1 S2 h3 k9 e5 k6=>Cm O (d5.mono e5) (λe=>by cases e) O k9 λq8 S9 p8 i4 dg la=>Cm O (df.mono (e5.trans dg)) (λe=>by cases e) O i4 λlb a5 p9 i5 dh lc=>Di O3 O i5 λdi cr k de=>AF 2 (AY O (AY O (AG (AZ (kp [6,5,4,3] O) (AE ?_))))))
 obtain⟨g,i6,E⟩:=bd E
 obtain⟨i7,E⟩:=Mc E
 refine Sb (m:=[(6,vP di 0),(5,lb),(4,q8),(3,q1)]) [10] [] [(8,[0,1,3,7])] (by kernel_rfl) (λgv X F i v hh=>match i with|0=>Rd a5 hh CZ v c|1=>Rd a5 hh Gf v d|2=>Rd a5 hh C3 v c4|3=>∃w1 w2 w3 w4 w5 w6:Value,v= .agg #[vI g.B,w1,w2,w3,w4,w5,w6]∧AH g.B∧Sl (SX a5 cr hh X) hh BI w3 g.J∧OW a5 cr X F [OO AJ 3 29 w1 g.G,OS AJ 3 w2 g.M,OS Bu 69 w4 g.Q,OS AJ 3 w5 g.O,OS AJ 3 w6 g.P] hh|4=>Pt a5 hh (BW.sl Cd) v c.A|5=>Sl a5 hh Cd v c.A|6=>v=vI (↑c.A.length:Int)∧AH (↑c.A.length:Int)|7=>OW a5 cr X F [OS AJ 3 v (List.replicate ((↑c.A.length:Int):Int).toNat (0:Int))] hh|8=>v= .agg ((gv 0).cells.toList++(gv 1).cells.toList++(gv 3).cells.toList++[(vN:Value)]++[gv 7]++[(vN:Value)]).toArray|9=>∃w0:Nat,v=vP w0 0∧OW a5 cr X F [Bx w0 84 [.string ByteArray.empty,vN,vI 0,vN,vN,vN,vN,vN,vN,vN,vI 0,vN,vN,vN,vN,vN,vI 0,vN,vN,vN,vN,vN,vN,vN,vN,vN]] hh|_=>False) [[],[],[],[(2,13)],[],[(4,15)],[(5,16)],[(6,17)],[(0,11),(1,12),(3,14),(7,18)],[],[]] [(0,11),(1,12),(3,14),(7,18),(8,19),(9,9)] mo (by kernel_rfl) [6,5,4,3] O (by kernel_rfl) (by kernel_rfl) (by kernel_rfl) O (kp [6,5,4,3] O) (λgv i v h1 h2 X X' F o1 o2 hF u1 u2 hr=>?_) (λgv qa X F i v h1 hz hr=>?_) ?_ ?_ ?_
 ·match i,hr with
   |0,hr|1,hr|2,hr=>exact Rd.mono hr (o2.ext λb hb=>nH (k.1 b hb) o1.siz)
   |3,hr=>obtain⟨w1,w2,w3,w4,w5,w6,ev,k0,k3,q⟩:=hr;exact⟨w1,w2,w3,w4,w5,w6,ev,k0,Sl.mono' k3 (SX.mono k.1 o1 o2 u1 u2),OW.mono k.1 o1 o2 hF u1 u2 q⟩
   |4,hr=>exact N3.mono hr (o2.ext λb hb=>nH (k.1 b hb) o1.siz)
   |5,hr=>exact Sl.mono' hr (o2.ext λb hb=>nH (k.1 b hb) o1.siz)
   |6,hr|8,hr=>exact hr
   |7,hr=>exact OW.mono k.1 o1 o2 hF u1 u2 hr
   |9,hr=>obtain⟨w0,ev,q⟩:=hr;exact⟨w0,ev,OW.mono k.1 o1 o2 hF u1 u2 q⟩
   |_+10,hr=>exact hr.elim
 ·match i,hr with
   |0,hr|1,hr|2,hr|3,hr|4,hr|5,hr|6,hr|7,hr|9,hr=>exact hr
   |8,hr=>rw[hz _ oB O 0 (by decide),hz _ oB O 1 (by decide),hz _ oB O 3 (by decide),hz _ oB O 7 (by decide)] at hr;exact hr
   |_+10,hr=>exact hr.elim
 ·exact trivial
 ·refine Cs.cons O O ?_ ?_
  ·intro gv X mq hh o hX
   have a3:=o.st k
   exact AF 1 (Ci BY a3.1 O (k6.mono (dg.trans (dh.trans (de.trans (o.ext k.1))))) HS (λe=>by cases e) O λlm i8=>AO i8)
  refine Cs.cons O O ?_ ?_
  ·intro gv X mq hh o hX
   have a3:=o.st k
   exact AF 1 (Ci BY a3.1 O (lc.mono (de.trans (o.ext k.1))) Us (λe=>by cases e) O λlo i9=>AO i9)
  refine Cs.cons O O ?_ ?_
  ·intro gv X mq hh o hX
   have a3:=o.st k
   exact AF 1 (Ci BY a3.1 O (la.mono (dh.trans (de.trans (o.ext k.1)))) Hs (λe=>by cases e) O λlp ja=>AO ja)
  refine M9 O O ?_ ?_
  ·intro gv X mq hh o hX
   have a3:=SX.fz (X:=X) k o
   intro jb a9
   obtain⟨le,_,_,a9⟩:=a9
   have a9:=Rd.mono (S':=(SX a5 cr hh X)) a9 ⟨λb hb=>(SX.ext k.1 o hX).sub b hb,λ_ _=>rfl,nJ _⟩
   have a9:Rd _ _ C3 jb c4:=a9
   refine DU O O O jM O (PK a3 a9 i6) λlq lr ls jc p=>?_
   obtain⟨lt,lu,lv,lw,lx,ly,rfl,jd,je,gz⟩:=p
   have dj:=gz.pick (.tail (.tail (.tail (.tail (.tail .head)))))
   obtain⟨jf,g0,jg,jh,ji⟩:=OW.done k.1 o hX jc dj
   exact DV jg ⟨jf,g0,⟨_,_,_,_,_,_,O,jd,Sl.mono' je jh,ji⟩⟩
  refine Cs.cons O O ?_ ?_
  ·intro gv X mq hh o hX
   have a3:=o.st k
   exact AF 1 (A8 O (k6.mono (dg.trans (dh.trans (de.trans (o.ext k.1))))) B6 Do O λlz jj=>AO jj)
  refine Cs.cons O O ?_ ?_
  ·intro gv X mq hh o hX
   have a3:=o.st k
   intro jk b2
   obtain⟨lf,_,_,b2⟩:=b2
   have b2:Pt _ _ (BW.sl Cd) jk c.A:=b2
   exact AF 1 (BG BY a3.1 O b2 Gu O λl0 jl=>AO jl)
  refine Cs.cons O O ?_ ?_
  ·intro gv X mq hh o hX
   have a3:=o.st k
   intro jm b3
   obtain⟨lg,_,_,b3⟩:=b3
   have b3:Sl _ _ Cd jm c.A:=b3
   exact AF 1 (BC O b3 Fy O λjn=>AO ⟨O,(J9 jn)⟩)
  refine M9 O O ?_ ?_
  ·intro gv X mq hh o hX
   have a3:=SX.fz (X:=X) k o
   intro l1 dk
   obtain⟨lh,_,_,dk⟩:=dk
   obtain⟨rfl,l2⟩:=dk
   refine Jk (r:=AJ) (zx:=0) GK O ⟨O,by unfold AH;omega⟩ O O i7 O O a3 λl3 l4 g1 jo=>?_
   have dj:=g1.pick (.tail .head)
   obtain⟨jp,g2,jq,l5,jr⟩:=OW.done k.1 o hX jo dj
   exact DV jq ⟨jp,g2,jr⟩
  refine Cs.cons O O ?_ ?_
  ·intro gv X mq hh o hX
   have a3:=o.st k
   intro js b4 jt b5 l6 dl l7 dm
   obtain⟨g3,_,_,b4⟩:=b4
   have b4:Rd _ _ CZ js c:=b4
   obtain⟨g4,_,_,b5⟩:=b5
   have b5:Rd _ _ Gf jt d:=b5
   obtain⟨g5,_,_,dl⟩:=dl
   obtain⟨l8,l9,ma,mb,mc,md,rfl,me,ju,b6⟩:=dl
   obtain⟨g6,d6,rfl,mf⟩:=OW.oolen b6 mh
   obtain⟨g7,d7,rfl,mg⟩:=OW.oslen b6 (mt mh)
   obtain⟨g8,d8,rfl,mi⟩:=ju.len
   obtain⟨g9,d9,rfl,mj⟩:=OW.oslen b6 (mt (mt mh))
   obtain⟨ha,ea,rfl,ml⟩:=OW.oslen b6 (mt (mt (mt mh)))
   obtain⟨hc,eb,rfl,mm⟩:=OW.oslen b6 (mt (mt (mt (mt mh))))
   obtain⟨hd,_,_,dm⟩:=dm
   obtain⟨he,ec,rfl,mn⟩:=OW.oslen dm mh
   refine AF 1 ?_
   obtain⟨mp,mr,ms,mu,mv,mw,mx,my,rfl,mz,jv,m0,jw,jx,jy,jz,j0,j1,j2,m1⟩:=CZ.ex b4
   obtain⟨m2,m3,m4,m5,m6,rfl,j3,j4,j5,j6,j7⟩:=Gf.ex b5
   obtain⟨hg,ed,rfl,m7⟩:=(jv).len
   obtain⟨hi,ee,rfl,m8⟩:=(jw).len
   obtain⟨hj,ef,rfl,m9⟩:=(jx).len
   obtain⟨hk,eg,rfl,na⟩:=(jy).len
   obtain⟨hl,eh,rfl,nb⟩:=(jz).len
   obtain⟨hm,ei,rfl,nc⟩:=(j0).len
   obtain⟨hn,ej,rfl,nd⟩:=(j1).len
   obtain⟨ho,ek,rfl,ne⟩:=(j2).len
   obtain⟨hp,el,rfl,nf⟩:=(j3).len
   obtain⟨hq,em,rfl,ng⟩:=(j4).len
   obtain⟨ht,en,rfl,nh⟩:=(j5).len
   obtain⟨hu,eo,rfl,ni⟩:=(j6).len
   obtain⟨hv,ep,rfl,nj⟩:=(j7).len
   exact Ik (cs:=[.string c.F,(.slice hg c.H.length ed),vI c.R,(.slice hi c.A.length ee),(.slice hj c.E.length ef),(.slice hk c.Ag.length eg),(.slice hl c.Aq.length eh),(.slice hm c.At.length ei),(.slice hn c.Av.length ej),(.slice ho c.Au.length ek),vI c.U,(.slice hp d.Aa.length el),(.slice hq d.Am.length em),(.slice ht d.Ar.length en),(.slice hu d.Ae.length eo),(.slice hv d.Az.length ep),vI g.B,(.slice g6 g.G.length d6),(.slice g7 g.M.length d7),(.slice g8 g.J.length d8),(.slice g9 g.Q.length d9),(.slice ha g.O.length ea),(.slice hc g.P.length eb),vN,(.slice he (List.replicate ((↑c.A.length:Int):Int).toNat (0:Int)).length ec),vN]) fA O O O (AO (by rw[←g3,←g4,←g5,←hd];rfl))
  refine M9 O O ?_ ?_
  ·intro gv X mq hh o hX
   have a3:=SX.fz (X:=X) k o
   refine Di eK O a3 λnk nl hx j8=>?_
   have dj:=hx.pick (.tail .head)
   obtain⟨j9,hy,ka,nm,kb⟩:=OW.done k.1 o hX j8 dj
   exact DV ka ⟨j9,hy,⟨_,O,kb⟩⟩
  exact Cs.skip (by kernel_rfl) (trivial)
 intro er dn li b7 ba ct kc bb kd bc nn dp no dq es dr np ds
 obtain⟨h0,bb⟩:=bb
 obtain⟨h4,bc⟩:=bc
 obtain⟨h5,dp⟩:=dp
 obtain⟨h6,dq⟩:=dq
 obtain⟨lj,dr⟩:=dr
 obtain⟨ll,ds⟩:=ds
 obtain⟨nq,nr,ns,nt,nu,nv,rfl,b8,et,ke⟩:=dp
 obtain⟨b9,rfl,kf⟩:=ds
 have am:=(Uj.cons (Uj.cons (Uj.cons (Uj.nil k b7 ba) ct (j:=3) O ke) ct (j:=7) O dq) ct (j:=9) O kf).st
 simp only[oG,nX] at am
 have bb:=Rd.mono (S':=(SX a5 cr er (UX dn))) bb ⟨λb hb=>(SX.ext k.1 b7 (Yn ba)).sub b hb,λ_ _=>rfl,nJ _⟩
 have bb:Rd _ _ CZ kc c:=bb
 have bc:=Rd.mono (S':=(SX a5 cr er (UX dn))) bc ⟨λb hb=>(SX.ext k.1 b7 (Yn ba)).sub b hb,λ_ _=>rfl,nJ _⟩
 have bc:Rd _ _ Gf kd d:=bc
 obtain⟨nw,nx,ny,nz,n0,n2,n3,n4,rfl,ca,eu,cb,ew,ey,ez,e0,e1,e2,e3,cc⟩:=CZ.ex bb
 obtain⟨an,K,rfl,n5⟩:=(eu).len
 obtain⟨ao,V,rfl,n6⟩:=(ew).len
 obtain⟨ap,W,rfl,n7⟩:=(ey).len
 obtain⟨aq,Y,rfl,n8⟩:=(ez).len
 obtain⟨ar,Z,rfl,n9⟩:=(e0).len
 obtain⟨au,ab,rfl,oa⟩:=(e1).len
 obtain⟨av,ac,rfl,ob⟩:=(e2).len
 obtain⟨aw,ad,rfl,oc⟩:=(e3).len
 obtain⟨od,oe,og,oh,oi,rfl,e4,e6,e7,e8,e9⟩:=Gf.ex bc
 obtain⟨ax,ae,rfl,oj⟩:=(e4).len
 obtain⟨ay,af,rfl,ok⟩:=(e6).len
 obtain⟨az,ag,rfl,ol⟩:=(e7).len
 obtain⟨a0,ah,rfl,om⟩:=(e8).len
 obtain⟨a1,ai,rfl,oo⟩:=(e9).len
 obtain⟨cu,bn,rfl,op⟩:=am.oolen (mt (mt mh))
 obtain⟨bo,a6,rfl,oq⟩:=am.oslen (mt (mt (mt mh)))
 obtain⟨cv,bp,rfl,os⟩:=(et).len
 obtain⟨cw,bq,rfl,ot⟩:=am.oslen (mt (mt (mt (mt mh))))
 obtain⟨cx,br,rfl,ou⟩:=am.oslen (mt (mt (mt (mt (mt mh)))))
 obtain⟨bs,a7,rfl,ov⟩:=am.oslen (mt (mt (mt (mt (mt (mt mh))))))
 obtain⟨cy,bt,rfl,ox⟩:=am.oslen (mt mh)
 obtain rfl:Value.agg #[.string c.F,(.slice an c.H.length K),vI c.R,(.slice ao c.A.length V),(.slice ap c.E.length W),(.slice aq c.Ag.length Y),(.slice ar c.Aq.length Z),(.slice au c.At.length ab),(.slice av c.Av.length ac),(.slice aw c.Au.length ad),vI c.U,(.slice ax d.Aa.length ae),(.slice ay d.Am.length af),(.slice az d.Ar.length ag),(.slice a0 d.Ae.length ah),(.slice a1 d.Az.length ai),vI g.B,(.slice cu g.G.length bn),(.slice bo g.M.length a6),(.slice cv g.J.length bp),(.slice cw g.Q.length bq),(.slice cx g.O.length br),(.slice bs g.P.length a7),vN,(.slice cy (List.replicate ((↑c.A.length:Int):Int).toNat (0:Int)).length bt),vN]=es:=((by rw[dr,←h0,←h4,←h5,←h6];rfl:es=Value.agg #[.string c.F,(.slice an c.H.length K),vI c.R,(.slice ao c.A.length V),(.slice ap c.E.length W),(.slice aq c.Ag.length Y),(.slice ar c.Aq.length Z),(.slice au c.At.length ab),(.slice av c.Av.length ac),(.slice aw c.Au.length ad),vI c.U,(.slice ax d.Aa.length ae),(.slice ay d.Am.length af),(.slice az d.Ar.length ag),(.slice a0 d.Ae.length ah),(.slice a1 d.Az.length ai),vI g.B,(.slice cu g.G.length bn),(.slice bo g.M.length a6),(.slice cv g.J.length bp),(.slice cw g.Q.length bq),(.slice cx g.O.length br),(.slice bs g.P.length a7),vN,(.slice cy (List.replicate ((↑c.A.length:Int):Int).toNat (0:Int)).length bt),vN])).symm
 refine EW (vs:=[.string c.F,(.slice an c.H.length K),vI c.R,(.slice ao c.A.length V),(.slice ap c.E.length W),(.slice aq c.Ag.length Y),(.slice ar c.Aq.length Z),(.slice au c.At.length ab),(.slice av c.Av.length ac),(.slice aw c.Au.length ad),vI c.U,(.slice ax d.Aa.length ae),(.slice ay d.Am.length af),(.slice az d.Ar.length ag),(.slice a0 d.Ae.length ah),(.slice a1 d.Az.length ai),vI g.B,(.slice cu g.G.length bn),(.slice bo g.M.length a6),(.slice cv g.J.length bp),(.slice cw g.Q.length bq),(.slice cx g.O.length br),(.slice bs g.P.length a7),vN,(.slice cy (List.replicate ((↑c.A.length:Int):Int).toNat (0:Int)).length bt),vN]) O O O O eW O am .head O λoy h7 u=>AZ (kp [9,6,3] O) (WF.sl ?_)
 have h8:=h7.nil CF 50
 have h9:=h8.nil BI 60
 have ia:=h9.sel [2,3,3,3,3,3,1,1,0,0] 0 O
 have fb:=eu.mono' u
 have fc:=ew.mono' u
 have fd:=ey.mono' u
 have fe:=ez.mono' u
 have ff:=e0.mono' u
 have fg:=e1.mono' u
 have fh:=e2.mono' u
 have fi:=e3.mono' u
 have fj:=e4.mono' u
 have fk:=e6.mono' u
 have fl:=e7.mono' u
 have fm:=e8.mono' u
 have fn:=e9.mono' u
 have fo:=et.mono' u
 obtain⟨dt,ib,E⟩:=bd E
 refine DU O O O jL O (NW (p0_w:=(⟨c,d,g,([]:List BA),(List.replicate ((↑c.A.length:Int):Int).toNat (0:Int)),([]:List BE)⟩:A4)) ia ca fb cb fc fd fe ff fg fh fi cc fj fk fl fm fn b8 fo ib) λoz o0 o3 y p=>?_
 obtain⟨o4,rfl,ic⟩:=p
 refine AZ (kp [9,6,3] O) (WF.sl ?_)
 have fp:=fb.mono' y
 have fq:=fc.mono' y
 have fr:=fd.mono' y
 have fs:=fe.mono' y
 have ft:=ff.mono' y
 have fu:=fg.mono' y
 have fv:=fh.mono' y
 have fw:=fi.mono' y
 have fx:=fj.mono' y
 have fy:=fk.mono' y
 have f0:=fl.mono' y
 have f1:=fm.mono' y
 have f2:=fn.mono' y
 have f3:=fo.mono' y
 obtain⟨kg,id,E⟩:=bd E
 refine DU O O O jK O (NV (p0_w:=(⟨c,d,({ g with Q:=dt}:BD),([]:List BA),(List.replicate ((↑c.A.length:Int):Int).toNat (0:Int)),([]:List BE)⟩:A4)) ic ca fp cb fq fr fs ft fu fv fw cc fx fy f0 f1 f2 b8 f3 id) λo5 o6 o7 z p=>?_
 obtain⟨o8,rfl,ie⟩:=p
 refine AZ (kp [9,6,3] O) (WF.sl ?_)
 have f4:=fp.mono' z
 have f5:=fq.mono' z
 have f6:=fr.mono' z
 have f7:=fs.mono' z
 have f8:=ft.mono' z
 have f9:=fu.mono' z
 have ga:=fv.mono' z
 have gb:=fw.mono' z
 have gc:=fx.mono' z
 have gd:=fy.mono' z
 have ge:=f0.mono' z
 have gf:=f1.mono' z
 have gg:=f2.mono' z
 have gh:=f3.mono' z
 obtain⟨aj,ig,E⟩:=bd E
 refine DU O O O jJ O (Nn (p0_w:=(⟨c,d,(⟨g.B,kg,g.M,g.J,dt,g.O,g.P⟩:BD),([]:List BA),(List.replicate ((↑c.A.length:Int):Int).toNat (0:Int)),([]:List BE)⟩:A4)) ie ca f4 cb f5 f6 f7 f8 f9 ga gb cc gc gd ge gf gg b8 gh ig) λo9 pa pb C p=>?_
 obtain⟨pc,bh,kh,rfl,ih⟩:=p
 refine AZ (kp [9,6,3] O) (WF.sl ?_)
 have gi:=f4.mono' C
 have gj:=f5.mono' C
 have gl:=f6.mono' C
 have gm:=f7.mono' C
 have gn:=f8.mono' C
 have gp:=f9.mono' C
 have gq:=ga.mono' C
 have gr:=gb.mono' C
 have gs:=gc.mono' C
 have gt:=gd.mono' C
 have gu:=ge.mono' C
 have gw:=gf.mono' C
 have gx:=gg.mono' C
 obtain⟨s,ii,E⟩:=bd E
 refine DU O O O jI O (L9 (p0_w:=(⟨c,d,(⟨g.B,aj.1,g.M,g.J,dt,aj.2.1,g.P⟩:BD),aj.2.2,(List.replicate ((↑c.A.length:Int):Int).toNat (0:Int)),([]:List BE)⟩:A4)) ih ca gi cb gj gl gm gn gp gq gr cc gs gt gu gw gx b8 (gh.mono' C) ii) λpd du dv D p=>?_
 obtain⟨ki,c5,bi,bj,rfl,dw⟩:=p
 refine AZ (kp [9,6,3] O) (AE (AI (A8 O (k6.mono (dg.trans (dh.trans (de.trans ((SX.ext k.1 b7 (Yn ba)).trans (u.trans (y.trans (z.trans (C.trans D))))))))) B6 Do O λpe kj=>BG BY dw.1 O kj Gu O λpf kk=>BC O kk Fy O λpg=>AA O (AN (kp [27,26,9,6] O) (BF (λa w=>∃(cd:Value) (be:List (List Int)) (ce:Value) (bf:List Int) (cf:Value) (bg:List Int) (cg:Value) (ch:List BA) (ci:Value) (ak:List BE),IV B du dv (53,[]) a w [(9,vP b9 0),(6,vP di 0)] (OS (BW.sl AJ) 29 cd be::OS AJ 3 ce bf::OS AJ 3 cf bg::OS CF 50 cg ch::OS BI 60 ci ak::Bx b9 84 [.string c.F,(.slice an c.H.length K),vI c.R,(.slice ao c.A.length V),(.slice ap c.E.length W),(.slice aq c.Ag.length Y),(.slice ar c.Aq.length Z),(.slice au c.At.length ab),(.slice av c.Av.length ac),(.slice aw c.Au.length ad),vI c.U,(.slice ax d.Aa.length ae),(.slice ay d.Am.length af),(.slice az d.Ar.length ag),(.slice a0 d.Ae.length ah),(.slice a1 d.Az.length ai),vI g.B,cd,ce,c5,bi,bh,cf,cg,bj,ci]::OS BI 60 c5 s.2.1::OS Bu 69 bi s.2.2.1::OS AJ 3 bh aj.2.1::OS AJ 3 bj s.2.2.2::Bx di 36 [vI 0,vN,vN,vN,vN,vN,vN]::L) λ_ _=>EZ N g aj s be bf bg ch ak=some r) ?_ ?_)))))
 ·refine BT (λn1=>λa w=>∃(cj:Int) (c6:Value) (ck:List (List Int)) (c7:Value) (cl:List Int) (c8:Value) (cm:List Int) (c9:Value) (cn:List BA) (da:Value) (co:List BE),IV B du dv (53,[]) a w [(26,vI (↑c.A.length:Int)),(9,vP b9 0),(6,vP di 0),(27,vI cj)] (OS (BW.sl AJ) 29 c6 ck::OS AJ 3 c7 cl::OS AJ 3 c8 cm::OS CF 50 c9 cn::OS BI 60 da co::Bx b9 84 [.string c.F,(.slice an c.H.length K),vI c.R,(.slice ao c.A.length V),(.slice ap c.E.length W),(.slice aq c.Ag.length Y),(.slice ar c.Aq.length Z),(.slice au c.At.length ab),(.slice av c.Av.length ac),(.slice aw c.Au.length ad),vI c.U,(.slice ax d.Aa.length ae),(.slice ay d.Am.length af),(.slice az d.Ar.length ag),(.slice a0 d.Ae.length ah),(.slice a1 d.Az.length ai),vI g.B,c6,c7,c5,bi,bh,c8,c9,bj,da]::OS BI 60 c5 s.2.1::OS Bu 69 bi s.2.2.1::OS AJ 3 bh aj.2.1::OS AJ 3 bj s.2.2.2::Bx di 36 [vI 0,vN,vN,vN,vN,vN,vN]::L) λ_ _=>AH cj∧EY N c d g aj s (EZ N g aj s) n1 cj ck cl cm cn co=some r) N ?_ ?_ ?_
  ·intro aa ww hf hw
   have ij:=dw.sel [1,1,4,4,5,0,0,0,0,0,0] 0 O
   exact⟨0,ki,s.1,(.slice bo g.M.length a6),g.M,(.slice bs g.P.length a7),g.P,kh,aj.2.2,((vN)),([]:List BE),_,_,hf.sub (kp [26,9,6,27] O),hw,ij,(Cv.refl du dv),(iq (n:=0) O),E⟩
  ·rintro aa ww ⟨_,_,_,_,_,_,_,_,_,_,_,_,_,_,_,_,_,_,E⟩
   rw[EY] at E;cases E
  rintro n1 aa ww ⟨cj,c6,ck,c7,cl,c8,cm,c9,cn,da,co,ph,pi,hf,hw,dx,I,kl,E⟩
  refine A6 ?_ hf hw
  clear hf hw ww aa
  rw[EY] at E
  refine AI (BK O (AN (kp [28,26,9,6,27] O) (AE (AX O E (λkm E=>?_) (λkm E=>?_)))))
  ·refine AT (AE (BV (AI (AA O (AM O (kp [10,26,9,6,27] O) (FO (AF 1 (AA O (AG ?_)))))))))
   have ik:=dx.sel [5,0,0,3,3,3,0,0,1,0,0] 0 O
   obtain⟨cp,il,E⟩:=bd E
   refine DU O O O jH O (NX (p0_w:=(⟨c,d,(⟨g.B,ck,cl,s.2.1,s.2.2.1,aj.2.1,cm⟩:BD),cn,s.2.2.2,co⟩:A4)) ik ca (gi.mono' (D.trans I)) cb (gj.mono' (D.trans I)) (gl.mono' (D.trans I)) (gm.mono' (D.trans I)) (gn.mono' (D.trans I)) (gp.mono' (D.trans I)) (gq.mono' (D.trans I)) (gr.mono' (D.trans I)) cc (gs.mono' (D.trans I)) (gt.mono' (D.trans I)) (gu.mono' (D.trans I)) (gw.mono' (D.trans I)) (gx.mono' (D.trans I)) b8 kl il) λpj pk pl kn p=>?_
   obtain⟨ko,kq,kr,ks,kt,rfl,im⟩:=p
   refine AZ (kp [26,9,6,27] O) (B5 (CN (.inl O) (BB O (AA O (AN (kp [27,26,9,6] O) (WF.nil (λaa ww hf hw=>?_)))))))
   have io:=im.sel [1,1,4,4,5,0,0,0,0,0,0] 0 O
   exact⟨(B0 (cj+1)),ko,cp.1,kq,cp.2.1,kr,cp.2.2.1,ks,cp.2.2.2.1,kt,cp.2.2.2.2,_,_,hf.sub (kp [26,9,6,27] O),hw,io,(I.trans kn),(B1 _),E⟩
  refine By O (λaa ww hf hw=>?_)
  exact⟨c6,ck,c7,cl,c8,cm,c9,cn,da,co,_,_,hf.sub (kp [9,6] O),hw,dx,I,E⟩
 rintro aa ww ⟨cd,be,ce,bf,cf,bg,cg,ch,ci,ak,pm,pn,hf,hw,bu,ku,E⟩
 refine A6 ?_ hf hw
 clear hf hw ww aa
 rw[EZ] at E
 refine WF.sl (AF 5 (AD DI O (AD KO O (AS BY bu O (mt (mt (mt (mt (mt mh))))) O Lp O (AD SD O (AS BY bu O (mt (mt (mt (mt (mt mh))))) O Lp O (AG ?_)))))))
 obtain⟨ip,E⟩:=Mc E
 refine J3 (r:=BI) (l:=s.2.1) (xs:=ak) O O RW O (St.src bu (mt (mt (mt (mt mh))))) O ip O bu (λ_=>(.tail (.tail (.tail (.tail (.tail (.tail .head))))))) λpo pp dy kv=>AF 2 (AD DI O (AD KO O (AG ?_)))
 obtain⟨a4,a2,rfl,pq⟩:=dy.oslen (mt (mt (mt (mt (mt (mt mh))))))
 refine Il (vs:=[(.slice a4 (s.2.1++ak).length a2)]) (cs':=[.string c.F,(.slice an c.H.length K),vI c.R,(.slice ao c.A.length V),(.slice ap c.E.length W),(.slice aq c.Ag.length Y),(.slice ar c.Aq.length Z),(.slice au c.At.length ab),(.slice av c.Av.length ac),(.slice aw c.Au.length ad),vI c.U,(.slice ax d.Aa.length ae),(.slice ay d.Am.length af),(.slice az d.Ar.length ag),(.slice a0 d.Ae.length ah),(.slice a1 d.Az.length ai),vI g.B,cd,ce,(.slice a4 (s.2.1++ak).length a2),bi,bh,cf,cg,bj,ci]) O O O O Lp O dy (.tail (.tail (.tail (.tail (.tail .head))))) O O λpr dz kw=>AZ (kp [9,6] O) (WF.sl (AF 6 (AD DI O (AD H0 O (AS BY dz O (mt (mt (mt (mt (mt mh))))) O A7 O (BB O (AD DI O (AD H0 O (AG (Il (vs:=[vI (B0 (g.B+1))]) (cs':=[.string c.F,(.slice an c.H.length K),vI c.R,(.slice ao c.A.length V),(.slice ap c.E.length W),(.slice aq c.Ag.length Y),(.slice ar c.Aq.length Z),(.slice au c.At.length ab),(.slice av c.Av.length ac),(.slice aw c.Au.length ad),vI c.U,(.slice ax d.Aa.length ae),(.slice ay d.Am.length af),(.slice az d.Ar.length ag),(.slice a0 d.Ae.length ah),(.slice a1 d.Az.length ai),vI (B0 (g.B+1)),cd,ce,(.slice a4 (s.2.1++ak).length a2),bi,bh,cf,cg,bj,ci]) O O O O A7 O dz (.tail (.tail (.tail (.tail (.tail .head))))) O O λps t kx=>AZ (kp [9,6] O) (AE ?_)))))))))))
 obtain⟨cz,bv,rfl,pt⟩:=t.oslen mh
 obtain⟨c0,bw,rfl,pu⟩:=t.oslen (mt mh)
 obtain⟨c1,bx,rfl,pv⟩:=t.oslen (mt (mt (mt (mt (mt (mt (mt mh)))))))
 obtain⟨c2,bz,rfl,pw⟩:=t.oslen (mt (mt (mt (mt (mt (mt (mt (mt mh))))))))
 obtain⟨c3,b0,rfl,px⟩:=t.oslen (mt (mt mh))
 obtain⟨d0,db,rfl,py⟩:=t.oslen (mt (mt (mt mh)))
 obtain⟨d1,dc,rfl,pz⟩:=t.oslen (mt (mt (mt (mt (mt (mt (mt (mt (mt mh)))))))))
 obtain⟨ir,eq,rfl,p0⟩:=t.oslen (mt (mt (mt (mt mh))))
 refine aX (λw=>w.heap[b9]? =some (.cells ([.string c.F,(.slice an c.H.length K),vI c.R,(.slice ao c.A.length V),(.slice ap c.E.length W),(.slice aq c.Ag.length Y),(.slice ar c.Aq.length Z),(.slice au c.At.length ab),(.slice av c.Av.length ac),(.slice aw c.Au.length ad),vI c.U,(.slice ax d.Aa.length ae),(.slice ay d.Am.length af),(.slice az d.Ar.length ag),(.slice a0 d.Ae.length ah),(.slice a1 d.Az.length ai),vI (B0 (g.B+1)),(.slice cz be.length bv),(.slice c0 bf.length bw),(.slice a4 (s.2.1++ak).length a2),(.slice c1 s.2.2.1.length bx),(.slice c2 aj.2.1.length bz),(.slice c3 bg.length b0),(.slice d0 ch.length db),(.slice d1 s.2.2.2.length dc),(.slice ir ak.length eq)]:List Value).toArray 84 (0,0))) mo (Uh 0 O (by kernel_rfl) (λw hw=>t.bxW (mt (mt (mt (mt (mt mh))))) hw) O DI O (Qb 1 (vs:=[vI (B0 (g.B+1)),(.slice cz be.length bv),(.slice c0 bf.length bw),(.slice a4 (s.2.1++ak).length a2),(.slice c1 s.2.2.1.length bx),(.slice c2 aj.2.1.length bz),(.slice c3 bg.length b0)]) O (by kernel_rfl) (λw hw=>t.bxW (mt (mt (mt (mt (mt mh))))) hw) O (λw hw=>hw) O O Hs O O (Uh 2 O (by kernel_rfl) (λw hw=>t.bxW (mt (mt (mt (mt (mt mh))))) hw) O OL O (Qb 3 (vs:=[(.slice d0 ch.length db)]) O (by kernel_rfl) (λw hw=>t.bxW (mt (mt (mt (mt (mt mh))))) hw) O (λw hw=>hw) O O Sy O O (Uh 4 O (by kernel_rfl) (λw hw=>t.bxW (mt (mt (mt (mt (mt mh))))) hw) O KN O (Qb 5 (vs:=[(.slice d1 s.2.2.2.length dc)]) O (by kernel_rfl) (λw hw=>t.bxW (mt (mt (mt (mt (mt mh))))) hw) O (λw hw=>hw) O O CG O O (Zs 6 O O (by kernel_rfl) (EW (vs:=[vI (B0 (g.B+1)),(.slice cz be.length bv),(.slice c0 bf.length bw),(.slice a4 (s.2.1++ak).length a2),(.slice c1 s.2.2.1.length bx),(.slice c2 aj.2.1.length bz),(.slice c3 bg.length b0)]) O O O O Hs O t (.tail (.tail (.tail (.tail (.tail (.tail (.tail (.tail (.tail (.tail .head)))))))))) O λp1 b1 ky=>Vo (λw hw=>b1.bxW (mt (mt (mt (mt (mt mh))))) hw) (Yg 7 O (by kernel_rfl) (λw hw=>b1.bxW (mt (mt (mt (mt (mt mh))))) hw) O O (Yg 8 O (by kernel_rfl) (λw hw=>b1.bxW (mt (mt (mt (mt (mt mh))))) hw) O O (Vp (by kernel_rfl) (kp [8,7,6] O) (A5 (λaa ww hf hw=>?_)))))))))))))
 obtain⟨p2,it,kz,k1⟩:=b1.pubs .head
 obtain⟨p3,iu,gy,k2⟩:=it.pubs .head
 obtain⟨p4,iv,d2,k4⟩:=iu.pubs (.tail (.tail (.tail (.tail .head))))
 obtain⟨p5,iw,dd,k5⟩:=iv.pubs (.tail (.tail (.tail (.tail .head))))
 obtain⟨p6,iy,cq,k7⟩:=iw.pubs (.tail (.tail (.tail (.tail .head))))
 obtain⟨p7,iz,bk,k8⟩:=iy.pubs .head
 have d3:=iz.sel [0,2,2] 2 O
 have i0:=d3.drop (.tail (.tail .head))
 cases E
 exact Kn hf O hw (Ix (Yi hf hw d3 O (mt (mt mh)) Hs O) (Ix (JP hf (v:=_) O) (Ix (JP hf (v:=_) O) Km))) O (e5.trans (dg.trans (dh.trans (de.trans ((SX.ext k.1 b7 (Yn ba)).trans (u.trans (y.trans (z.trans (C.trans (D.trans (ku.trans (kv.trans (kw.trans (kx.trans (ky.trans (kz.trans (gy.trans (d2.trans (dd.trans (cq.trans bk)))))))))))))))))))) ⟨_,_,_,O,(C3.mk (x:=(⟨(B0 (g.B+1)),be,bf,(s.2.1++ak),s.2.2.1,aj.2.1,bg⟩:BD)) (B1 _) (k1.mono' (gy.trans (d2.trans (dd.trans (cq.trans bk))))) (k2.mono' (d2.trans (dd.trans (cq.trans bk)))) (k4.mono' (dd.trans (cq.trans bk))) (k5.mono' (cq.trans bk)) (k7.mono' bk) k8),i0⟩
end Go.Proofs.YtblcgjadhemlbaaGreat
