import Derived.Test.YtblcgjadhemlbaaGreatVWalk10
namespace Go.Proofs.YtblcgjadhemlbaaGreat
set_option linter.all false
open Go.RowKit
open Go.Proofs.Tryz
set_option maxRecDepth 10000
set_option maxHeartbeats 2000000
variable {N:Nat}{S:Nat→Prop}{L:List HP}{h:BL}
def Qo (hs:St S L h) {g:Value}{d:(List Int)}(c:Sl S h AJ g d) {j:Int}(y:AH j) {r:(List Int)×(List Int)}(E:Kc N d j=some r):
 C5 prog 90 #[g,vI j] S h (λv S' h'=>∃I J:Value,v= .tuple #[I,J]∧St S' (OS AJ 3 I r.1::OS AJ 3 J r.2::L) h'):=by
 refine Bv (l:=[g,vI j]) 39 func90 O ntmps90 O λB=>?_
 rw[Kc] at E
 refine AI (AY O (AM O (kp [0,1] O) (WF.sl (AF 2 (AA O (BC O c CA O λb1=>AG ?_))))))
 obtain⟨al,E⟩:=Mc E
 refine Jk (r:=AJ) (zx:=0) GK O ⟨O,by unfold AH;omega⟩ O O al O O hs λv3 h4 K M=>AF 1 (AY O (AG (AZ (kp [4,0,1] O) (AE (AE (CX (.inl O) K (AA O (CP O (AA O (AW 4 17 (.bool ((decide (0<j))&&(decide ((↑d.length:Int)≤64)))) ?_ ?_))))))))))
 ·cases c7:(decide (0<j))
  ·exact A3 O O
  exact AB O (AA O (AB O (BC O (c.mono' M) CA O λb9=>AB O (HO O (AL O (AV O))))))
 refine AA O ?_
 obtain⟨am,i,E⟩:=bd E
 refine AW 3 21 (.bool am) ?_ ?_
 ·cases Q:((decide (0<j))&&(decide ((↑d.length:Int)≤64)))
  ·have i:=HG Q i
   cases i
   exact A3 O O
  have i:=HE Q i
  refine AB O (AA O (AB O ?_))
  obtain⟨a2,U,i⟩:=bd i
  refine BR O O O aM O (λh' o=>Mv (St.all h') ((c.mono' M).mono' (o.all K.1)) U) (AL O ?_)
  cases i
  exact AV O
 refine B3 (kp [21,4,0,1] O) λV u G=>HN (λa w=>∃(H:List Int),IV B S V (39,[]) a w [(4,v3),(0,g)] (OS AJ 3 v3 H::L) λ_ _=>G0 N d H=some r) ?_ ?_
 ·refine AX O E (λan E=>?_) (λan E=>?_)
  ·refine WF.sl (AF 2 (AA O (AA O (AG ?_))))
   obtain⟨a3,W,E⟩:=bd E
   refine CJ O O O Nj O u (Fg (St.all _) ((c.mono' (M.trans G)).mono (λb X=>u.1 b X) (λ_ _=>rfl)) W) λa4 a5 a6 x Y a7 p=>?_
   obtain⟨rfl,ao,az⟩:=p
   refine AF 2 (Sh O O O (AA O (AG ?_)))
   obtain⟨Z,ab,E⟩:=bd E
   refine CJ O O O dB O x (PS (St.all _) (Lx y ao) ((c.mono' (M.trans (G.trans Y))).mono (λb X=>x.1 b X) (λ_ _=>rfl)) ab) λa8 a9 ac a0 ap aq p=>?_
   obtain⟨ba,rfl,ad⟩:=p
   have s:=x.join aq ad ⟨OS.flat (λ{_ _ _ _ _ _} k=>k),trivial⟩
   simp only[oG,nX] at s
   refine AF 5 (AA O (CS O (CS O (AY O (AY O (AG (AZ (kp [7,6,4,0] O) (AI (AA O (AN (kp [31,6,4,0] O) (HN (λa w=>∃(z:List Int),IV B S ac (39,[]) a w [(4,v3),(0,g)] (OS AJ 3 v3 z::L) λ_ _=>JA N (G0 N d) z=some r) ?_ ?_)))))))))))
   ·refine AX O E (λar E=>?_) (λar E=>?_)
    ·refine FO (AF 2 (AA O (AA O (AG (Sm (r:=AJ) (l:=(List.replicate ((↑d.length:Int):Int).toNat (0:Int))) (xs:=Z.1) O O CA (St.src s mh) O s (.tail .head) λbb ae au=>AZ (kp [4,0] O) (WF.nil (λA C m n=>?_)))))))
     have af:=ae.sel [1] 1 O
     exact⟨(NO (List.replicate ((↑d.length:Int):Int).toNat (0:Int)) Z.1),_,_,m.sub (kp [4,0] O),n,af,au,E⟩
    refine AT (WF.nil (λA C m n=>?_))
    have ag:=s.sel [1] 1 O
    exact⟨(List.replicate ((↑d.length:Int):Int).toNat (0:Int)),_,_,m.sub (kp [4,0] O),n,ag,(Cv.refl S ac),E⟩
   rintro A C ⟨z,bc,be,m,n,ah,av,E⟩
   refine A6 ?_ m n
   clear m n C A
   rw[JA] at E
   refine WF.nil (λA C m n=>?_)
   exact⟨z,_,_,m.sub (kp [4,0] O),n,ah,(Y.trans (ap.trans av)),E⟩
  refine AT (WF.nil (λA C m n=>?_))
  exact⟨(List.replicate ((↑d.length:Int):Int).toNat (0:Int)),_,_,m.sub (kp [4,0] O),n,u,(Cv.refl S V),E⟩
 rintro A C ⟨H,bf,bg,m,n,t,aw,E⟩
 refine A6 ?_ m n
 clear m n C A
 rw[G0] at E
 refine WF.sl (AF 3 (AA O (AA O (AA O (AG ?_)))))
 have D:=M.trans (G.trans aw)
 obtain⟨bh,ai,E⟩:=bd E
 refine CJ O O O aI O t (Lu (St.all _) ((c.mono' D).mono (λb X=>t.1 b X) (λ_ _=>rfl)) (t.oslAll mh) ai) λbi bj bk a1 ax ay p=>?_
 have aj:=p
 have F:=t.join ay aj ⟨OS.flat (λ{_ _ _ _ _ _} k=>k),trivial⟩
 simp only[oG,nX] at F
 refine AF 2 (AY O (AY O (AG (AZ (kp [5,4] O) (A5 (λA C m n=>?_))))))
 have ak:=F.sel [1,0] 0 O
 cases E
 exact Kn m O n (Ix (JP m (v:=_) O) (Ix (JP m (v:=_) O) Km)) O (D.trans ax) ⟨_,_,O,ak⟩
def IK (s:St S L h) {a:Value}{c:(List Int)}(d:Sl S h AJ a c) {g:Value}{c1_:Int}(j:Pt S h AJ g c1_) {r:(List Int)×(List Int)}(E:A0 N c1_ c=some r):
 C5 prog 89 #[a,g] S h (λv S' h'=>∃m n:Value,v= .tuple #[m,n]∧St S' (OS AJ 3 m r.1::OS AJ 3 n r.2::L) h'):=by
 refine Bv (l:=[a,g]) 10 func89 O ntmps89 O λB=>?_
 rw[A0] at E
 refine AI (AY O (AM O (kp [0,1] O) (WF.sl (AF 2 (AA O (A9 BY s.1 O j A7 O λx=>AG ?_))))))
 obtain⟨D,t,E⟩:=bd E
 refine CJ O O O iC O s (Qo (St.all _) (d.mono (λb y=>s.1 b y) (λ_ _=>rfl)) x t) λF G H z A u p=>?_
 obtain⟨I,J,rfl,o⟩:=p
 have i:=s.join u o ⟨OS.flat (λ{_ _ _ _ _ _} k=>k),⟨OS.flat (λ{_ _ _ _ _ _} k=>k),trivial⟩⟩
 simp only[oG,nX] at i
 refine AF 4 (CS O (CS O (AY O (AY O (AG (AZ (kp [4,3] O) (A5 (λK M w C=>?_))))))))
 cases E
 exact Kn w O C (Ix (JP w (v:=_) O) (Ix (JP w (v:=_) O) Km)) O A ⟨_,_,O,i⟩
def Ni (u:St S L h) {c:Int}(i:AH c) {a:Int}(d:AH a) {b:Int}(g:AH b) {r:Int}(E:Jm N c a b=some r):
 C5 prog 98 #[vI c,vI a,vI b] S h (λv S' h'=>v=vI r∧AH r∧St S' (L) h'):=by
 refine Bv (l:=[vI c,vI a,vI b]) 21 func98 O ntmps98 O λB=>?_
 rw[Jm] at E
 refine AI (AM O (kp [0,1,2] O) (AE (CX (.inl O) u (AA O (AA O (AA O ?_))))))
 obtain⟨j,m,E⟩:=bd E
 refine It (v:= .tuple #[vI j.1,vI j.2.1,.bool j.2.2]) (Ψ:=AH j.1∧AH j.2.1) O O O Tu O (λh' o=>(Is (St.all h') i d g m).mono λ_ _ _ _ p=>⟨p.1,⟨p.2.1,p.2.2.1⟩⟩) λw=>?_
 obtain⟨x,C⟩:=w
 refine AA O (CS O (CS O (CS O (AY O (AY O (AY O (B3 (kp [9,7] O) λD k t=>AE (AI (AA O (CE O (AN (kp [19,7] O) (AX O E (λy E=>?_) (λy E=>?_)))))))))))))
 ·refine AI (AM O (kp [6] O) (A5 (λz A q s=>?_)))
  cases E
  exact Ee q s O O t ⟨O,(iq (n:=0) O),k⟩
 refine AT (AI (AA O (AM O (kp [6] O) (A5 (λz A q s=>?_)))))
 cases E
 exact Ee q s O O t ⟨O,x,k⟩
def N9 (Q:St S L h) {b:Value}{k:BQ}(j:Rd S h Ce b k) {a:Int}(d:AH a) {c:Int}(i:AH c) {r:Int}(E:KF N k a c=some r):
 C5 prog 86 #[b,vI a,vI c] S h (λv S' h'=>v=vI r∧AH r∧St S' (L) h'):=by
 refine Bv (l:=[b,vI a,vI c]) 23 func86 O ntmps86 O λB=>?_
 rw[KF] at E
 refine WF.sl (Cm O j (λe=>by cases e) O Q λq1 S2 h3 g M m=>AF 1 (AY O (AG (AZ (kp [3,1,2] O) (AE (AI (A8 O m BQ.f_Kind G5 O λq7 U=>A9 BY g.1 O U A7 O λr9=>CW O (AN (kp [9,3,1,2] O) (AX O E (λu E=>?_) (λu E=>?_))))))))))
 ·refine AI (AM O (kp [6] O) (A5 (λV W w x=>?_)))
  cases E
  exact Ee w x O O M ⟨O,(iq (n:=0) O),g⟩
 refine AT (AE (CX (.inr ⟨mo,by kernel_rfl⟩) g (AA O (A8 O m BQ.f_Num I8 O λX y=>A9 CL g.1 O y A7 O λz=>A8 O m BQ.f_Den Jt O λY A=>A9 CL g.1 O A A7 O λC=>?_))))
 obtain⟨Z,p,E⟩:=bd E
 refine DF O O O aH O (λh' o=>Ni (St.all h') d z C p) λD=>?_
 have ab:=D
 refine AA O (A8 O m Iw LI O λac F=>A9 CL g.1 O F A7 O λG=>A8 O m Hy Ka O λad H=>A9 CL g.1 O H A7 O λI=>?_)
 obtain⟨ae,s,E⟩:=bd E
 refine DF O O O aH O (λh' o=>Ni (St.all h') i G I s) λJ=>?_
 have af:=J
 refine Dk O (AY O (B3 (kp [6] O) λag t K=>A5 (λV W w x=>?_)))
 cases E
 exact Ee w x O O (M.trans K) ⟨O,(B1 _),t⟩
def NY {j:Nat}{p0_w:A4}{ao:Value}{ap:Value}{ae:Value}{aq:Value}{ar:Value}{au:Value}{av:Value}{aw:Value}{ah:Value}{ai:Value}{aj:Value}{ak:Value}{am:Value}{z:Value}{V:Value}{W:Value}{k:Value}{X:Value}{Y:Value}{ab:Value}{d:Value}{ac:Value}(hs:St S (Bx j 84 [.string p0_w.b.F,ao,vI p0_w.b.R,ap,ae,aq,ar,au,av,aw,vI p0_w.b.U,ah,ai,aj,ak,am,vI p0_w.s.B,z,V,W,k,X,Y,ab,d,ac]::OS (BW.sl AJ) 29 z p0_w.s.G::OS AJ 3 V p0_w.s.M::OS BI 60 W p0_w.s.J::OS Bu 69 k p0_w.s.Q::OS AJ 3 X p0_w.s.O::OS AJ 3 Y p0_w.s.P::OS CF 50 ab p0_w.moves::OS AJ 3 d p0_w.peaks::OS BI 60 ac p0_w.sent::L) h) (ez:p0_w.b.F.size≤maxLen) (e0:Sl S h BW.str ao p0_w.b.H) (e1:AH p0_w.b.R) (e2:Sl S h Cd ap p0_w.b.A) (a5:Sl S h Ce ae p0_w.b.E) (e3:Sl S h HB aq p0_w.b.Ag) (e4:Sl S h FL ar p0_w.b.Aq) (e5:Sl S h G2 au p0_w.b.At) (e6:Sl S h Dh av p0_w.b.Av) (e7:Sl S h AJ aw p0_w.b.Au) (cu:AH p0_w.b.U) (cv:Sl S h AJ ah p0_w.in_.Aa) (cw:Sl S h GL ai p0_w.in_.Am) (cx:Sl S h JE aj p0_w.in_.Ar) (cy:Sl S h GV ak p0_w.in_.Ae) (cz:Sl S h HC am p0_w.in_.Az) (c0:AH p0_w.s.B) {ag:Int}(a6:AH ag) {r:(List AK)}(E:H3 N p0_w ag=some r):
 C5 prog 63 #[vP j 0,vI ag] S h (λv S' h'=>St S' (OS BJ 111 v r::Bx j 84 [.string p0_w.b.F,ao,vI p0_w.b.R,ap,ae,aq,ar,au,av,aw,vI p0_w.b.U,ah,ai,aj,ak,am,vI p0_w.s.B,z,V,W,k,X,Y,ab,d,ac]::OS (BW.sl AJ) 29 z p0_w.s.G::OS AJ 3 V p0_w.s.M::OS BI 60 W p0_w.s.J::OS Bu 69 k p0_w.s.Q::OS AJ 3 X p0_w.s.O::OS AJ 3 Y p0_w.s.P::OS CF 50 ab p0_w.moves::OS AJ 3 d p0_w.peaks::OS BI 60 ac p0_w.sent::L) h'):=by
 refine Bv (l:=[vP j 0,vI ag]) 141 func63 O ntmps63 O λB=>?_
 rw[H3] at E
 refine AI (AM O (kp [0,1] O) (AI (AM O (kp [5,0,1] O) (AE (AI (AA O (C7 O O (AD G4 O (AD H1 O (AS BY hs O mh O KY O (BC O a5 Io O λb1=>AA O (AN (kp [15,14,13,5,0,1] O) (BF (λa w=>∃(v2:Value) (l3:List AK),IV B S h (141,[]) a w [(5,v2)] (OS BJ 111 v2 l3::Bx j 84 [.string p0_w.b.F,ao,vI p0_w.b.R,ap,ae,aq,ar,au,av,aw,vI p0_w.b.U,ah,ai,aj,ak,am,vI p0_w.s.B,z,V,W,k,X,Y,ab,d,ac]::OS (BW.sl AJ) 29 z p0_w.s.G::OS AJ 3 V p0_w.s.M::OS BI 60 W p0_w.s.J::OS Bu 69 k p0_w.s.Q::OS AJ 3 X p0_w.s.O::OS AJ 3 Y p0_w.s.P::OS CF 50 ab p0_w.moves::OS AJ 3 d p0_w.peaks::OS BI 60 ac p0_w.sent::L) λ_ _=>DN N l3=some r) ?_ ?_)))))))))))))
 ·refine BT (λn1=>λa w=>∃(v8:Value) (l9:List AK) (t:Int),IV B S h (141,[]) a w [(14,vI (↑p0_w.b.E.length:Int)),(13,ae),(0,vP j 0),(1,vI ag),(5,v8),(15,vI t)] (OS BJ 111 v8 l9::Bx j 84 [.string p0_w.b.F,ao,vI p0_w.b.R,ap,ae,aq,ar,au,av,aw,vI p0_w.b.U,ah,ai,aj,ak,am,vI p0_w.s.B,z,V,W,k,X,Y,ab,d,ac]::OS (BW.sl AJ) 29 z p0_w.s.G::OS AJ 3 V p0_w.s.M::OS BI 60 W p0_w.s.J::OS Bu 69 k p0_w.s.Q::OS AJ 3 X p0_w.s.O::OS AJ 3 Y p0_w.s.P::OS CF 50 ab p0_w.moves::OS AJ 3 d p0_w.peaks::OS BI 60 ac p0_w.sent::L) λ_ _=>AH t∧CM N p0_w ag (DN N) n1 l9 t=some r) N ?_ ?_ ?_
  ·intro aa ww hf hw
   have e8:=hs.nil BJ 111
   exact⟨(vN),([]:List AK),0,_,_,hf.sub (kp [14,13,0,1,5,15] O),hw,e8,(Cv.refl S h),(iq (n:=0) O),E⟩
  ·rintro aa ww ⟨_,_,_,_,_,_,_,_,_,_,E⟩
   rw[CM] at E;cases E
  rintro n1 aa ww ⟨v8,l9,t,a4,lw,hf,hw,bk,c1,b2,E⟩
  refine A6 ?_ hf hw
  clear hf hw ww aa
  rw[CM] at E
  refine AI (BK O (AN (kp [16,14,13,0,1,5,15] O) (AE (AX O E (λlx E=>?_) (λlx E=>?_)))))
  ·refine AT (AE (BF (λa w=>∃(b3:Value) (b4:List AK),IV B a4 lw (141,[]) a w [(14,vI (↑p0_w.b.E.length:Int)),(13,ae),(0,vP j 0),(1,vI ag),(15,vI t),(5,b3)] (OS BJ 111 b3 b4::Bx j 84 [.string p0_w.b.F,ao,vI p0_w.b.R,ap,ae,aq,ar,au,av,aw,vI p0_w.b.U,ah,ai,aj,ak,am,vI p0_w.s.B,z,V,W,k,X,Y,ab,d,ac]::OS (BW.sl AJ) 29 z p0_w.s.G::OS AJ 3 V p0_w.s.M::OS BI 60 W p0_w.s.J::OS Bu 69 k p0_w.s.Q::OS AJ 3 X p0_w.s.O::OS AJ 3 Y p0_w.s.P::OS CF 50 ab p0_w.moves::OS AJ 3 d p0_w.peaks::OS BI 60 ac p0_w.sent::L) λ_ _=>Dq N t (CM N p0_w ag (DN N) n1) b4=some r) ?_ ?_))
   ·refine WF.sl (AF 3 (AA O ?_))
    obtain⟨c,e9,E⟩:=bd E
    refine Bz O O (a5.mono' c1) Io e9 O λpv ly=>Ci BY bk.1 O ly IJ (λe=>by cases e) O λpw lz=>AG (Di O1 O bk λaz px fa bl=>AF 1 (AY O (AG ?_)))
    obtain⟨a7,a8,a9,rfl,c2,c3,bm,bi,b5,b6,b7,c4,c5,c6,c7,c8,c9,da,db,dc,dd,bj⟩:=Ce.ex (lz.mono bl)
    refine IA (vs:=[.string c.F,vI c.C,vI c.I,vI c.D,a7,a8,a9,vI c.T,vI c.Z,vI c.Ao,vI c.Ap,vI c.S,vI c.L,vI c.Ah,vI c.Ai,vI c.Ac,vI c.Ab,vI c.K]) (cs':=[.string c.F,vI c.C,vI c.I,vI c.D,a7,a8,a9,vI c.T,vI c.Z,vI c.Ao,vI c.Ap,vI c.S,vI c.L,vI c.Ah,vI c.Ai,vI c.Ac,vI c.Ab,vI c.K]) O O O (AC O (AC O (AC O (AC O (AC b5.one (AC b6.one (AC b7.one (AC O (AC O (AC O (AC O (AC O (AC O (AC O (AC O (AC O (AC O (AC O FA)))))))))))))))))) IJ O fa .head O O λba g a2=>AZ (kp [6,7,14,13,0,1,5,15] O) (BV (AI (AD Js O (AS BY g O mh O A7 O (AA O (B9 O (AA O (AW 4 29 (.bool ((decide (c.I=ag))&&(decide (c.C≠4)))) ?_ ?_))))))))
    ·cases py:(decide (c.I=ag))
     ·exact A3 O O
     exact AB O (AD G5 O (AB O (AS BY g O mh O A7 O (AB O (CW O (AL O (AV O)))))))
    refine AM O (kp [20,6,7,14,13,0,1,5,15] O) (AX O E (λl0 E=>?_) (λl0 E=>?_))
    ·refine AI (AM O (kp [8,6,7,14,13,0,1,5,15] O) (AE (AI (AD Id O (AS BY g O mh O A7 O (CW O (AN (kp [32,8,6,7,14,13,0,1,5,15] O) (HN (λa w=>∃(bc:Int),IV B a4 ba (141,[]) a w [(6,vI t),(7,vP az 0),(14,vI (↑p0_w.b.E.length:Int)),(13,ae),(0,vP j 0),(1,vI ag),(5,v8),(15,vI t),(8,vI bc)] (Bx az 67 [.string c.F,vI c.C,vI c.I,vI c.D,a7,a8,a9,vI c.T,vI c.Z,vI c.Ao,vI c.Ap,vI c.S,vI c.L,vI c.Ah,vI c.Ai,vI c.Ac,vI c.Ab,vI c.K]::OS BJ 111 v8 l9::Bx j 84 [.string p0_w.b.F,ao,vI p0_w.b.R,ap,ae,aq,ar,au,av,aw,vI p0_w.b.U,ah,ai,aj,ak,am,vI p0_w.s.B,z,V,W,k,X,Y,ab,d,ac]::OS (BW.sl AJ) 29 z p0_w.s.G::OS AJ 3 V p0_w.s.M::OS BI 60 W p0_w.s.J::OS Bu 69 k p0_w.s.Q::OS AJ 3 X p0_w.s.O::OS AJ 3 Y p0_w.s.P::OS CF 50 ab p0_w.moves::OS AJ 3 d p0_w.peaks::OS BI 60 ac p0_w.sent::L) λ_ _=>AH bc∧Gy N p0_w ag l9 t c (Dq N t (CM N p0_w ag (DN N) n1)) bc=some r) ?_ ?_))))))))
     ·refine AX O E (λl1 E=>?_) (λl1 E=>?_)
      ·refine CN (.inr ⟨mo,by kernel_rfl⟩) (AA O (C7 O O (AD KN O (AS BY g O (mt (mt mh)) O CG O (AD Id O (AS BY g O mh O A7 O ?_))))))
       obtain⟨pz,fb,E⟩:=bd E
       refine BU g (mt (mt (mt (mt (mt (mt (mt (mt (mt (mt mh)))))))))) O O CA fb O λp0 fc=>?_
       obtain⟨l2,fd,E⟩:=bd E
       have l4:=g.epAt (mt (mt (mt (mt (mt (mt (mt (mt (mt (mt mh)))))))))) fd GM.id fc
       refine A9 BY (λ_ x=>x) O l4 A7 O λl5=>AM O (kp [8,6,7,14,13,0,1,5,15] O) (WF.nil (λaa ww hf hw=>?_))
       exact⟨l2,_,_,hf.sub (kp [6,7,14,13,0,1,5,15,8] O),hw,g,(Cv.refl a4 ba),l5,E⟩
      refine AT (WF.nil (λaa ww hf hw=>?_))
      exact⟨0,_,_,hf.sub (kp [6,7,14,13,0,1,5,15,8] O),hw,g,(Cv.refl a4 ba),(iq (n:=0) O),E⟩
     rintro aa ww ⟨bc,bn,b8,hf,hw,an,fe,l6,E⟩
     refine A6 ?_ hf hw
     clear hf hw ww aa
     rw[Gy] at E
     obtain⟨p1,ff,E⟩:=bd E
     obtain⟨fg,fh,E⟩:=bd E
     obtain⟨p2,fi,E⟩:=bd E
     obtain⟨fj,fk,E⟩:=bd E
     obtain⟨fl,fm,E⟩:=bd E
     obtain⟨a1,fn,E⟩:=bd E
     refine MV (m:=[(6,vI t),(7,vP az 0),(14,vI (↑p0_w.b.E.length:Int)),(13,ae),(0,vP j 0),(1,vI ag),(5,v8),(15,vI t),(8,vI bc)]) 27 (λi v hh=>match i with|0=>v=v8|1=>v=vP az 3|2=>v=vI c.D∧AH c.D|3=>v=vP az 17|4=>v=vI c.K∧AH c.K|5=>v=vI t∧AH t|6=>v= .agg #[.string c.F,vI c.C,vI c.I,vI c.D,a7,a8,a9,vI c.T,vI c.Z,vI c.Ao,vI c.Ap,vI c.S,vI c.L,vI c.Ah,vI c.Ai,vI c.Ac,vI c.Ab,vI c.K]∧c.F.size≤maxLen∧AH c.C∧AH c.I∧AH c.D∧AH c.T∧AH c.Z∧AH c.Ao∧AH c.Ap∧AH c.S∧AH c.L∧AH c.Ah∧AH c.Ai∧AH c.Ac∧AH c.Ab∧AH c.K|7=>v=vP j 0|8=>v=vP j 0|9=>v=vP j 16|10=>v=vP j 20|11=>v=k|12=>v=vI t∧AH t|13=>EP k (t.toNat*(Bu).sz+0) v|14=>Rd bn hh Bu v fg|15=>v=vP j 0|16=>v=vP j 0|17=>v=vP j 24|18=>v=d|19=>v=vI ag∧AH ag|20=>EP d (ag.toNat*(AJ).sz+0) v|21=>v=vI fj∧AH fj|22=>v=vI bc∧AH bc|23=>v=vI fl∧AH fl|24=>Rd (SN bn b8 hh) hh (BW.fnr prog (λS h vs (x:(List Int))=>∃w0:Value,vs=[w0]∧Sl S h AJ w0 x) (λS h v (y:((List Int)×(List Int)))=>∃w0 w1:Value,v= .tuple #[w0,w1]∧Sl S h AJ w0 y.1∧Sl S h AJ w1 y.2)) v (λx=>A0 N a1 x)|25=>Rd (SN bn b8 hh) hh BJ v (⟨c.D,c.K,t,(λx=>A0 N a1 x)⟩:AK)|26=>Sl (SN bn b8 hh) hh BJ v ([(⟨c.D,c.K,t,(λx=>A0 N a1 x)⟩:AK)]:List AK)∧∃ad,v= .slice (some ad) 1 1|_=>False) [[],[],[(1,42)],[],[(3,44)],[],[],[],[(7,48)],[(8,49)],[(9,50)],[(10,51)],[],[(11,52),(12,53)],[(13,54)],[],[(15,56)],[(16,57)],[(17,58)],[],[(18,59),(19,60)],[(20,61)],[],[(6,47),(14,55),(21,62),(22,63)],[(23,64)],[(2,43),(4,45),(5,46),(24,65)],[(25,66)]] [(0,41),(26,67)] mo (by kernel_rfl) [6,7,14,13,0,1,5,15,8] O (by kernel_rfl) (by kernel_rfl) (by kernel_rfl) (kp [6,7,14,13,0,1,5,15,8] O) (λi v h1 h2 o1 o2 u=>?_) ?_ ?_
     ·match i,u with
       |0,u|1,u|2,u|3,u|4,u|5,u|6,u|7,u|8,u|9,u|10,u|11,u|12,u|13,u|15,u|16,u|17,u|18,u|19,u|20,u|21,u|22,u|23,u=>exact u
       |14,u=>exact Rd.mono u (o2.ext λb hb=>nH (an.1 b hb) o1.siz)
       |24,u|25,u=>exact Rd.mono u (SN.mono an.1 o1 o2)
       |26,u=>exact⟨Sl.mono' u.1 (SN.mono an.1 o1 o2),u.2⟩
       |_+27,u=>exact u.elim
     ·refine BP.cons O (λ_ _ _=>AF 1 (AA O (AO O))) (BP.cons O (λ_ _ _=>AF 1 (AD Id O (AO O))) (BP.cons O (λ_ _ o _ fo=>by cases fo;exact AF 1 (AS BY (o.st an) O mh O A7 O (AO ⟨O,bi⟩))) (BP.cons O (λ_ _ _=>AF 1 (AD OP O (AO O))) (BP.cons O (λ_ _ o _ fp=>by cases fp;exact AF 1 (AS BY (o.st an) O mh O A7 O (AO ⟨O,bj⟩))) (BP.cons O (λ_ _ _=>AF 1 (AA O (AO ⟨O,b2⟩))) (BP.cons O (λ_ _ o=>AF 1 (EH (vs:=[.string c.F,vI c.C,vI c.I,vI c.D,a7,a8,a9,vI c.T,vI c.Z,vI c.Ao,vI c.Ap,vI c.S,vI c.L,vI c.Ah,vI c.Ai,vI c.Ac,vI c.Ab,vI c.K]) BY (o.st an) O mh O O IJ O O (AO ⟨O,c2,c3,bm,bi,c4,c5,c6,c7,c8,c9,da,db,dc,dd,bj⟩))) (BP.cons O (λ_ _ _=>AF 1 (AA O (AO O))) (BP.cons O (λ_ _ _ _ fq=>by cases fq;exact AF 1 (C7 O O (AO O))) (BP.cons O (λ_ _ _ _ fr=>by cases fr;exact AF 1 (AD DI O (AO O))) (BP.cons O (λ_ _ _ _ fs=>by cases fs;exact AF 1 (AD Ie O (AO O))) (BP.cons O (λ_ _ o _ ft=>by cases ft;exact AF 1 (AS BY (o.st an) O (mt (mt mh)) O K9 O (AO O))) ?_)))))))))))
      refine BP.cons O (λ_ _ _=>AF 1 (AA O (AO ⟨O,b2⟩))) (BP.cons O (λ_ _ o=>by intro mu fu mv fv;cases fu;obtain ⟨rfl,mw⟩:=fv;exact AF 1 (BU (o.st an) (mt (mt (mt (mt (mt (mt mh)))))) O O Ks ff O λmx de=>AO de)) ?_)
      refine BP.cons O ?_ ?_
      ·intro mq hh o
       intro my fw
       have af:=o.st an
       refine AF 1 ?_
       have fx:=af.epAt (mt (mt (mt (mt (mt (mt mh)))))) fh GM.id fw
       exact Ci BY (λ_ x=>x) O fx He (λe=>by cases e) O λmz fy=>AO fy
      refine BP.cons O (λ_ _ _=>AF 1 (AA O (AO O))) (BP.cons O (λ_ _ _ _ f0=>by cases f0;exact AF 1 (C7 O O (AO O))) (BP.cons O (λ_ _ _ _ f1=>by cases f1;exact AF 1 (AD KN O (AO O))) (BP.cons O (λ_ _ o _ f2=>by cases f2;exact AF 1 (AS BY (o.st an) O (mt (mt mh)) O CG O (AO O))) (BP.cons O (λ_ _ _=>AF 1 (AA O (AO ⟨O,a6⟩))) (BP.cons O (λ_ _ o=>by intro m0 f3 m1 f4;cases f3;obtain ⟨rfl,m2⟩:=f4;exact AF 1 (BU (o.st an) (mt (mt (mt (mt (mt (mt (mt (mt (mt (mt mh)))))))))) O O CA fi O λm3 df=>AO df)) ?_)))))
      refine BP.cons O ?_ ?_
      ·intro mq hh o
       intro m4 f5
       have af:=o.st an
       refine AF 1 ?_
       have f6:=af.epAt (mt (mt (mt (mt (mt (mt (mt (mt (mt (mt mh)))))))))) fk GM.id f5
       exact A9 BY (λ_ x=>x) O f6 A7 O λf7=>AO ⟨O,f7⟩
      refine BP.cons O (λ_ _ _=>AF 1 (AA O (AO ⟨O,l6⟩))) ?_
      refine BP.cons O ?_ ?_
      ·intro mq hh o
       intro m5 f8 f9 bb m6 ga m7 gb
       have af:=SN.st an o
       obtain⟨rfl,gc,gd,ge,gf,gg,gh,gi,gj,gl,gm,gn,gp,gq,gr,gs⟩:=f8
       have bb:=Rd.mono (S':=(SN bn b8 hh)) bb ⟨λb hb=> .inl hb,λ_ _=>rfl,nJ _⟩
       have bb:Rd _ _ Bu f9 fg:=bb
       obtain⟨rfl,gt⟩:=ga
       obtain⟨rfl,gu⟩:=gb
       have be:=a2.trans (fe.trans (SN.ext an.1 o))
       refine CJ O O O iE O af (SA (St.all _) (Ce.mk (x:=c) gc gd ge gf ((b5.mono' be).mono (λb hb=>af.1 b hb) (λ_ _=>rfl)) ((b6.mono' be).mono (λb hb=>af.1 b hb) (λ_ _=>rfl)) ((b7.mono' be).mono (λb hb=>af.1 b hb) (λ_ _=>rfl)) gg gh gi gj gl gm gn gp gq gr gs) (bb.mono ⟨λb hb=>af.1 b hb,λ_ _=>rfl,nJ _⟩) gt gu fm) λm8 m9 na l7 nb b9 p=>?_
       obtain⟨rfl,gv,l8⟩:=p
       exact DV ⟨b9.siz,λb hb=>b9.same b hb⟩ ⟨O,gv⟩
      refine BP.cons O ?_ ?_
      ·intro mq hh o
       intro nd gw
       have af:=SN.st an o
       obtain⟨rfl,gx⟩:=gw
       have a3:=af.fz
       refine DU O O O Tv O (I6 a3 gx fn) λne gy gz g0 p=>?_
       obtain⟨ca,rfl,g1,dg⟩:=p
       have dh:Rd gy gz (BW.fnr prog (λS h vs (x:(List Int))=>∃w0:Value,vs=[w0]∧Sl S h AJ w0 x) (λS h v (y:((List Int)×(List Int)))=>∃w0 w1:Value,v= .tuple #[w0,w1]∧Sl S h AJ w0 y.1∧Sl S h AJ w1 y.2)) (.func (.func 89) #[] #[ca]) (λx=>A0 N a1 x):=Ki 89 #[ca] Tt λS' h' s' e' L hs x y vs h1 h2=>by obtain⟨w0,rfl,a0⟩:=h1;exact NE (IK hs a0 (g1.mono'' s' e') h2)
       have bo:=Fz.done o g0 dg
       exact DV bo.1 (Rd.mono dh bo.2)
      refine BP.cons O ?_ ?_
      ·intro mq hh o
       intro nf g2 ng g3 nh g4 g5 bf
       have af:=SN.st an o
       obtain⟨rfl,g6⟩:=g2
       obtain⟨rfl,g7⟩:=g3
       obtain⟨rfl,g8⟩:=g4
       have bf:Rd _ _ (BW.fnr prog (λS h vs (x:(List Int))=>∃w0:Value,vs=[w0]∧Sl S h AJ w0 x) (λS h v (y:((List Int)×(List Int)))=>∃w0 w1:Value,v= .tuple #[w0,w1]∧Sl S h AJ w0 y.1∧Sl S h AJ w1 y.2)) g5 (λx=>A0 N a1 x):=bf
       refine AF 1 ?_
       obtain⟨di,dj,rfl,ma,mb⟩:=bf.fnr
       exact Ik (cs:=[vI c.D,vI c.K,vI t,(.func (.func di) #[] dj)]) Ol O O O (AO (BJ.mk (x:=(⟨c.D,c.K,t,(λx=>A0 N a1 x)⟩:AK)) g6 g7 g8 bf))
      refine BP.cons O ?_ ?_
      ·intro mq hh o
       intro g9 bp
       have af:=SN.st an o
       have bp:Rd _ _ BJ g9 (⟨c.D,c.K,t,(λx=>A0 N a1 x)⟩:AK):=bp
       have a3:=af.fz
       obtain⟨ha,rfl,hc,hd,he,hg⟩:=BJ.ex bp
       refine Em (cs:=[vI ((⟨c.D,c.K,t,(λx=>A0 N a1 x)⟩:AK).to_),vI ((⟨c.D,c.K,t,(λx=>A0 N a1 x)⟩:AK).delay),vI ((⟨c.D,c.K,t,(λx=>A0 N a1 x)⟩:AK).way),ha]) Lj O O O O O O O a3 λni nj dk cb=>?_
       have hi:=hg.mono cb
       have dl:=dk.bxos (r:=BJ) (l:=([(⟨c.D,c.K,t,(λx=>A0 N a1 x)⟩:AK)]:List AK)) .head ⟨_,_,O,⟨_,O,hc,hd,he,hi⟩,O⟩ (by simp [maxLen])
       obtain⟨nk,dm,hj,hk⟩:=dl.pubs .head
       have bq:=Fz.done o (cb.trans hj) dm
       exact DV bq.1 ⟨Sl.mono' hk bq.2,_,O⟩
      exact trivial
     intro nl cc nm hl nn br
     have dn:=SN.st an cc
     cases hl
     obtain⟨br,mc,rfl⟩:=br
     obtain⟨dp,E⟩:=Mc E
     refine J3 (r:=BJ) (l:=l9) (xs:=([(⟨c.D,c.K,t,(λx=>A0 N a1 x)⟩:AK)]:List AK)) O O Lj O (Sl.src br) O dp O dn (λ_=>(.tail .head)) λhm no dq hn=>AF 1 (AY O (AG (AZ (kp [5,14,13,0,1,15] O) (B5 (WF.nil (λaa ww hf hw=>?_))))))
     have dr:=dq.sel [1,1,1,1,1,1,1,1,1,1,1] 1 O
     exact⟨hm,(l9++([(⟨c.D,c.K,t,(λx=>A0 N a1 x)⟩:AK)]:List AK)),_,_,hf.sub (kp [14,13,0,1,15,5] O),hw,dr,(bl.trans (a2.trans (fe.trans ((SN.ext an.1 cc).trans hn)))),E⟩
    refine AI (AD Js O (AS BY g O mh O A7 O (AA O (B9 O (AM O (kp [69,6,7,14,13,0,1,5,15] O) (AX O E (λho E=>?_) (λho E=>?_)))))))
    ·obtain ⟨np,ds,E⟩:=bd E
     obtain⟨cd,dt,E⟩:=bd E
     obtain⟨nq,du,E⟩:=bd E
     obtain⟨ce,dv,E⟩:=bd E
     obtain⟨cf,dw,E⟩:=bd E
     obtain⟨ax,dx,E⟩:=bd E
     refine MV (m:=[(6,vI t),(7,vP az 0),(14,vI (↑p0_w.b.E.length:Int)),(13,ae),(0,vP j 0),(1,vI ag),(5,v8),(15,vI t)]) 26 (λi v hh=>match i with|0=>v=v8|1=>v=vP az 3|2=>v=vI c.D∧AH c.D|3=>v=vP az 17|4=>v=vI c.K∧AH c.K|5=>v=vI t∧AH t|6=>v= .agg #[.string c.F,vI c.C,vI c.I,vI c.D,a7,a8,a9,vI c.T,vI c.Z,vI c.Ao,vI c.Ap,vI c.S,vI c.L,vI c.Ah,vI c.Ai,vI c.Ac,vI c.Ab,vI c.K]∧c.F.size≤maxLen∧AH c.C∧AH c.I∧AH c.D∧AH c.T∧AH c.Z∧AH c.Ao∧AH c.Ap∧AH c.S∧AH c.L∧AH c.Ah∧AH c.Ai∧AH c.Ac∧AH c.Ab∧AH c.K|7=>v=vP j 0|8=>v=vP j 0|9=>v=vP j 24|10=>v=d|11=>v=vI ag∧AH ag|12=>EP d (ag.toNat*(AJ).sz+0) v|13=>v=vI cd∧AH cd|14=>v=vP j 0|15=>v=vP j 0|16=>v=vP j 24|17=>v=d|18=>v=vP az 3|19=>v=vI c.D∧AH c.D|20=>EP d (c.D.toNat*(AJ).sz+0) v|21=>v=vI ce∧AH ce|22=>v=vI cf∧AH cf|23=>Rd (SN a4 ba hh) hh (BW.fnr prog (λS h vs (x:(List Int))=>∃w0:Value,vs=[w0]∧Sl S h AJ w0 x) (λS h v (y:((List Int)×(List Int)))=>∃w0 w1:Value,v= .tuple #[w0,w1]∧Sl S h AJ w0 y.1∧Sl S h AJ w1 y.2)) v (λx=>A0 N ax x)|24=>Rd (SN a4 ba hh) hh BJ v (⟨c.D,c.K,t,(λx=>A0 N ax x)⟩:AK)|25=>Sl (SN a4 ba hh) hh BJ v ([(⟨c.D,c.K,t,(λx=>A0 N ax x)⟩:AK)]:List AK)∧∃ad,v= .slice (some ad) 1 1|_=>False) [[],[],[(1,75)],[],[(3,77)],[],[],[],[(7,81)],[(8,82)],[(9,83)],[],[(10,84),(11,85)],[(12,86)],[],[(14,88)],[(15,89)],[(16,90)],[],[(18,92)],[(17,91),(19,93)],[(20,94)],[(6,80),(13,87),(21,95)],[(22,96)],[(2,76),(4,78),(5,79),(23,97)],[(24,98)]] [(0,74),(25,99)] mo (by kernel_rfl) [6,7,14,13,0,1,5,15] O (by kernel_rfl) (by kernel_rfl) (by kernel_rfl) (kp [6,7,14,13,0,1,5,15] O) (λi v h1 h2 o1 o2 u=>?_) ?_ ?_
     ·match i,u with
       |0,u|1,u|2,u|3,u|4,u|5,u|6,u|7,u|8,u|9,u|10,u|11,u|12,u|13,u|14,u|15,u|16,u|17,u|18,u|19,u|20,u|21,u|22,u=>exact u
       |23,u|24,u=>exact Rd.mono u (SN.mono g.1 o1 o2)
       |25,u=>exact⟨Sl.mono' u.1 (SN.mono g.1 o1 o2),u.2⟩
       |_+26,u=>exact u.elim
     ·refine BP.cons O (λ_ _ _=>AF 1 (AA O (AO O))) (BP.cons O (λ_ _ _=>AF 1 (AD Id O (AO O))) (BP.cons O (λ_ _ o _ hp=>by cases hp;exact AF 1 (AS BY (o.st g) O mh O A7 O (AO ⟨O,bi⟩))) (BP.cons O (λ_ _ _=>AF 1 (AD OP O (AO O))) (BP.cons O (λ_ _ o _ hq=>by cases hq;exact AF 1 (AS BY (o.st g) O mh O A7 O (AO ⟨O,bj⟩))) (BP.cons O (λ_ _ _=>AF 1 (AA O (AO ⟨O,b2⟩))) (BP.cons O (λ_ _ o=>AF 1 (EH (vs:=[.string c.F,vI c.C,vI c.I,vI c.D,a7,a8,a9,vI c.T,vI c.Z,vI c.Ao,vI c.Ap,vI c.S,vI c.L,vI c.Ah,vI c.Ai,vI c.Ac,vI c.Ab,vI c.K]) BY (o.st g) O mh O O IJ O O (AO ⟨O,c2,c3,bm,bi,c4,c5,c6,c7,c8,c9,da,db,dc,dd,bj⟩))) (BP.cons O (λ_ _ _=>AF 1 (AA O (AO O))) (BP.cons O (λ_ _ _ _ ht=>by cases ht;exact AF 1 (C7 O O (AO O))) (BP.cons O (λ_ _ _ _ hu=>by cases hu;exact AF 1 (AD KN O (AO O))) (BP.cons O (λ_ _ o _ hv=>by cases hv;exact AF 1 (AS BY (o.st g) O (mt (mt mh)) O CG O (AO O))) (BP.cons O (λ_ _ _=>AF 1 (AA O (AO ⟨O,a6⟩))) ?_)))))))))))
      refine BP.cons O (λ_ _ o=>by intro nr hx ns hy;cases hx;obtain ⟨rfl,nt⟩:=hy;exact AF 1 (BU (o.st g) (mt (mt (mt (mt (mt (mt (mt (mt (mt (mt mh)))))))))) O O CA ds O λnu dy=>AO dy)) ?_
      refine BP.cons O ?_ ?_
      ·intro mq hh o
       intro nv hz
       have af:=o.st g
       refine AF 1 ?_
       have h0:=af.epAt (mt (mt (mt (mt (mt (mt (mt (mt (mt (mt mh)))))))))) dt GM.id hz
       exact A9 BY (λ_ x=>x) O h0 A7 O λh3=>AO ⟨O,h3⟩
      refine BP.cons O (λ_ _ _=>AF 1 (AA O (AO O))) (BP.cons O (λ_ _ _ _ h4=>by cases h4;exact AF 1 (C7 O O (AO O))) (BP.cons O (λ_ _ _ _ h5=>by cases h5;exact AF 1 (AD KN O (AO O))) (BP.cons O (λ_ _ o _ h6=>by cases h6;exact AF 1 (AS BY (o.st g) O (mt (mt mh)) O CG O (AO O))) (BP.cons O (λ_ _ _=>AF 1 (AD Id O (AO O))) (BP.cons O (λ_ _ o _ h7=>by cases h7;exact AF 1 (AS BY (o.st g) O mh O A7 O (AO ⟨O,bi⟩))) (BP.cons O (λ_ _ o=>by intro nw h8 nx h9;cases h8;obtain ⟨rfl,ny⟩:=h9;exact AF 1 (BU (o.st g) (mt (mt (mt (mt (mt (mt (mt (mt (mt (mt mh)))))))))) O O CA du O λnz dz=>AO dz)) ?_))))))
      refine BP.cons O ?_ ?_
      ·intro mq hh o
       intro n0 ia
       have af:=o.st g
       refine AF 1 ?_
       have ib:=af.epAt (mt (mt (mt (mt (mt (mt (mt (mt (mt (mt mh)))))))))) dv GM.id ia
       exact A9 BY (λ_ x=>x) O ib A7 O λic=>AO ⟨O,ic⟩
      refine BP.cons O ?_ ?_
      ·intro mq hh o
       intro n2 ie n3 ig n4 ih
       have af:=SN.st g o
       obtain⟨rfl,ii,ij,ik,il,im,io,ip,ir,it,iu,iv,iw,iy,iz,i0⟩:=ie
       obtain⟨rfl,i1⟩:=ig
       obtain⟨rfl,i2⟩:=ih
       refine CJ O O O aN O af (N9 (St.all _) (Ce.mk (x:=c) ii ij ik il ((b5.mono' (a2.trans (SN.ext g.1 o))).mono (λb hb=>af.1 b hb) (λ_ _=>rfl)) ((b6.mono' (a2.trans (SN.ext g.1 o))).mono (λb hb=>af.1 b hb) (λ_ _=>rfl)) ((b7.mono' (a2.trans (SN.ext g.1 o))).mono (λb hb=>af.1 b hb) (λ_ _=>rfl)) im io ip ir it iu iv iw iy iz i0) i1 i2 dw) λn5 n6 n7 md n8 cg p=>?_
       obtain⟨rfl,i3,me⟩:=p
       exact DV ⟨cg.siz,λb hb=>cg.same b hb⟩ ⟨O,i3⟩
      refine BP.cons O ?_ ?_
      ·intro mq hh o
       intro n9 i4
       have af:=SN.st g o
       obtain⟨rfl,i5⟩:=i4
       have a3:=af.fz
       refine DU O O O Tv O (I6 a3 i5 dx) λoa i6 i7 i8 p=>?_
       obtain⟨ch,rfl,i9,d0⟩:=p
       have d1:Rd i6 i7 (BW.fnr prog (λS h vs (x:(List Int))=>∃w0:Value,vs=[w0]∧Sl S h AJ w0 x) (λS h v (y:((List Int)×(List Int)))=>∃w0 w1:Value,v= .tuple #[w0,w1]∧Sl S h AJ w0 y.1∧Sl S h AJ w1 y.2)) (.func (.func 89) #[] #[ch]) (λx=>A0 N ax x):=Ki 89 #[ch] Tt λS' h' s' e' L hs x y vs h1 h2=>by obtain⟨w0,rfl,a0⟩:=h1;exact NE (IK hs a0 (i9.mono'' s' e') h2)
       have bs:=Fz.done o i8 d0
       exact DV bs.1 (Rd.mono d1 bs.2)
      refine BP.cons O ?_ ?_
      ·intro mq hh o
       intro ob ja oc jb od jc jd bg
       have af:=SN.st g o
       obtain⟨rfl,je⟩:=ja
       obtain⟨rfl,jf⟩:=jb
       obtain⟨rfl,jg⟩:=jc
       have bg:Rd _ _ (BW.fnr prog (λS h vs (x:(List Int))=>∃w0:Value,vs=[w0]∧Sl S h AJ w0 x) (λS h v (y:((List Int)×(List Int)))=>∃w0 w1:Value,v= .tuple #[w0,w1]∧Sl S h AJ w0 y.1∧Sl S h AJ w1 y.2)) jd (λx=>A0 N ax x):=bg
       refine AF 1 ?_
       obtain⟨d2,d3,rfl,mf,mg⟩:=bg.fnr
       exact Ik (cs:=[vI c.D,vI c.K,vI t,(.func (.func d2) #[] d3)]) Ol O O O (AO (BJ.mk (x:=(⟨c.D,c.K,t,(λx=>A0 N ax x)⟩:AK)) je jf jg bg))
      refine BP.cons O ?_ ?_
      ·intro mq hh o
       intro jh bt
       have af:=SN.st g o
       have bt:Rd _ _ BJ jh (⟨c.D,c.K,t,(λx=>A0 N ax x)⟩:AK):=bt
       have a3:=af.fz
       obtain⟨ji,rfl,jj,jk,jl,jm⟩:=BJ.ex bt
       refine Em (cs:=[vI ((⟨c.D,c.K,t,(λx=>A0 N ax x)⟩:AK).to_),vI ((⟨c.D,c.K,t,(λx=>A0 N ax x)⟩:AK).delay),vI ((⟨c.D,c.K,t,(λx=>A0 N ax x)⟩:AK).way),ji]) Lj O O O O O O O a3 λoe og d4 ci=>?_
       have jn:=jm.mono ci
       have d5:=d4.bxos (r:=BJ) (l:=([(⟨c.D,c.K,t,(λx=>A0 N ax x)⟩:AK)]:List AK)) .head ⟨_,_,O,⟨_,O,jj,jk,jl,jn⟩,O⟩ (by simp [maxLen])
       obtain⟨oh,d6,jo,jp⟩:=d5.pubs .head
       have bu:=Fz.done o (ci.trans jo) d6
       exact DV bu.1 ⟨Sl.mono' jp bu.2,_,O⟩
      exact trivial
     intro oi cj oj jq ok bv
     have d7:=SN.st g cj
     cases jq
     obtain⟨bv,mi,rfl⟩:=bv
     obtain⟨d8,E⟩:=Mc E
     refine J3 (r:=BJ) (l:=l9) (xs:=([(⟨c.D,c.K,t,(λx=>A0 N ax x)⟩:AK)]:List AK)) O O Lj O (Sl.src bv) O d8 O d7 (λ_=>(.tail .head)) λjr ol d9 js=>AF 1 (AY O (AG (AZ (kp [5,14,13,0,1,15] O) (B5 (WF.nil (λaa ww hf hw=>?_))))))
     have ea:=d9.sel [1,1,1,1,1,1,1,1,1,1,1] 1 O
     exact⟨jr,(l9++([(⟨c.D,c.K,t,(λx=>A0 N ax x)⟩:AK)]:List AK)),_,_,hf.sub (kp [14,13,0,1,15,5] O),hw,ea,(bl.trans (a2.trans ((SN.ext g.1 cj).trans js))),E⟩
    refine AI (AD Id O (AS BY g O mh O A7 O (AA O (B9 O (AA O (AW 4 110 (.bool ((decide (c.D=ag))&&(decide (c.C=4)))) ?_ ?_))))))
    ·cases om:(decide (c.D=ag))
     ·exact A3 O O
     exact AB O (AD G5 O (AB O (AS BY g O mh O A7 O (AB O (B9 O (AL O (AV O)))))))
    refine AM O (kp [101,6,7,14,13,0,1,5,15] O) (AX O E (λjt E=>?_) (λjt E=>?_))
    ·obtain ⟨oo,eb,E⟩:=bd E
     obtain⟨ck,ec,E⟩:=bd E
     obtain⟨op,ed,E⟩:=bd E
     obtain⟨cl,ee,E⟩:=bd E
     obtain⟨cm,ef,E⟩:=bd E
     obtain⟨cn,eg,E⟩:=bd E
     obtain⟨ay,eh,E⟩:=bd E
     refine MV (m:=[(6,vI t),(7,vP az 0),(14,vI (↑p0_w.b.E.length:Int)),(13,ae),(0,vP j 0),(1,vI ag),(5,v8),(15,vI t)]) 27 (λi v hh=>match i with|0=>v=v8|1=>v=vP az 2|2=>v=vI c.I∧AH c.I|3=>v=vP az 17|4=>v=vI c.K∧AH c.K|5=>v=vI t∧AH t|6=>v= .agg #[.string c.F,vI c.C,vI c.I,vI c.D,a7,a8,a9,vI c.T,vI c.Z,vI c.Ao,vI c.Ap,vI c.S,vI c.L,vI c.Ah,vI c.Ai,vI c.Ac,vI c.Ab,vI c.K]∧c.F.size≤maxLen∧AH c.C∧AH c.I∧AH c.D∧AH c.T∧AH c.Z∧AH c.Ao∧AH c.Ap∧AH c.S∧AH c.L∧AH c.Ah∧AH c.Ai∧AH c.Ac∧AH c.Ab∧AH c.K|7=>v=vP j 0|8=>v=vP j 0|9=>v=vP j 24|10=>v=d|11=>v=vP az 2|12=>v=vI c.I∧AH c.I|13=>EP d (c.I.toNat*(AJ).sz+0) v|14=>v=vI ck∧AH ck|15=>v=vP j 0|16=>v=vP j 0|17=>v=vP j 24|18=>v=d|19=>v=vI ag∧AH ag|20=>EP d (ag.toNat*(AJ).sz+0) v|21=>v=vI cl∧AH cl|22=>v=vI cm∧AH cm|23=>v=vI cn∧AH cn|24=>Rd (SN a4 ba hh) hh (BW.fnr prog (λS h vs (x:(List Int))=>∃w0:Value,vs=[w0]∧Sl S h AJ w0 x) (λS h v (y:((List Int)×(List Int)))=>∃w0 w1:Value,v= .tuple #[w0,w1]∧Sl S h AJ w0 y.1∧Sl S h AJ w1 y.2)) v (λx=>A0 N ay x)|25=>Rd (SN a4 ba hh) hh BJ v (⟨c.I,c.K,t,(λx=>A0 N ay x)⟩:AK)|26=>Sl (SN a4 ba hh) hh BJ v ([(⟨c.I,c.K,t,(λx=>A0 N ay x)⟩:AK)]:List AK)∧∃ad,v= .slice (some ad) 1 1|_=>False) [[],[],[(1,112)],[],[(3,114)],[],[],[],[(7,118)],[(8,119)],[(9,120)],[],[(11,122)],[(10,121),(12,123)],[(13,124)],[],[(15,126)],[(16,127)],[(17,128)],[],[(18,129),(19,130)],[(20,131)],[(6,117),(14,125),(21,132)],[(22,133)],[(23,134)],[(2,113),(4,115),(5,116),(24,135)],[(25,136)]] [(0,111),(26,137)] mo (by kernel_rfl) [6,7,14,13,0,1,5,15] O (by kernel_rfl) (by kernel_rfl) (by kernel_rfl) (kp [6,7,14,13,0,1,5,15] O) (λi v h1 h2 o1 o2 u=>?_) ?_ ?_
     ·match i,u with
       |0,u|1,u|2,u|3,u|4,u|5,u|6,u|7,u|8,u|9,u|10,u|11,u|12,u|13,u|14,u|15,u|16,u|17,u|18,u|19,u|20,u|21,u|22,u|23,u=>exact u
       |24,u|25,u=>exact Rd.mono u (SN.mono g.1 o1 o2)
       |26,u=>exact⟨Sl.mono' u.1 (SN.mono g.1 o1 o2),u.2⟩
       |_+27,u=>exact u.elim
     ·refine BP.cons O (λ_ _ _=>AF 1 (AA O (AO O))) (BP.cons O (λ_ _ _=>AF 1 (AD Js O (AO O))) (BP.cons O (λ_ _ o _ ju=>by cases ju;exact AF 1 (AS BY (o.st g) O mh O A7 O (AO ⟨O,bm⟩))) (BP.cons O (λ_ _ _=>AF 1 (AD OP O (AO O))) (BP.cons O (λ_ _ o _ jv=>by cases jv;exact AF 1 (AS BY (o.st g) O mh O A7 O (AO ⟨O,bj⟩))) (BP.cons O (λ_ _ _=>AF 1 (AA O (AO ⟨O,b2⟩))) (BP.cons O (λ_ _ o=>AF 1 (EH (vs:=[.string c.F,vI c.C,vI c.I,vI c.D,a7,a8,a9,vI c.T,vI c.Z,vI c.Ao,vI c.Ap,vI c.S,vI c.L,vI c.Ah,vI c.Ai,vI c.Ac,vI c.Ab,vI c.K]) BY (o.st g) O mh O O IJ O O (AO ⟨O,c2,c3,bm,bi,c4,c5,c6,c7,c8,c9,da,db,dc,dd,bj⟩))) (BP.cons O (λ_ _ _=>AF 1 (AA O (AO O))) (BP.cons O (λ_ _ _ _ jw=>by cases jw;exact AF 1 (C7 O O (AO O))) (BP.cons O (λ_ _ _ _ jx=>by cases jx;exact AF 1 (AD KN O (AO O))) (BP.cons O (λ_ _ o _ jy=>by cases jy;exact AF 1 (AS BY (o.st g) O (mt (mt mh)) O CG O (AO O))) (BP.cons O (λ_ _ _=>AF 1 (AD Js O (AO O))) ?_)))))))))))
      refine BP.cons O (λ_ _ o _ jz=>by cases jz;exact AF 1 (AS BY (o.st g) O mh O A7 O (AO ⟨O,bm⟩))) (BP.cons O (λ_ _ o=>by intro oq j0 os j1;cases j0;obtain ⟨rfl,ot⟩:=j1;exact AF 1 (BU (o.st g) (mt (mt (mt (mt (mt (mt (mt (mt (mt (mt mh)))))))))) O O CA eb O λou ei=>AO ei)) ?_)
      refine BP.cons O ?_ ?_
      ·intro mq hh o
       intro ov j2
       have af:=o.st g
       refine AF 1 ?_
       have j3:=af.epAt (mt (mt (mt (mt (mt (mt (mt (mt (mt (mt mh)))))))))) ec GM.id j2
       exact A9 BY (λ_ x=>x) O j3 A7 O λj4=>AO ⟨O,j4⟩
      refine BP.cons O (λ_ _ _=>AF 1 (AA O (AO O))) (BP.cons O (λ_ _ _ _ j5=>by cases j5;exact AF 1 (C7 O O (AO O))) (BP.cons O (λ_ _ _ _ j6=>by cases j6;exact AF 1 (AD KN O (AO O))) (BP.cons O (λ_ _ o _ j7=>by cases j7;exact AF 1 (AS BY (o.st g) O (mt (mt mh)) O CG O (AO O))) (BP.cons O (λ_ _ _=>AF 1 (AA O (AO ⟨O,a6⟩))) (BP.cons O (λ_ _ o=>by intro ow j8 ox j9;cases j8;obtain ⟨rfl,oy⟩:=j9;exact AF 1 (BU (o.st g) (mt (mt (mt (mt (mt (mt (mt (mt (mt (mt mh)))))))))) O O CA ed O λoz ej=>AO ej)) ?_)))))
      refine BP.cons O ?_ ?_
      ·intro mq hh o
       intro o0 ka
       have af:=o.st g
       refine AF 1 ?_
       have kb:=af.epAt (mt (mt (mt (mt (mt (mt (mt (mt (mt (mt mh)))))))))) ee GM.id ka
       exact A9 BY (λ_ x=>x) O kb A7 O λkc=>AO ⟨O,kc⟩
      refine BP.cons O ?_ ?_
      ·intro mq hh o
       intro o3 kd o4 ke o5 kf
       have af:=SN.st g o
       obtain⟨rfl,kg,kh,ki,kj,kk,kl,km,kn,ko,kq,kr,ks,kt,ku,kv⟩:=kd
       obtain⟨rfl,kw⟩:=ke
       obtain⟨rfl,kx⟩:=kf
       refine CJ O O O aN O af (N9 (St.all _) (Ce.mk (x:=c) kg kh ki kj ((b5.mono' (a2.trans (SN.ext g.1 o))).mono (λb hb=>af.1 b hb) (λ_ _=>rfl)) ((b6.mono' (a2.trans (SN.ext g.1 o))).mono (λb hb=>af.1 b hb) (λ_ _=>rfl)) ((b7.mono' (a2.trans (SN.ext g.1 o))).mono (λb hb=>af.1 b hb) (λ_ _=>rfl)) kk kl km kn ko kq kr ks kt ku kv) kw kx ef) λo6 o7 o8 mj o9 co p=>?_
       obtain⟨rfl,ky,ml⟩:=p
       exact DV ⟨co.siz,λb hb=>co.same b hb⟩ ⟨O,ky⟩
      refine BP.cons O ?_ ?_
      ·intro mq hh o
       intro pa kz
       have af:=SN.st g o
       obtain⟨rfl,k0⟩:=kz
       refine CJ O O O Tw O af (JV (St.all _) (iq (n:=0) O) k0 eg) λpb pc pd mm pe cp p=>?_
       obtain⟨rfl,k1,mn⟩:=p
       exact DV ⟨cp.siz,λb hb=>cp.same b hb⟩ ⟨O,k1⟩
      refine BP.cons O ?_ ?_
      ·intro mq hh o
       intro pf k2
       have af:=SN.st g o
       obtain⟨rfl,k3⟩:=k2
       have a3:=af.fz
       refine DU O O O Tv O (I6 a3 k3 eh) λpg k4 k5 k6 p=>?_
       obtain⟨cq,rfl,k7,ek⟩:=p
       have el:Rd k4 k5 (BW.fnr prog (λS h vs (x:(List Int))=>∃w0:Value,vs=[w0]∧Sl S h AJ w0 x) (λS h v (y:((List Int)×(List Int)))=>∃w0 w1:Value,v= .tuple #[w0,w1]∧Sl S h AJ w0 y.1∧Sl S h AJ w1 y.2)) (.func (.func 89) #[] #[cq]) (λx=>A0 N ay x):=Ki 89 #[cq] Tt λS' h' s' e' L hs x y vs h1 h2=>by obtain⟨w0,rfl,a0⟩:=h1;exact NE (IK hs a0 (k7.mono'' s' e') h2)
       have bw:=Fz.done o k6 ek
       exact DV bw.1 (Rd.mono el bw.2)
      refine BP.cons O ?_ ?_
      ·intro mq hh o
       intro ph k8 pi k9 pj la lb bh
       have af:=SN.st g o
       obtain⟨rfl,lc⟩:=k8
       obtain⟨rfl,le⟩:=k9
       obtain⟨rfl,lf⟩:=la
       have bh:Rd _ _ (BW.fnr prog (λS h vs (x:(List Int))=>∃w0:Value,vs=[w0]∧Sl S h AJ w0 x) (λS h v (y:((List Int)×(List Int)))=>∃w0 w1:Value,v= .tuple #[w0,w1]∧Sl S h AJ w0 y.1∧Sl S h AJ w1 y.2)) lb (λx=>A0 N ay x):=bh
       refine AF 1 ?_
       obtain⟨em,en,rfl,mp,mr⟩:=bh.fnr
       exact Ik (cs:=[vI c.I,vI c.K,vI t,(.func (.func em) #[] en)]) Ol O O O (AO (BJ.mk (x:=(⟨c.I,c.K,t,(λx=>A0 N ay x)⟩:AK)) lc le lf bh))
      refine BP.cons O ?_ ?_
      ·intro mq hh o
       intro lg bx
       have af:=SN.st g o
       have bx:Rd _ _ BJ lg (⟨c.I,c.K,t,(λx=>A0 N ay x)⟩:AK):=bx
       have a3:=af.fz
       obtain⟨lh,rfl,li,lj,ll,lm⟩:=BJ.ex bx
       refine Em (cs:=[vI ((⟨c.I,c.K,t,(λx=>A0 N ay x)⟩:AK).to_),vI ((⟨c.I,c.K,t,(λx=>A0 N ay x)⟩:AK).delay),vI ((⟨c.I,c.K,t,(λx=>A0 N ay x)⟩:AK).way),lh]) Lj O O O O O O O a3 λpk pl eo cr=>?_
       have lo:=lm.mono cr
       have ep:=eo.bxos (r:=BJ) (l:=([(⟨c.I,c.K,t,(λx=>A0 N ay x)⟩:AK)]:List AK)) .head ⟨_,_,O,⟨_,O,li,lj,ll,lo⟩,O⟩ (by simp [maxLen])
       obtain⟨pm,eq,lp,lq⟩:=ep.pubs .head
       have bz:=Fz.done o (cr.trans lp) eq
       exact DV bz.1 ⟨Sl.mono' lq bz.2,_,O⟩
      exact trivial
     intro pn ct po lr pp b0
     have er:=SN.st g ct
     cases lr
     obtain⟨b0,ms,rfl⟩:=b0
     obtain⟨es,E⟩:=Mc E
     refine J3 (r:=BJ) (l:=l9) (xs:=([(⟨c.I,c.K,t,(λx=>A0 N ay x)⟩:AK)]:List AK)) O O Lj O (Sl.src b0) O es O er (λ_=>(.tail .head)) λls pq et lt=>AF 1 (AY O (AG (AZ (kp [5,14,13,0,1,15] O) (B5 (WF.nil (λaa ww hf hw=>?_))))))
     have eu:=et.sel [1,1,1,1,1,1,1,1,1,1,1] 1 O
     exact⟨ls,(l9++([(⟨c.I,c.K,t,(λx=>A0 N ay x)⟩:AK)]:List AK)),_,_,hf.sub (kp [14,13,0,1,15,5] O),hw,eu,(bl.trans (a2.trans ((SN.ext g.1 ct).trans lt))),E⟩
    refine AT (B5 (WF.nil (λaa ww hf hw=>?_)))
    have ev:=g.sel [1,1,1,1,1,1,1,1,1,1,1] 1 O
    exact⟨v8,l9,_,_,hf.sub (kp [14,13,0,1,15,5] O),hw,ev,(bl.trans a2),E⟩
   rintro aa ww ⟨b3,b4,pr,ps,hf,hw,ew,lu,E⟩
   refine A6 ?_ hf hw
   clear hf hw ww aa
   rw[Dq] at E
   refine CN (.inl O) (BB O (AA O (AN (kp [15,14,13,0,1,5] O) (WF.nil (λaa ww hf hw=>?_)))))
   exact⟨b3,b4,(B0 (t+1)),_,_,hf.sub (kp [14,13,0,1,5,15] O),hw,ew,(c1.trans lu),(B1 _),E⟩
  refine By O (λaa ww hf hw=>?_)
  exact⟨v8,l9,_,_,hf.sub (kp [5] O),hw,bk,c1,E⟩
 rintro aa ww ⟨v2,l3,pt,pu,hf,hw,ey,lv,E⟩
 refine A6 ?_ hf hw
 clear hf hw ww aa
 rw[DN] at E
 refine AI (AA O (AM O (kp [4] O) (A5 (λaa ww hf hw=>?_))))
 cases E
 exact Ee hf hw O O lv ey
end Go.Proofs.YtblcgjadhemlbaaGreat
