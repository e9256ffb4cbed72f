import Derived.Test.YtblcgjadhemlbaaGreatWWalk10
namespace Go.Proofs.YtblcgjadhemlbaaGreat
set_option linter.all false
open Go.RowKit
open Go.Proofs.Tryz
set_option maxRecDepth 10000
set_option maxHeartbeats 2000000
variable {N:Nat}{S:Nat→Prop}{L:List HP}{h:BM}
def RU (hs:St S L h) {g:Value}{d:(List Int)}(c:Sl S h AJ g d) {j:Int}(y:AH j) {r:(List Int)×(List Int)}(E:Ky N d j=some r):
 DK prog 90 #[g,vI j] S h (λv S' h'=>∃I J:Value,v= .tuple #[I,J]∧St S' (OS AJ 3 I r.1::OS AJ 3 J r.2::L) h'):=by
 refine B0 (l:=[g,vI j]) 39 func90 O ntmps90 O λB=>?_
 rw[Ky] at E
 refine AI (A0 O (AM O (kp [0,1] O) (WF.sl (AF 2 (AA O (BE O c CA O λb1=>AD ?_))))))
 obtain⟨al,E⟩:=LO E
 refine Jl (r:=AJ) (zx:=0) GM O ⟨O,by unfold AH;omega⟩ O O al O O hs λv3 h4 K M=>AF 1 (A0 O (AD (AZ (kp [4,0,1] O) (AE (AE (Cn (.inl O) K (AA O (CV O (AA O (AW 4 17 (.bool ((decide (0<j))&&(decide ((↑d.length:Int)≤64)))) ?_ ?_))))))))))
 ·cases c7:(decide (0<j))
  ·exact A4 O O
  exact AB O (AA O (AB O (BE O (c.mono' M) CA O λb9=>AB O (HX O (AL O (AV O))))))
 refine AA O ?_
 obtain⟨am,i,E⟩:=bd E
 refine AW 3 21 (.bool am) ?_ ?_
 ·cases Q:((decide (0<j))&&(decide ((↑d.length:Int)≤64)))
  ·have i:=Hj Q i
   cases i
   exact A4 O O
  have i:=Hi Q i
  refine AB O (AA O (AB O ?_))
  obtain⟨a2,U,i⟩:=bd i
  refine BU O O O dP O (λh' o=>NF (St.all h') ((c.mono' M).mono' (o.all K.1)) U) (AL O ?_)
  cases i
  exact AV O
 refine B9 (kp [21,4,0,1] O) λV u G=>He (λa w=>∃(H:List Int),IV B S V (39,[]) a w [(4,v3),(0,g)] (OS AJ 3 v3 H::L) λ_ _=>HI N d H=some r) ?_ ?_
 ·refine AY O E (λan E=>?_) (λan E=>?_)
  ·refine WF.sl (AF 2 (AA O (AA O (AD ?_))))
   obtain⟨a3,W,E⟩:=bd E
   refine CG O O O OC O u (F7 (St.all _) ((c.mono' (M.trans G)).mono (λb X=>u.1 b X) (λ_ _=>rfl)) W) λa4 a5 a6 x Y a7 p=>?_
   obtain⟨rfl,ao,az⟩:=p
   refine AF 2 (RB O O O (AA O (AD ?_)))
   obtain⟨Z,ab,E⟩:=bd E
   refine CG O O O gP O x (P3 (St.all _) (MM y ao) ((c.mono' (M.trans (G.trans Y))).mono (λb X=>x.1 b X) (λ_ _=>rfl)) ab) λa8 a9 ac a0 ap aq p=>?_
   obtain⟨ba,rfl,ad⟩:=p
   have s:=x.join aq ad ⟨OS.flat (λ{_ _ _ _ _ _} k=>k),trivial⟩
   simp only[rW,rQ] at s
   refine AF 5 (AA O (CX O (CX O (A0 O (A0 O (AD (AZ (kp [7,6,4,0] O) (AI (AA O (AN (kp [31,6,4,0] O) (He (λa w=>∃(z:List Int),IV B S ac (39,[]) a w [(4,v3),(0,g)] (OS AJ 3 v3 z::L) λ_ _=>JP N (HI N d) z=some r) ?_ ?_)))))))))))
   ·refine AY O E (λar E=>?_) (λar E=>?_)
    ·refine FG (AF 2 (AA O (AA O (AD (Td (r:=AJ) (l:=(List.replicate ((↑d.length:Int):Int).toNat (0:Int))) (xs:=Z.1) O O CA (St.src s mh) O s (.tail .head) λbb ae au=>AZ (kp [4,0] O) (WF.nil (λA C m n=>?_)))))))
     have af:=ae.sel [1] 1 O
     exact⟨(Ns (List.replicate ((↑d.length:Int):Int).toNat (0:Int)) Z.1),_,_,m.sub (kp [4,0] O),n,af,au,E⟩
    refine AS (WF.nil (λA C m n=>?_))
    have ag:=s.sel [1] 1 O
    exact⟨(List.replicate ((↑d.length:Int):Int).toNat (0:Int)),_,_,m.sub (kp [4,0] O),n,ag,(C9.refl S ac),E⟩
   rintro A C ⟨z,bc,be,m,n,ah,av,E⟩
   refine A6 ?_ m n
   clear m n C A
   rw[JP] at E
   refine WF.nil (λA C m n=>?_)
   exact⟨z,_,_,m.sub (kp [4,0] O),n,ah,(Y.trans (ap.trans av)),E⟩
  refine AS (WF.nil (λA C m n=>?_))
  exact⟨(List.replicate ((↑d.length:Int):Int).toNat (0:Int)),_,_,m.sub (kp [4,0] O),n,u,(C9.refl S V),E⟩
 rintro A C ⟨H,bf,bg,m,n,t,aw,E⟩
 refine A6 ?_ m n
 clear m n C A
 rw[HI] at E
 refine WF.sl (AF 3 (AA O (AA O (AA O (AD ?_)))))
 have D:=M.trans (G.trans aw)
 obtain⟨bh,ai,E⟩:=bd E
 refine CG O O O dL O t (MJ (St.all _) ((c.mono' D).mono (λb X=>t.1 b X) (λ_ _=>rfl)) (t.oslAll mh) ai) λbi bj bk a1 ax ay p=>?_
 have aj:=p
 have F:=t.join ay aj ⟨OS.flat (λ{_ _ _ _ _ _} k=>k),trivial⟩
 simp only[rW,rQ] at F
 refine AF 2 (A0 O (A0 O (AD (AZ (kp [5,4] O) (A5 (λA C m n=>?_))))))
 have ak:=F.sel [1,0] 0 O
 cases E
 exact K5 m O n (JD (Jm m (v:=_) O) (JD (Jm m (v:=_) O) K4)) O (D.trans ax) ⟨_,_,O,ak⟩
def Id (s:St S L h) {a:Value}{c:(List Int)}(d:Sl S h AJ a c) {g:Value}{c1_:Int}(j:Pt S h AJ g c1_) {r:(List Int)×(List Int)}(E:A3 N c1_ c=some r):
 DK prog 89 #[a,g] S h (λv S' h'=>∃m n:Value,v= .tuple #[m,n]∧St S' (OS AJ 3 m r.1::OS AJ 3 n r.2::L) h'):=by
 refine B0 (l:=[a,g]) 10 func89 O ntmps89 O λB=>?_
 rw[A3] at E
 refine AI (A0 O (AM O (kp [0,1] O) (WF.sl (AF 2 (AA O (BC Bu s.1 O j BA O λx=>AD ?_))))))
 obtain⟨D,t,E⟩:=bd E
 refine CG O O O mA O s (RU (St.all _) (d.mono (λb y=>s.1 b y) (λ_ _=>rfl)) x t) λF G H z A u p=>?_
 obtain⟨I,J,rfl,o⟩:=p
 have i:=s.join u o ⟨OS.flat (λ{_ _ _ _ _ _} k=>k),⟨OS.flat (λ{_ _ _ _ _ _} k=>k),trivial⟩⟩
 simp only[rW,rQ] at i
 refine AF 4 (CX O (CX O (A0 O (A0 O (AD (AZ (kp [4,3] O) (A5 (λK M w C=>?_))))))))
 cases E
 exact K5 w O C (JD (Jm w (v:=_) O) (JD (Jm w (v:=_) O) K4)) O A ⟨_,_,O,i⟩
def OA (u:St S L h) {c:Int}(i:AH c) {a:Int}(d:AH a) {b:Int}(g:AH b) {r:Int}(E:It N c a b=some r):
 DK prog 98 #[vI c,vI a,vI b] S h (λv S' h'=>v=vI r∧AH r∧St S' (L) h'):=by
 refine B0 (l:=[vI c,vI a,vI b]) 21 func98 O ntmps98 O λB=>?_
 rw[It] at E
 refine AI (AM O (kp [0,1,2] O) (AE (Cn (.inl O) u (AA O (AA O (AA O ?_))))))
 obtain⟨j,m,E⟩:=bd E
 refine I8 (v:= .tuple #[vI j.1,vI j.2.1,.bool j.2.2]) (Ψ:=AH j.1∧AH j.2.1) O O O Uj O (λh' o=>(I7 (St.all h') i d g m).mono λ_ _ _ _ p=>⟨p.1,⟨p.2.1,p.2.2.1⟩⟩) λw=>?_
 obtain⟨x,C⟩:=w
 refine AA O (CX O (CX O (CX O (A0 O (A0 O (A0 O (B9 (kp [9,7] O) λD k t=>AE (AI (AA O (CI O (AN (kp [19,7] O) (AY O E (λy E=>?_) (λy E=>?_)))))))))))))
 ·refine AI (AM O (kp [6] O) (A5 (λz A q s=>?_)))
  cases E
  exact Em q s O O t ⟨O,(iq (n:=0) O),k⟩
 refine AS (AI (AA O (AM O (kp [6] O) (A5 (λz A q s=>?_)))))
 cases E
 exact Em q s O O t ⟨O,x,k⟩
def Od (Q:St S L h) {b:Value}{k:BL}(j:Rd S h Ct b k) {a:Int}(d:AH a) {c:Int}(i:AH c) {r:Int}(E:IX N k a c=some r):
 DK prog 86 #[b,vI a,vI c] S h (λv S' h'=>v=vI r∧AH r∧St S' (L) h'):=by
 refine B0 (l:=[b,vI a,vI c]) 23 func86 O ntmps86 O λB=>?_
 rw[IX] at E
 refine WF.sl (C3 O j (λe=>by cases e) O Q λq1 S2 h3 g M m=>AF 1 (A0 O (AD (AZ (kp [3,1,2] O) (AE (AI (A8 O m BL.f_Kind HA O λq7 U=>BC Bu g.1 O U BA O λr9=>Cg O (AN (kp [9,3,1,2] O) (AY O E (λu E=>?_) (λu E=>?_))))))))))
 ·refine AI (AM O (kp [6] O) (A5 (λV W w x=>?_)))
  cases E
  exact Em w x O O M ⟨O,(iq (n:=0) O),g⟩
 refine AS (AE (Cn (.inr ⟨mo,by kernel_rfl⟩) g (AA O (A8 O m BL.f_Num JN O λX y=>BC CQ g.1 O y BA O λz=>A8 O m BL.f_Den KM O λY A=>BC CQ g.1 O A BA O λC=>?_))))
 obtain⟨Z,p,E⟩:=bd E
 refine DW O O O dK O (λh' o=>OA (St.all h') d z C p) λD=>?_
 have ab:=D
 refine AA O (A8 O m JB Lf O λac F=>BC CQ g.1 O F BA O λG=>A8 O m IL Kw O λad H=>BC CQ g.1 O H BA O λI=>?_)
 obtain⟨ae,s,E⟩:=bd E
 refine DW O O O dK O (λh' o=>OA (St.all h') i G I s) λJ=>?_
 have af:=J
 refine Dl O (A0 O (B9 (kp [6] O) λag t K=>A5 (λV W w x=>?_)))
 cases E
 exact Em w x O O (M.trans K) ⟨O,(B5 _),t⟩
def N1 {j:Nat}{p0_w:AX}{an:Value}{ao:Value}{ac:Value}{ap:Value}{aq:Value}{ar:Value}{au:Value}{av:Value}{ag:Value}{ah:Value}{ai:Value}{aj:Value}{ak:Value}{z:Value}{K:Value}{Q:Value}{k:Value}{W:Value}{Y:Value}{Z:Value}{d:Value}{ab:Value}(hs:St S (Bx j 84 [.string p0_w.b.H,an,vI p0_w.b.T,ao,ac,ap,aq,ar,au,av,vI p0_w.b.V,ag,ah,ai,aj,ak,vI p0_w.s.D,z,K,Q,k,W,Y,Z,d,ab]::OS (BZ.sl AJ) 29 z p0_w.s.F::OS AJ 3 K p0_w.s.O::OS BJ 60 Q p0_w.s.M::OS Bz 69 k p0_w.s.P::OS AJ 3 W p0_w.s.S::OS AJ 3 Y p0_w.s.U::OS CJ 50 Z p0_w.moves::OS AJ 3 d p0_w.peaks::OS BJ 60 ab p0_w.sent::L) h) (ey:p0_w.b.H.size≤maxLen) (ez:Sl S h BZ.str an p0_w.b.J) (e0:AH p0_w.b.T) (e1:Sl S h Cw ao p0_w.b.A) (a4:Sl S h Ct ac p0_w.b.E) (e2:Sl S h HL ap p0_w.b.Am) (e3:Sl S h Fc aq p0_w.b.Au) (e4:Sl S h HN ar p0_w.b.Av) (e5:Sl S h Dy au p0_w.b.Ay) (e6:Sl S h AJ av p0_w.b.Ax) (ct:AH p0_w.b.V) (cu:Sl S h AJ ag p0_w.in_.X) (cv:Sl S h Gc ah p0_w.in_.Ap) (cw:Sl S h JX ai p0_w.in_.At) (cx:Sl S h Gd aj p0_w.in_.Ad) (cy:Sl S h HM ak p0_w.in_.Ba) (cz:AH p0_w.s.D) {af:Int}(a5:AH af) {r:(List AK)}(E:HT N p0_w af=some r):
 DK prog 63 #[vP j 0,vI af] S h (λv S' h'=>St S' (OS BK 111 v r::Bx j 84 [.string p0_w.b.H,an,vI p0_w.b.T,ao,ac,ap,aq,ar,au,av,vI p0_w.b.V,ag,ah,ai,aj,ak,vI p0_w.s.D,z,K,Q,k,W,Y,Z,d,ab]::OS (BZ.sl AJ) 29 z p0_w.s.F::OS AJ 3 K p0_w.s.O::OS BJ 60 Q p0_w.s.M::OS Bz 69 k p0_w.s.P::OS AJ 3 W p0_w.s.S::OS AJ 3 Y p0_w.s.U::OS CJ 50 Z p0_w.moves::OS AJ 3 d p0_w.peaks::OS BJ 60 ab p0_w.sent::L) h'):=by
 refine B0 (l:=[vP j 0,vI af]) 141 func63 O ntmps63 O λB=>?_
 rw[HT] at E
 refine AI (AM O (kp [0,1] O) (AI (AM O (kp [5,0,1] O) (AE (AI (AA O (DN O O (AG HQ O (AG Hn O (AT Bu hs O mh O KF O (BE O a4 Ie O λb1=>AA O (AN (kp [15,14,13,5,0,1] O) (BH (λa w=>∃(v2:Value) (l3:List AK),IV B S h (141,[]) a w [(5,v2)] (OS BK 111 v2 l3::Bx j 84 [.string p0_w.b.H,an,vI p0_w.b.T,ao,ac,ap,aq,ar,au,av,vI p0_w.b.V,ag,ah,ai,aj,ak,vI p0_w.s.D,z,K,Q,k,W,Y,Z,d,ab]::OS (BZ.sl AJ) 29 z p0_w.s.F::OS AJ 3 K p0_w.s.O::OS BJ 60 Q p0_w.s.M::OS Bz 69 k p0_w.s.P::OS AJ 3 W p0_w.s.S::OS AJ 3 Y p0_w.s.U::OS CJ 50 Z p0_w.moves::OS AJ 3 d p0_w.peaks::OS BJ 60 ab p0_w.sent::L) λ_ _=>DJ N l3=some r) ?_ ?_)))))))))))))
 ·refine BV (λn1=>λa w=>∃(v8:Value) (l9:List AK) (t:Int),IV B S h (141,[]) a w [(14,vI (↑p0_w.b.E.length:Int)),(13,ac),(0,vP j 0),(1,vI af),(5,v8),(15,vI t)] (OS BK 111 v8 l9::Bx j 84 [.string p0_w.b.H,an,vI p0_w.b.T,ao,ac,ap,aq,ar,au,av,vI p0_w.b.V,ag,ah,ai,aj,ak,vI p0_w.s.D,z,K,Q,k,W,Y,Z,d,ab]::OS (BZ.sl AJ) 29 z p0_w.s.F::OS AJ 3 K p0_w.s.O::OS BJ 60 Q p0_w.s.M::OS Bz 69 k p0_w.s.P::OS AJ 3 W p0_w.s.S::OS AJ 3 Y p0_w.s.U::OS CJ 50 Z p0_w.moves::OS AJ 3 d p0_w.peaks::OS BJ 60 ab p0_w.sent::L) λ_ _=>AH t∧CB N p0_w af (DJ N) n1 l9 t=some r) N ?_ ?_ ?_
  ·intro aa ww hf hw
   have e7:=hs.nil BK 111
   exact⟨(vN),([]:List AK),0,_,_,hf.sub (kp [14,13,0,1,5,15] O),hw,e7,(C9.refl S h),(iq (n:=0) O),E⟩
  ·rintro aa ww ⟨_,_,_,_,_,_,_,_,_,_,E⟩
   rw[CB] at E;cases E
  rintro n1 aa ww ⟨v8,l9,t,a3,lw,hf,hw,bj,c0,b0,E⟩
  refine A6 ?_ hf hw
  clear hf hw ww aa
  rw[CB] at E
  refine AI (BI O (AN (kp [16,14,13,0,1,5,15] O) (AE (AY O E (λlx E=>?_) (λlx E=>?_)))))
  ·refine AS (AE (BH (λa w=>∃(b2:Value) (b3:List AK),IV B a3 lw (141,[]) a w [(14,vI (↑p0_w.b.E.length:Int)),(13,ac),(0,vP j 0),(1,vI af),(15,vI t),(5,b2)] (OS BK 111 b2 b3::Bx j 84 [.string p0_w.b.H,an,vI p0_w.b.T,ao,ac,ap,aq,ar,au,av,vI p0_w.b.V,ag,ah,ai,aj,ak,vI p0_w.s.D,z,K,Q,k,W,Y,Z,d,ab]::OS (BZ.sl AJ) 29 z p0_w.s.F::OS AJ 3 K p0_w.s.O::OS BJ 60 Q p0_w.s.M::OS Bz 69 k p0_w.s.P::OS AJ 3 W p0_w.s.S::OS AJ 3 Y p0_w.s.U::OS CJ 50 Z p0_w.moves::OS AJ 3 d p0_w.peaks::OS BJ 60 ab p0_w.sent::L) λ_ _=>Dg N t (CB N p0_w af (DJ N) n1) b3=some r) ?_ ?_))
   ·refine WF.sl (AF 3 (AA O ?_))
    obtain⟨c,e8,E⟩:=bd E
    refine B1 O O (a4.mono' c0) Ie e8 O λpw ly=>Cq Bu bj.1 O ly IM (λe=>by cases e) O λpx lz=>AD (Di OX O bj λay py e9 bk=>AF 1 (A0 O (AD ?_)))
    obtain⟨a6,a7,a8,rfl,c1,c2,bl,bh,b4,b5,b6,c3,c4,c5,c6,c7,c8,c9,da,db,dc,bi⟩:=Ct.ex (lz.mono bk)
    refine Ht (vs:=[.string c.H,vI c.B,vI c.G,vI c.C,a6,a7,a8,vI c.R,vI c.Ab,vI c.Aj,vI c.Al,vI c.L,vI c.I,vI c.Ah,vI c.Ai,vI c.Ac,vI c.Aa,vI c.N]) (cs':=[.string c.H,vI c.B,vI c.G,vI c.C,a6,a7,a8,vI c.R,vI c.Ab,vI c.Aj,vI c.Al,vI c.L,vI c.I,vI c.Ah,vI c.Ai,vI c.Ac,vI c.Aa,vI c.N]) O O O (AC O (AC O (AC O (AC O (AC b4.one (AC b5.one (AC b6.one (AC O (AC O (AC O (AC O (AC O (AC O (AC O (AC O (AC O (AC O (AC O Es)))))))))))))))))) IM O e9 .head O O λa9 g a1=>AZ (kp [6,7,14,13,0,1,5,15] O) (BY (AI (AG Jb O (AT Bu g O mh O BA O (AA O (B6 O (AA O (AW 4 29 (.bool ((decide (c.G=af))&&(decide (c.B≠4)))) ?_ ?_))))))))
    ·cases pz:(decide (c.G=af))
     ·exact A4 O O
     exact AB O (AG HA O (AB O (AT Bu g O mh O BA O (AB O (Cg O (AL O (AV O)))))))
    refine AM O (kp [20,6,7,14,13,0,1,5,15] O) (AY O E (λl0 E=>?_) (λl0 E=>?_))
    ·refine AI (AM O (kp [8,6,7,14,13,0,1,5,15] O) (AE (AI (AG Ia O (AT Bu g O mh O BA O (Cg O (AN (kp [32,8,6,7,14,13,0,1,5,15] O) (He (λa w=>∃(bb:Int),IV B a3 a9 (141,[]) a w [(6,vI t),(7,vP ay 0),(14,vI (↑p0_w.b.E.length:Int)),(13,ac),(0,vP j 0),(1,vI af),(5,v8),(15,vI t),(8,vI bb)] (Bx ay 67 [.string c.H,vI c.B,vI c.G,vI c.C,a6,a7,a8,vI c.R,vI c.Ab,vI c.Aj,vI c.Al,vI c.L,vI c.I,vI c.Ah,vI c.Ai,vI c.Ac,vI c.Aa,vI c.N]::OS BK 111 v8 l9::Bx j 84 [.string p0_w.b.H,an,vI p0_w.b.T,ao,ac,ap,aq,ar,au,av,vI p0_w.b.V,ag,ah,ai,aj,ak,vI p0_w.s.D,z,K,Q,k,W,Y,Z,d,ab]::OS (BZ.sl AJ) 29 z p0_w.s.F::OS AJ 3 K p0_w.s.O::OS BJ 60 Q p0_w.s.M::OS Bz 69 k p0_w.s.P::OS AJ 3 W p0_w.s.S::OS AJ 3 Y p0_w.s.U::OS CJ 50 Z p0_w.moves::OS AJ 3 d p0_w.peaks::OS BJ 60 ab p0_w.sent::L) λ_ _=>AH bb∧GS N p0_w af l9 t c (Dg N t (CB N p0_w af (DJ N) n1)) bb=some r) ?_ ?_))))))))
     ·refine AY O E (λl1 E=>?_) (λl1 E=>?_)
      ·refine CL (.inr ⟨mo,by kernel_rfl⟩) (AA O (DN O O (AG Kk O (AT Bu g O (mt (mt mh)) O CH O (AG Ia O (AT Bu g O mh O BA O ?_))))))
       obtain⟨p0,fa,E⟩:=bd E
       refine BX g (mt (mt (mt (mt (mt (mt (mt (mt (mt (mt mh)))))))))) O O CA fa O λp1 fb=>?_
       obtain⟨l2,fc,E⟩:=bd E
       have l4:=g.epAt (mt (mt (mt (mt (mt (mt (mt (mt (mt (mt mh)))))))))) fc GO.id fb
       refine BC Bu (λ_ x=>x) O l4 BA O λl5=>AM O (kp [8,6,7,14,13,0,1,5,15] O) (WF.nil (λaa ww hf hw=>?_))
       exact⟨l2,_,_,hf.sub (kp [6,7,14,13,0,1,5,15,8] O),hw,g,(C9.refl a3 a9),l5,E⟩
      refine AS (WF.nil (λaa ww hf hw=>?_))
      exact⟨0,_,_,hf.sub (kp [6,7,14,13,0,1,5,15,8] O),hw,g,(C9.refl a3 a9),(iq (n:=0) O),E⟩
     rintro aa ww ⟨bb,bm,b7,hf,hw,am,fd,l6,E⟩
     refine A6 ?_ hf hw
     clear hf hw ww aa
     rw[GS] at E
     obtain⟨p2,fe,E⟩:=bd E
     obtain⟨ff,fg,E⟩:=bd E
     obtain⟨p3,fh,E⟩:=bd E
     obtain⟨fi,fj,E⟩:=bd E
     obtain⟨fk,fl,E⟩:=bd E
     obtain⟨az,fm,E⟩:=bd E
     refine NX (m:=[(6,vI t),(7,vP ay 0),(14,vI (↑p0_w.b.E.length:Int)),(13,ac),(0,vP j 0),(1,vI af),(5,v8),(15,vI t),(8,vI bb)]) 27 (λi v hh=>match i with|0=>v=v8|1=>v=vP ay 3|2=>v=vI c.C∧AH c.C|3=>v=vP ay 17|4=>v=vI c.N∧AH c.N|5=>v=vI t∧AH t|6=>v= .agg #[.string c.H,vI c.B,vI c.G,vI c.C,a6,a7,a8,vI c.R,vI c.Ab,vI c.Aj,vI c.Al,vI c.L,vI c.I,vI c.Ah,vI c.Ai,vI c.Ac,vI c.Aa,vI c.N]∧c.H.size≤maxLen∧AH c.B∧AH c.G∧AH c.C∧AH c.R∧AH c.Ab∧AH c.Aj∧AH c.Al∧AH c.L∧AH c.I∧AH c.Ah∧AH c.Ai∧AH c.Ac∧AH c.Aa∧AH c.N|7=>v=vP j 0|8=>v=vP j 0|9=>v=vP j 16|10=>v=vP j 20|11=>v=k|12=>v=vI t∧AH t|13=>EP k (t.toNat*(Bz).sz+0) v|14=>Rd bm hh Bz v ff|15=>v=vP j 0|16=>v=vP j 0|17=>v=vP j 24|18=>v=d|19=>v=vI af∧AH af|20=>EP d (af.toNat*(AJ).sz+0) v|21=>v=vI fi∧AH fi|22=>v=vI bb∧AH bb|23=>v=vI fk∧AH fk|24=>Rd (SN bm b7 hh) hh (BZ.fnr prog (λS h vs (x:(List Int))=>∃w0:Value,vs=[w0]∧Sl S h AJ w0 x) (λS h v (y:((List Int)×(List Int)))=>∃w0 w1:Value,v= .tuple #[w0,w1]∧Sl S h AJ w0 y.1∧Sl S h AJ w1 y.2)) v (λx=>A3 N az x)|25=>Rd (SN bm b7 hh) hh BK v (⟨c.C,c.N,t,(λx=>A3 N az x)⟩:AK)|26=>Sl (SN bm b7 hh) hh BK v ([(⟨c.C,c.N,t,(λx=>A3 N az x)⟩:AK)]:List AK)∧∃ad,v= .slice (some ad) 1 1|_=>False) [[],[],[(1,42)],[],[(3,44)],[],[],[],[(7,48)],[(8,49)],[(9,50)],[(10,51)],[],[(11,52),(12,53)],[(13,54)],[],[(15,56)],[(16,57)],[(17,58)],[],[(18,59),(19,60)],[(20,61)],[],[(6,47),(14,55),(21,62),(22,63)],[(23,64)],[(2,43),(4,45),(5,46),(24,65)],[(25,66)]] [(0,41),(26,67)] mo (by kernel_rfl) [6,7,14,13,0,1,5,15,8] O (by kernel_rfl) (by kernel_rfl) (by kernel_rfl) (kp [6,7,14,13,0,1,5,15,8] O) (λi v h1 h2 o1 o2 u=>?_) ?_ ?_
     ·match i,u with
       |0,u|1,u|2,u|3,u|4,u|5,u|6,u|7,u|8,u|9,u|10,u|11,u|12,u|13,u|15,u|16,u|17,u|18,u|19,u|20,u|21,u|22,u|23,u=>exact u
       |14,u=>exact Rd.mono u (o2.ext λb hb=>qZ (am.1 b hb) o1.siz)
       |24,u|25,u=>exact Rd.mono u (SN.mono am.1 o1 o2)
       |26,u=>exact⟨Sl.mono' u.1 (SN.mono am.1 o1 o2),u.2⟩
       |_+27,u=>exact u.elim
     ·refine BQ.cons O (λ_ _ _=>AF 1 (AA O (AO O))) (BQ.cons O (λ_ _ _=>AF 1 (AG Ia O (AO O))) (BQ.cons O (λ_ _ o _ fn=>by cases fn;exact AF 1 (AT Bu (o.st am) O mh O BA O (AO ⟨O,bh⟩))) (BQ.cons O (λ_ _ _=>AF 1 (AG Ox O (AO O))) (BQ.cons O (λ_ _ o _ fo=>by cases fo;exact AF 1 (AT Bu (o.st am) O mh O BA O (AO ⟨O,bi⟩))) (BQ.cons O (λ_ _ _=>AF 1 (AA O (AO ⟨O,b0⟩))) (BQ.cons O (λ_ _ o=>AF 1 (ES (vs:=[.string c.H,vI c.B,vI c.G,vI c.C,a6,a7,a8,vI c.R,vI c.Ab,vI c.Aj,vI c.Al,vI c.L,vI c.I,vI c.Ah,vI c.Ai,vI c.Ac,vI c.Aa,vI c.N]) Bu (o.st am) O mh O O IM O O (AO ⟨O,c1,c2,bl,bh,c3,c4,c5,c6,c7,c8,c9,da,db,dc,bi⟩))) (BQ.cons O (λ_ _ _=>AF 1 (AA O (AO O))) (BQ.cons O (λ_ _ _ _ fp=>by cases fp;exact AF 1 (DN O O (AO O))) (BQ.cons O (λ_ _ _ _ fq=>by cases fq;exact AF 1 (AG DZ O (AO O))) (BQ.cons O (λ_ _ _ _ fr=>by cases fr;exact AF 1 (AG Iv O (AO O))) (BQ.cons O (λ_ _ o _ fs=>by cases fs;exact AF 1 (AT Bu (o.st am) O (mt (mt mh)) O LW O (AO O))) ?_)))))))))))
      refine BQ.cons O (λ_ _ _=>AF 1 (AA O (AO ⟨O,b0⟩))) (BQ.cons O (λ_ _ o=>by intro mu ft mv fu;cases ft;obtain ⟨rfl,mw⟩:=fu;exact AF 1 (BX (o.st am) (mt (mt (mt (mt (mt (mt mh)))))) O O LB fe O λmx dd=>AO dd)) ?_)
      refine BQ.cons O ?_ ?_
      ·intro mq hh o
       intro my fv
       have ae:=o.st am
       refine AF 1 ?_
       have fw:=ae.epAt (mt (mt (mt (mt (mt (mt mh)))))) fg GO.id fv
       exact Cq Bu (λ_ x=>x) O fw H1 (λe=>by cases e) O λmz fx=>AO fx
      refine BQ.cons O (λ_ _ _=>AF 1 (AA O (AO O))) (BQ.cons O (λ_ _ _ _ fy=>by cases fy;exact AF 1 (DN O O (AO O))) (BQ.cons O (λ_ _ _ _ f0=>by cases f0;exact AF 1 (AG Kk O (AO O))) (BQ.cons O (λ_ _ o _ f1=>by cases f1;exact AF 1 (AT Bu (o.st am) O (mt (mt mh)) O CH O (AO O))) (BQ.cons O (λ_ _ _=>AF 1 (AA O (AO ⟨O,a5⟩))) (BQ.cons O (λ_ _ o=>by intro m0 f2 m1 f3;cases f2;obtain ⟨rfl,m2⟩:=f3;exact AF 1 (BX (o.st am) (mt (mt (mt (mt (mt (mt (mt (mt (mt (mt mh)))))))))) O O CA fh O λm3 de=>AO de)) ?_)))))
      refine BQ.cons O ?_ ?_
      ·intro mq hh o
       intro m4 f4
       have ae:=o.st am
       refine AF 1 ?_
       have f5:=ae.epAt (mt (mt (mt (mt (mt (mt (mt (mt (mt (mt mh)))))))))) fj GO.id f4
       exact BC Bu (λ_ x=>x) O f5 BA O λf6=>AO ⟨O,f6⟩
      refine BQ.cons O (λ_ _ _=>AF 1 (AA O (AO ⟨O,l6⟩))) ?_
      refine BQ.cons O ?_ ?_
      ·intro mq hh o
       intro m5 f7 f8 ba m6 f9 m7 ga
       have ae:=SN.st am o
       obtain⟨rfl,gb,gc,gd,ge,gf,gg,gh,gi,gj,gl,gm,gn,gp,gq,gr⟩:=f7
       have ba:=Rd.mono (S':=(SN bm b7 hh)) ba ⟨λb hb=> .inl hb,λ_ _=>rfl,qX _⟩
       have ba:Rd _ _ Bz f8 ff:=ba
       obtain⟨rfl,gs⟩:=f9
       obtain⟨rfl,gu⟩:=ga
       have bc:=a1.trans (fd.trans (SN.ext am.1 o))
       refine CG O O O mC O ae (Sx (St.all _) (Ct.mk (x:=c) gb gc gd ge ((b4.mono' bc).mono (λb hb=>ae.1 b hb) (λ_ _=>rfl)) ((b5.mono' bc).mono (λb hb=>ae.1 b hb) (λ_ _=>rfl)) ((b6.mono' bc).mono (λb hb=>ae.1 b hb) (λ_ _=>rfl)) gf gg gh gi gj gl gm gn gp gq gr) (ba.mono ⟨λb hb=>ae.1 b hb,λ_ _=>rfl,qX _⟩) gs gu fl) λm8 m9 na l7 nb b8 p=>?_
       obtain⟨rfl,gv,l8⟩:=p
       exact Dt ⟨b8.siz,λb hb=>b8.same b hb⟩ ⟨O,gv⟩
      refine BQ.cons O ?_ ?_
      ·intro mq hh o
       intro nd gw
       have ae:=SN.st am o
       obtain⟨rfl,gx⟩:=gw
       have a2:=ae.fz
       refine Dj O O O Uk O (JM a2 gx fm) λne gy gz g0 p=>?_
       obtain⟨b9,rfl,g1,df⟩:=p
       have dg:Rd gy gz (BZ.fnr prog (λS h vs (x:(List Int))=>∃w0:Value,vs=[w0]∧Sl S h AJ w0 x) (λS h v (y:((List Int)×(List Int)))=>∃w0 w1:Value,v= .tuple #[w0,w1]∧Sl S h AJ w0 y.1∧Sl S h AJ w1 y.2)) (.func (.func 89) #[] #[b9]) (λx=>A3 N az x):=K2 89 #[b9] Ui λS' h' s' e' L hs x y vs h1 h2=>by obtain⟨w0,rfl,a0⟩:=h1;exact Ng (Id hs a0 (g1.mono'' s' e') h2)
       have bn:=Fz.done o g0 df
       exact Dt bn.1 (Rd.mono dg bn.2)
      refine BQ.cons O ?_ ?_
      ·intro mq hh o
       intro nf g2 ng g3 nh g4 g5 be
       have ae:=SN.st am o
       obtain⟨rfl,g6⟩:=g2
       obtain⟨rfl,g7⟩:=g3
       obtain⟨rfl,g8⟩:=g4
       have be:Rd _ _ (BZ.fnr prog (λS h vs (x:(List Int))=>∃w0:Value,vs=[w0]∧Sl S h AJ w0 x) (λS h v (y:((List Int)×(List Int)))=>∃w0 w1:Value,v= .tuple #[w0,w1]∧Sl S h AJ w0 y.1∧Sl S h AJ w1 y.2)) g5 (λx=>A3 N az x):=be
       refine AF 1 ?_
       obtain⟨dh,di,rfl,ma,mb⟩:=be.fnr
       exact Iz (cs:=[vI c.C,vI c.N,vI t,(.func (.func dh) #[] di)]) PJ O O O (AO (BK.mk (x:=(⟨c.C,c.N,t,(λx=>A3 N az x)⟩:AK)) g6 g7 g8 be))
      refine BQ.cons O ?_ ?_
      ·intro mq hh o
       intro g9 bo
       have ae:=SN.st am o
       have bo:Rd _ _ BK g9 (⟨c.C,c.N,t,(λx=>A3 N az x)⟩:AK):=bo
       have a2:=ae.fz
       obtain⟨ha,rfl,hc,hd,he,hg⟩:=BK.ex bo
       refine E3 (cs:=[vI ((⟨c.C,c.N,t,(λx=>A3 N az x)⟩:AK).to_),vI ((⟨c.C,c.N,t,(λx=>A3 N az x)⟩:AK).delay),vI ((⟨c.C,c.N,t,(λx=>A3 N az x)⟩:AK).way),ha]) L7 O O O O O O O a2 λni nj dj ca=>?_
       have hi:=hg.mono ca
       have dk:=dj.bxos (r:=BK) (l:=([(⟨c.C,c.N,t,(λx=>A3 N az x)⟩:AK)]:List AK)) .head ⟨_,_,O,⟨_,O,hc,hd,he,hi⟩,O⟩ (by simp [maxLen])
       obtain⟨nk,dl,hj,hk⟩:=dk.pubs .head
       have bp:=Fz.done o (ca.trans hj) dl
       exact Dt bp.1 ⟨Sl.mono' hk bp.2,_,O⟩
      exact trivial
     intro nl cb nm hl nn bq
     have dm:=SN.st am cb
     cases hl
     obtain⟨bq,mc,rfl⟩:=bq
     obtain⟨dn,E⟩:=LO E
     refine J3 (r:=BK) (l:=l9) (xs:=([(⟨c.C,c.N,t,(λx=>A3 N az x)⟩:AK)]:List AK)) O O L7 O (Sl.src bq) O dn O dm (λ_=>(.tail .head)) λhm no dp hn=>AF 1 (A0 O (AD (AZ (kp [5,14,13,0,1,15] O) (B7 (WF.nil (λaa ww hf hw=>?_))))))
     have dq:=dp.sel [1,1,1,1,1,1,1,1,1,1,1] 1 O
     exact⟨hm,(l9++([(⟨c.C,c.N,t,(λx=>A3 N az x)⟩:AK)]:List AK)),_,_,hf.sub (kp [14,13,0,1,15,5] O),hw,dq,(bk.trans (a1.trans (fd.trans ((SN.ext am.1 cb).trans hn)))),E⟩
    refine AI (AG Jb O (AT Bu g O mh O BA O (AA O (B6 O (AM O (kp [69,6,7,14,13,0,1,5,15] O) (AY O E (λho E=>?_) (λho E=>?_)))))))
    ·obtain ⟨np,dr,E⟩:=bd E
     obtain⟨cc,ds,E⟩:=bd E
     obtain⟨nq,dt,E⟩:=bd E
     obtain⟨cd,du,E⟩:=bd E
     obtain⟨ce,dv,E⟩:=bd E
     obtain⟨aw,dw,E⟩:=bd E
     refine NX (m:=[(6,vI t),(7,vP ay 0),(14,vI (↑p0_w.b.E.length:Int)),(13,ac),(0,vP j 0),(1,vI af),(5,v8),(15,vI t)]) 26 (λi v hh=>match i with|0=>v=v8|1=>v=vP ay 3|2=>v=vI c.C∧AH c.C|3=>v=vP ay 17|4=>v=vI c.N∧AH c.N|5=>v=vI t∧AH t|6=>v= .agg #[.string c.H,vI c.B,vI c.G,vI c.C,a6,a7,a8,vI c.R,vI c.Ab,vI c.Aj,vI c.Al,vI c.L,vI c.I,vI c.Ah,vI c.Ai,vI c.Ac,vI c.Aa,vI c.N]∧c.H.size≤maxLen∧AH c.B∧AH c.G∧AH c.C∧AH c.R∧AH c.Ab∧AH c.Aj∧AH c.Al∧AH c.L∧AH c.I∧AH c.Ah∧AH c.Ai∧AH c.Ac∧AH c.Aa∧AH c.N|7=>v=vP j 0|8=>v=vP j 0|9=>v=vP j 24|10=>v=d|11=>v=vI af∧AH af|12=>EP d (af.toNat*(AJ).sz+0) v|13=>v=vI cc∧AH cc|14=>v=vP j 0|15=>v=vP j 0|16=>v=vP j 24|17=>v=d|18=>v=vP ay 3|19=>v=vI c.C∧AH c.C|20=>EP d (c.C.toNat*(AJ).sz+0) v|21=>v=vI cd∧AH cd|22=>v=vI ce∧AH ce|23=>Rd (SN a3 a9 hh) hh (BZ.fnr prog (λS h vs (x:(List Int))=>∃w0:Value,vs=[w0]∧Sl S h AJ w0 x) (λS h v (y:((List Int)×(List Int)))=>∃w0 w1:Value,v= .tuple #[w0,w1]∧Sl S h AJ w0 y.1∧Sl S h AJ w1 y.2)) v (λx=>A3 N aw x)|24=>Rd (SN a3 a9 hh) hh BK v (⟨c.C,c.N,t,(λx=>A3 N aw x)⟩:AK)|25=>Sl (SN a3 a9 hh) hh BK v ([(⟨c.C,c.N,t,(λx=>A3 N aw x)⟩:AK)]:List AK)∧∃ad,v= .slice (some ad) 1 1|_=>False) [[],[],[(1,75)],[],[(3,77)],[],[],[],[(7,81)],[(8,82)],[(9,83)],[],[(10,84),(11,85)],[(12,86)],[],[(14,88)],[(15,89)],[(16,90)],[],[(18,92)],[(17,91),(19,93)],[(20,94)],[(6,80),(13,87),(21,95)],[(22,96)],[(2,76),(4,78),(5,79),(23,97)],[(24,98)]] [(0,74),(25,99)] mo (by kernel_rfl) [6,7,14,13,0,1,5,15] O (by kernel_rfl) (by kernel_rfl) (by kernel_rfl) (kp [6,7,14,13,0,1,5,15] O) (λi v h1 h2 o1 o2 u=>?_) ?_ ?_
     ·match i,u with
       |0,u|1,u|2,u|3,u|4,u|5,u|6,u|7,u|8,u|9,u|10,u|11,u|12,u|13,u|14,u|15,u|16,u|17,u|18,u|19,u|20,u|21,u|22,u=>exact u
       |23,u|24,u=>exact Rd.mono u (SN.mono g.1 o1 o2)
       |25,u=>exact⟨Sl.mono' u.1 (SN.mono g.1 o1 o2),u.2⟩
       |_+26,u=>exact u.elim
     ·refine BQ.cons O (λ_ _ _=>AF 1 (AA O (AO O))) (BQ.cons O (λ_ _ _=>AF 1 (AG Ia O (AO O))) (BQ.cons O (λ_ _ o _ hp=>by cases hp;exact AF 1 (AT Bu (o.st g) O mh O BA O (AO ⟨O,bh⟩))) (BQ.cons O (λ_ _ _=>AF 1 (AG Ox O (AO O))) (BQ.cons O (λ_ _ o _ hq=>by cases hq;exact AF 1 (AT Bu (o.st g) O mh O BA O (AO ⟨O,bi⟩))) (BQ.cons O (λ_ _ _=>AF 1 (AA O (AO ⟨O,b0⟩))) (BQ.cons O (λ_ _ o=>AF 1 (ES (vs:=[.string c.H,vI c.B,vI c.G,vI c.C,a6,a7,a8,vI c.R,vI c.Ab,vI c.Aj,vI c.Al,vI c.L,vI c.I,vI c.Ah,vI c.Ai,vI c.Ac,vI c.Aa,vI c.N]) Bu (o.st g) O mh O O IM O O (AO ⟨O,c1,c2,bl,bh,c3,c4,c5,c6,c7,c8,c9,da,db,dc,bi⟩))) (BQ.cons O (λ_ _ _=>AF 1 (AA O (AO O))) (BQ.cons O (λ_ _ _ _ ht=>by cases ht;exact AF 1 (DN O O (AO O))) (BQ.cons O (λ_ _ _ _ hu=>by cases hu;exact AF 1 (AG Kk O (AO O))) (BQ.cons O (λ_ _ o _ hv=>by cases hv;exact AF 1 (AT Bu (o.st g) O (mt (mt mh)) O CH O (AO O))) (BQ.cons O (λ_ _ _=>AF 1 (AA O (AO ⟨O,a5⟩))) ?_)))))))))))
      refine BQ.cons O (λ_ _ o=>by intro nr hx ns hy;cases hx;obtain ⟨rfl,nt⟩:=hy;exact AF 1 (BX (o.st g) (mt (mt (mt (mt (mt (mt (mt (mt (mt (mt mh)))))))))) O O CA dr O λnu dx=>AO dx)) ?_
      refine BQ.cons O ?_ ?_
      ·intro mq hh o
       intro nv hz
       have ae:=o.st g
       refine AF 1 ?_
       have h0:=ae.epAt (mt (mt (mt (mt (mt (mt (mt (mt (mt (mt mh)))))))))) ds GO.id hz
       exact BC Bu (λ_ x=>x) O h0 BA O λh3=>AO ⟨O,h3⟩
      refine BQ.cons O (λ_ _ _=>AF 1 (AA O (AO O))) (BQ.cons O (λ_ _ _ _ h4=>by cases h4;exact AF 1 (DN O O (AO O))) (BQ.cons O (λ_ _ _ _ h5=>by cases h5;exact AF 1 (AG Kk O (AO O))) (BQ.cons O (λ_ _ o _ h6=>by cases h6;exact AF 1 (AT Bu (o.st g) O (mt (mt mh)) O CH O (AO O))) (BQ.cons O (λ_ _ _=>AF 1 (AG Ia O (AO O))) (BQ.cons O (λ_ _ o _ h7=>by cases h7;exact AF 1 (AT Bu (o.st g) O mh O BA O (AO ⟨O,bh⟩))) (BQ.cons O (λ_ _ o=>by intro nw h8 nx h9;cases h8;obtain ⟨rfl,ny⟩:=h9;exact AF 1 (BX (o.st g) (mt (mt (mt (mt (mt (mt (mt (mt (mt (mt mh)))))))))) O O CA dt O λnz dy=>AO dy)) ?_))))))
      refine BQ.cons O ?_ ?_
      ·intro mq hh o
       intro n0 ia
       have ae:=o.st g
       refine AF 1 ?_
       have ib:=ae.epAt (mt (mt (mt (mt (mt (mt (mt (mt (mt (mt mh)))))))))) du GO.id ia
       exact BC Bu (λ_ x=>x) O ib BA O λic=>AO ⟨O,ic⟩
      refine BQ.cons O ?_ ?_
      ·intro mq hh o
       intro n2 ie n3 ig n4 ih
       have ae:=SN.st g o
       obtain⟨rfl,ii,ij,ik,il,im,io,ip,ir,it,iu,iv,iw,iy,iz,i0⟩:=ie
       obtain⟨rfl,i1⟩:=ig
       obtain⟨rfl,i2⟩:=ih
       refine CG O O O dQ O ae (Od (St.all _) (Ct.mk (x:=c) ii ij ik il ((b4.mono' (a1.trans (SN.ext g.1 o))).mono (λb hb=>ae.1 b hb) (λ_ _=>rfl)) ((b5.mono' (a1.trans (SN.ext g.1 o))).mono (λb hb=>ae.1 b hb) (λ_ _=>rfl)) ((b6.mono' (a1.trans (SN.ext g.1 o))).mono (λb hb=>ae.1 b hb) (λ_ _=>rfl)) im io ip ir it iu iv iw iy iz i0) i1 i2 dv) λn5 n6 n7 md n8 cf p=>?_
       obtain⟨rfl,i3,me⟩:=p
       exact Dt ⟨cf.siz,λb hb=>cf.same b hb⟩ ⟨O,i3⟩
      refine BQ.cons O ?_ ?_
      ·intro mq hh o
       intro n9 i4
       have ae:=SN.st g o
       obtain⟨rfl,i5⟩:=i4
       have a2:=ae.fz
       refine Dj O O O Uk O (JM a2 i5 dw) λoa i6 i7 i8 p=>?_
       obtain⟨cg,rfl,i9,dz⟩:=p
       have d0:Rd i6 i7 (BZ.fnr prog (λS h vs (x:(List Int))=>∃w0:Value,vs=[w0]∧Sl S h AJ w0 x) (λS h v (y:((List Int)×(List Int)))=>∃w0 w1:Value,v= .tuple #[w0,w1]∧Sl S h AJ w0 y.1∧Sl S h AJ w1 y.2)) (.func (.func 89) #[] #[cg]) (λx=>A3 N aw x):=K2 89 #[cg] Ui λS' h' s' e' L hs x y vs h1 h2=>by obtain⟨w0,rfl,a0⟩:=h1;exact Ng (Id hs a0 (i9.mono'' s' e') h2)
       have br:=Fz.done o i8 dz
       exact Dt br.1 (Rd.mono d0 br.2)
      refine BQ.cons O ?_ ?_
      ·intro mq hh o
       intro ob ja oc jb od jc jd bf
       have ae:=SN.st g o
       obtain⟨rfl,je⟩:=ja
       obtain⟨rfl,jf⟩:=jb
       obtain⟨rfl,jg⟩:=jc
       have bf:Rd _ _ (BZ.fnr prog (λS h vs (x:(List Int))=>∃w0:Value,vs=[w0]∧Sl S h AJ w0 x) (λS h v (y:((List Int)×(List Int)))=>∃w0 w1:Value,v= .tuple #[w0,w1]∧Sl S h AJ w0 y.1∧Sl S h AJ w1 y.2)) jd (λx=>A3 N aw x):=bf
       refine AF 1 ?_
       obtain⟨d1,d2,rfl,mf,mg⟩:=bf.fnr
       exact Iz (cs:=[vI c.C,vI c.N,vI t,(.func (.func d1) #[] d2)]) PJ O O O (AO (BK.mk (x:=(⟨c.C,c.N,t,(λx=>A3 N aw x)⟩:AK)) je jf jg bf))
      refine BQ.cons O ?_ ?_
      ·intro mq hh o
       intro jh bs
       have ae:=SN.st g o
       have bs:Rd _ _ BK jh (⟨c.C,c.N,t,(λx=>A3 N aw x)⟩:AK):=bs
       have a2:=ae.fz
       obtain⟨ji,rfl,jj,jk,jl,jm⟩:=BK.ex bs
       refine E3 (cs:=[vI ((⟨c.C,c.N,t,(λx=>A3 N aw x)⟩:AK).to_),vI ((⟨c.C,c.N,t,(λx=>A3 N aw x)⟩:AK).delay),vI ((⟨c.C,c.N,t,(λx=>A3 N aw x)⟩:AK).way),ji]) L7 O O O O O O O a2 λoe og d3 ch=>?_
       have jn:=jm.mono ch
       have d4:=d3.bxos (r:=BK) (l:=([(⟨c.C,c.N,t,(λx=>A3 N aw x)⟩:AK)]:List AK)) .head ⟨_,_,O,⟨_,O,jj,jk,jl,jn⟩,O⟩ (by simp [maxLen])
       obtain⟨oh,d5,jo,jp⟩:=d4.pubs .head
       have bt:=Fz.done o (ch.trans jo) d5
       exact Dt bt.1 ⟨Sl.mono' jp bt.2,_,O⟩
      exact trivial
     intro oi ci oj jq ok bu
     have d6:=SN.st g ci
     cases jq
     obtain⟨bu,mi,rfl⟩:=bu
     obtain⟨d7,E⟩:=LO E
     refine J3 (r:=BK) (l:=l9) (xs:=([(⟨c.C,c.N,t,(λx=>A3 N aw x)⟩:AK)]:List AK)) O O L7 O (Sl.src bu) O d7 O d6 (λ_=>(.tail .head)) λjr ol d8 js=>AF 1 (A0 O (AD (AZ (kp [5,14,13,0,1,15] O) (B7 (WF.nil (λaa ww hf hw=>?_))))))
     have d9:=d8.sel [1,1,1,1,1,1,1,1,1,1,1] 1 O
     exact⟨jr,(l9++([(⟨c.C,c.N,t,(λx=>A3 N aw x)⟩:AK)]:List AK)),_,_,hf.sub (kp [14,13,0,1,15,5] O),hw,d9,(bk.trans (a1.trans ((SN.ext g.1 ci).trans js))),E⟩
    refine AI (AG Ia O (AT Bu g O mh O BA O (AA O (B6 O (AA O (AW 4 110 (.bool ((decide (c.C=af))&&(decide (c.B=4)))) ?_ ?_))))))
    ·cases om:(decide (c.C=af))
     ·exact A4 O O
     exact AB O (AG HA O (AB O (AT Bu g O mh O BA O (AB O (B6 O (AL O (AV O)))))))
    refine AM O (kp [101,6,7,14,13,0,1,5,15] O) (AY O E (λjt E=>?_) (λjt E=>?_))
    ·obtain ⟨oo,ea,E⟩:=bd E
     obtain⟨cj,eb,E⟩:=bd E
     obtain⟨op,ec,E⟩:=bd E
     obtain⟨ck,ed,E⟩:=bd E
     obtain⟨cl,ee,E⟩:=bd E
     obtain⟨cm,ef,E⟩:=bd E
     obtain⟨ax,eg,E⟩:=bd E
     refine NX (m:=[(6,vI t),(7,vP ay 0),(14,vI (↑p0_w.b.E.length:Int)),(13,ac),(0,vP j 0),(1,vI af),(5,v8),(15,vI t)]) 27 (λi v hh=>match i with|0=>v=v8|1=>v=vP ay 2|2=>v=vI c.G∧AH c.G|3=>v=vP ay 17|4=>v=vI c.N∧AH c.N|5=>v=vI t∧AH t|6=>v= .agg #[.string c.H,vI c.B,vI c.G,vI c.C,a6,a7,a8,vI c.R,vI c.Ab,vI c.Aj,vI c.Al,vI c.L,vI c.I,vI c.Ah,vI c.Ai,vI c.Ac,vI c.Aa,vI c.N]∧c.H.size≤maxLen∧AH c.B∧AH c.G∧AH c.C∧AH c.R∧AH c.Ab∧AH c.Aj∧AH c.Al∧AH c.L∧AH c.I∧AH c.Ah∧AH c.Ai∧AH c.Ac∧AH c.Aa∧AH c.N|7=>v=vP j 0|8=>v=vP j 0|9=>v=vP j 24|10=>v=d|11=>v=vP ay 2|12=>v=vI c.G∧AH c.G|13=>EP d (c.G.toNat*(AJ).sz+0) v|14=>v=vI cj∧AH cj|15=>v=vP j 0|16=>v=vP j 0|17=>v=vP j 24|18=>v=d|19=>v=vI af∧AH af|20=>EP d (af.toNat*(AJ).sz+0) v|21=>v=vI ck∧AH ck|22=>v=vI cl∧AH cl|23=>v=vI cm∧AH cm|24=>Rd (SN a3 a9 hh) hh (BZ.fnr prog (λS h vs (x:(List Int))=>∃w0:Value,vs=[w0]∧Sl S h AJ w0 x) (λS h v (y:((List Int)×(List Int)))=>∃w0 w1:Value,v= .tuple #[w0,w1]∧Sl S h AJ w0 y.1∧Sl S h AJ w1 y.2)) v (λx=>A3 N ax x)|25=>Rd (SN a3 a9 hh) hh BK v (⟨c.G,c.N,t,(λx=>A3 N ax x)⟩:AK)|26=>Sl (SN a3 a9 hh) hh BK v ([(⟨c.G,c.N,t,(λx=>A3 N ax x)⟩:AK)]:List AK)∧∃ad,v= .slice (some ad) 1 1|_=>False) [[],[],[(1,112)],[],[(3,114)],[],[],[],[(7,118)],[(8,119)],[(9,120)],[],[(11,122)],[(10,121),(12,123)],[(13,124)],[],[(15,126)],[(16,127)],[(17,128)],[],[(18,129),(19,130)],[(20,131)],[(6,117),(14,125),(21,132)],[(22,133)],[(23,134)],[(2,113),(4,115),(5,116),(24,135)],[(25,136)]] [(0,111),(26,137)] mo (by kernel_rfl) [6,7,14,13,0,1,5,15] O (by kernel_rfl) (by kernel_rfl) (by kernel_rfl) (kp [6,7,14,13,0,1,5,15] O) (λi v h1 h2 o1 o2 u=>?_) ?_ ?_
     ·match i,u with
       |0,u|1,u|2,u|3,u|4,u|5,u|6,u|7,u|8,u|9,u|10,u|11,u|12,u|13,u|14,u|15,u|16,u|17,u|18,u|19,u|20,u|21,u|22,u|23,u=>exact u
       |24,u|25,u=>exact Rd.mono u (SN.mono g.1 o1 o2)
       |26,u=>exact⟨Sl.mono' u.1 (SN.mono g.1 o1 o2),u.2⟩
       |_+27,u=>exact u.elim
     ·refine BQ.cons O (λ_ _ _=>AF 1 (AA O (AO O))) (BQ.cons O (λ_ _ _=>AF 1 (AG Jb O (AO O))) (BQ.cons O (λ_ _ o _ ju=>by cases ju;exact AF 1 (AT Bu (o.st g) O mh O BA O (AO ⟨O,bl⟩))) (BQ.cons O (λ_ _ _=>AF 1 (AG Ox O (AO O))) (BQ.cons O (λ_ _ o _ jv=>by cases jv;exact AF 1 (AT Bu (o.st g) O mh O BA O (AO ⟨O,bi⟩))) (BQ.cons O (λ_ _ _=>AF 1 (AA O (AO ⟨O,b0⟩))) (BQ.cons O (λ_ _ o=>AF 1 (ES (vs:=[.string c.H,vI c.B,vI c.G,vI c.C,a6,a7,a8,vI c.R,vI c.Ab,vI c.Aj,vI c.Al,vI c.L,vI c.I,vI c.Ah,vI c.Ai,vI c.Ac,vI c.Aa,vI c.N]) Bu (o.st g) O mh O O IM O O (AO ⟨O,c1,c2,bl,bh,c3,c4,c5,c6,c7,c8,c9,da,db,dc,bi⟩))) (BQ.cons O (λ_ _ _=>AF 1 (AA O (AO O))) (BQ.cons O (λ_ _ _ _ jw=>by cases jw;exact AF 1 (DN O O (AO O))) (BQ.cons O (λ_ _ _ _ jx=>by cases jx;exact AF 1 (AG Kk O (AO O))) (BQ.cons O (λ_ _ o _ jy=>by cases jy;exact AF 1 (AT Bu (o.st g) O (mt (mt mh)) O CH O (AO O))) (BQ.cons O (λ_ _ _=>AF 1 (AG Jb O (AO O))) ?_)))))))))))
      refine BQ.cons O (λ_ _ o _ jz=>by cases jz;exact AF 1 (AT Bu (o.st g) O mh O BA O (AO ⟨O,bl⟩))) (BQ.cons O (λ_ _ o=>by intro oq j0 os j1;cases j0;obtain ⟨rfl,ot⟩:=j1;exact AF 1 (BX (o.st g) (mt (mt (mt (mt (mt (mt (mt (mt (mt (mt mh)))))))))) O O CA ea O λou eh=>AO eh)) ?_)
      refine BQ.cons O ?_ ?_
      ·intro mq hh o
       intro ov j2
       have ae:=o.st g
       refine AF 1 ?_
       have j3:=ae.epAt (mt (mt (mt (mt (mt (mt (mt (mt (mt (mt mh)))))))))) eb GO.id j2
       exact BC Bu (λ_ x=>x) O j3 BA O λj4=>AO ⟨O,j4⟩
      refine BQ.cons O (λ_ _ _=>AF 1 (AA O (AO O))) (BQ.cons O (λ_ _ _ _ j5=>by cases j5;exact AF 1 (DN O O (AO O))) (BQ.cons O (λ_ _ _ _ j6=>by cases j6;exact AF 1 (AG Kk O (AO O))) (BQ.cons O (λ_ _ o _ j7=>by cases j7;exact AF 1 (AT Bu (o.st g) O (mt (mt mh)) O CH O (AO O))) (BQ.cons O (λ_ _ _=>AF 1 (AA O (AO ⟨O,a5⟩))) (BQ.cons O (λ_ _ o=>by intro ow j8 ox j9;cases j8;obtain ⟨rfl,oy⟩:=j9;exact AF 1 (BX (o.st g) (mt (mt (mt (mt (mt (mt (mt (mt (mt (mt mh)))))))))) O O CA ec O λoz ei=>AO ei)) ?_)))))
      refine BQ.cons O ?_ ?_
      ·intro mq hh o
       intro o0 ka
       have ae:=o.st g
       refine AF 1 ?_
       have kb:=ae.epAt (mt (mt (mt (mt (mt (mt (mt (mt (mt (mt mh)))))))))) ed GO.id ka
       exact BC Bu (λ_ x=>x) O kb BA O λkc=>AO ⟨O,kc⟩
      refine BQ.cons O ?_ ?_
      ·intro mq hh o
       intro o3 kd o4 ke o5 kf
       have ae:=SN.st g o
       obtain⟨rfl,kg,kh,ki,kj,kk,kl,km,kn,ko,kq,kr,ks,kt,ku,kv⟩:=kd
       obtain⟨rfl,kw⟩:=ke
       obtain⟨rfl,kx⟩:=kf
       refine CG O O O dQ O ae (Od (St.all _) (Ct.mk (x:=c) kg kh ki kj ((b4.mono' (a1.trans (SN.ext g.1 o))).mono (λb hb=>ae.1 b hb) (λ_ _=>rfl)) ((b5.mono' (a1.trans (SN.ext g.1 o))).mono (λb hb=>ae.1 b hb) (λ_ _=>rfl)) ((b6.mono' (a1.trans (SN.ext g.1 o))).mono (λb hb=>ae.1 b hb) (λ_ _=>rfl)) kk kl km kn ko kq kr ks kt ku kv) kw kx ee) λo6 o7 o8 mj o9 cn p=>?_
       obtain⟨rfl,ky,ml⟩:=p
       exact Dt ⟨cn.siz,λb hb=>cn.same b hb⟩ ⟨O,ky⟩
      refine BQ.cons O ?_ ?_
      ·intro mq hh o
       intro pa kz
       have ae:=SN.st g o
       obtain⟨rfl,k0⟩:=kz
       refine CG O O O Ul O ae (Jt (St.all _) (iq (n:=0) O) k0 ef) λpb pc pd mm pe co p=>?_
       obtain⟨rfl,k1,mn⟩:=p
       exact Dt ⟨co.siz,λb hb=>co.same b hb⟩ ⟨O,k1⟩
      refine BQ.cons O ?_ ?_
      ·intro mq hh o
       intro pf k2
       have ae:=SN.st g o
       obtain⟨rfl,k3⟩:=k2
       have a2:=ae.fz
       refine Dj O O O Uk O (JM a2 k3 eg) λpg k4 k5 k6 p=>?_
       obtain⟨cp,rfl,k7,ej⟩:=p
       have ek:Rd k4 k5 (BZ.fnr prog (λS h vs (x:(List Int))=>∃w0:Value,vs=[w0]∧Sl S h AJ w0 x) (λS h v (y:((List Int)×(List Int)))=>∃w0 w1:Value,v= .tuple #[w0,w1]∧Sl S h AJ w0 y.1∧Sl S h AJ w1 y.2)) (.func (.func 89) #[] #[cp]) (λx=>A3 N ax x):=K2 89 #[cp] Ui λS' h' s' e' L hs x y vs h1 h2=>by obtain⟨w0,rfl,a0⟩:=h1;exact Ng (Id hs a0 (k7.mono'' s' e') h2)
       have bv:=Fz.done o k6 ej
       exact Dt bv.1 (Rd.mono ek bv.2)
      refine BQ.cons O ?_ ?_
      ·intro mq hh o
       intro ph k8 pi k9 pj la lb bg
       have ae:=SN.st g o
       obtain⟨rfl,lc⟩:=k8
       obtain⟨rfl,le⟩:=k9
       obtain⟨rfl,lf⟩:=la
       have bg:Rd _ _ (BZ.fnr prog (λS h vs (x:(List Int))=>∃w0:Value,vs=[w0]∧Sl S h AJ w0 x) (λS h v (y:((List Int)×(List Int)))=>∃w0 w1:Value,v= .tuple #[w0,w1]∧Sl S h AJ w0 y.1∧Sl S h AJ w1 y.2)) lb (λx=>A3 N ax x):=bg
       refine AF 1 ?_
       obtain⟨el,em,rfl,mp,mr⟩:=bg.fnr
       exact Iz (cs:=[vI c.G,vI c.N,vI t,(.func (.func el) #[] em)]) PJ O O O (AO (BK.mk (x:=(⟨c.G,c.N,t,(λx=>A3 N ax x)⟩:AK)) lc le lf bg))
      refine BQ.cons O ?_ ?_
      ·intro mq hh o
       intro lg bw
       have ae:=SN.st g o
       have bw:Rd _ _ BK lg (⟨c.G,c.N,t,(λx=>A3 N ax x)⟩:AK):=bw
       have a2:=ae.fz
       obtain⟨lh,rfl,li,lj,ll,lm⟩:=BK.ex bw
       refine E3 (cs:=[vI ((⟨c.G,c.N,t,(λx=>A3 N ax x)⟩:AK).to_),vI ((⟨c.G,c.N,t,(λx=>A3 N ax x)⟩:AK).delay),vI ((⟨c.G,c.N,t,(λx=>A3 N ax x)⟩:AK).way),lh]) L7 O O O O O O O a2 λpk pl en cq=>?_
       have lo:=lm.mono cq
       have eo:=en.bxos (r:=BK) (l:=([(⟨c.G,c.N,t,(λx=>A3 N ax x)⟩:AK)]:List AK)) .head ⟨_,_,O,⟨_,O,li,lj,ll,lo⟩,O⟩ (by simp [maxLen])
       obtain⟨pm,ep,lp,lq⟩:=eo.pubs .head
       have bx:=Fz.done o (cq.trans lp) ep
       exact Dt bx.1 ⟨Sl.mono' lq bx.2,_,O⟩
      exact trivial
     intro pn cr po lr pp bz
     have eq:=SN.st g cr
     cases lr
     obtain⟨bz,ms,rfl⟩:=bz
     obtain⟨er,E⟩:=LO E
     refine J3 (r:=BK) (l:=l9) (xs:=([(⟨c.G,c.N,t,(λx=>A3 N ax x)⟩:AK)]:List AK)) O O L7 O (Sl.src bz) O er O eq (λ_=>(.tail .head)) λls pq es lt=>AF 1 (A0 O (AD (AZ (kp [5,14,13,0,1,15] O) (B7 (WF.nil (λaa ww hf hw=>?_))))))
     have et:=es.sel [1,1,1,1,1,1,1,1,1,1,1] 1 O
     exact⟨ls,(l9++([(⟨c.G,c.N,t,(λx=>A3 N ax x)⟩:AK)]:List AK)),_,_,hf.sub (kp [14,13,0,1,15,5] O),hw,et,(bk.trans (a1.trans ((SN.ext g.1 cr).trans lt))),E⟩
    refine AS (B7 (WF.nil (λaa ww hf hw=>?_)))
    have eu:=g.sel [1,1,1,1,1,1,1,1,1,1,1] 1 O
    exact⟨v8,l9,_,_,hf.sub (kp [14,13,0,1,15,5] O),hw,eu,(bk.trans a1),E⟩
   rintro aa ww ⟨b2,b3,pr,ps,hf,hw,ev,lu,E⟩
   refine A6 ?_ hf hw
   clear hf hw ww aa
   rw[Dg] at E
   refine CL (.inl O) (A9 O (AA O (AN (kp [15,14,13,0,1,5] O) (WF.nil (λaa ww hf hw=>?_)))))
   exact⟨b2,b3,(Bw (t+1)),_,_,hf.sub (kp [14,13,0,1,5,15] O),hw,ev,(c0.trans lu),(B5 _),E⟩
  refine By O (λaa ww hf hw=>?_)
  exact⟨v8,l9,_,_,hf.sub (kp [5] O),hw,bj,c0,E⟩
 rintro aa ww ⟨v2,l3,pu,pv,hf,hw,ew,lv,E⟩
 refine A6 ?_ hf hw
 clear hf hw ww aa
 rw[DJ] at E
 refine AI (AA O (AM O (kp [4] O) (A5 (λaa ww hf hw=>?_))))
 cases E
 exact Em hf hw O O lv ew
end Go.Proofs.YtblcgjadhemlbaaGreat
