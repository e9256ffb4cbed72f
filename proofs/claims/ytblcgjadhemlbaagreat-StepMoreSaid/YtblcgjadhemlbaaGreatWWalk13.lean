import Derived.Test.YtblcgjadhemlbaaGreatWWalk12
namespace Go.Proofs.YtblcgjadhemlbaaGreat
set_option linter.all false
open Go.RowKit
open Go.Proofs.Tryz
set_option maxRecDepth 10000
set_option maxHeartbeats 2000000
variable {N:Nat}{S:Nat→Prop}{L:List HP}{h:BM}
def Pz (hs:St S L h) {c:Value}{d:Dm}(u:Rd S h Cw c d) {j:Int}(y:AH j) {b:Int}(s:AH b) {r:Int×Int}(E:Gg N d j b=some r):
 DK prog 65 #[c,vI j,vI b] S h (λv S' h'=>v= .tuple #[vI r.1,vI r.2]∧AH r.1∧AH r.2∧St S' (L) h'):=by
 refine B0 (l:=[c,vI j,vI b]) 51 func65 O ntmps65 O λB=>?_
 rw[Gg] at E
 refine WF.sl (C3 O u (λe=>by cases e) O hs λq1 S2 h3 A M K=>AF 2 (A0 O (A0 O (AD (AZ (kp [3,1,2] O) (AE (Cn (.inl O) A (AA O (A8 O K Dm.f_Num TE O λq7 k8=>BC CQ A.1 O k8 BA O λr9=>A8 O K Dm.f_Den Lx O λae Q=>BC CQ A.1 O Q BA O λU=>?_)))))))))
 obtain⟨i,H,E⟩:=bd E
 refine I8 (v:= .tuple #[vI i.1,vI i.2.1,.bool i.2.2]) (Ψ:=AH i.1∧AH i.2.1) O O O Uj O (λh' o=>(I7 (St.all h') y r9 U H).mono λ_ _ _ _ p=>⟨p.1,⟨p.2.1,p.2.2.1⟩⟩) λV=>?_
 obtain⟨W,af⟩:=V
 refine AA O (CX O (CX O (CX O (A0 O (A0 O (A0 O (B9 (kp [10,9,8,3,2] O) λC k x=>AE (AI (AA O (CI O (AN (kp [23,9,8,3,2] O) (AY O E (λX E=>?_) (λX E=>?_)))))))))))))
 ·refine AI (A0 O (AM O (kp [7,6] O) (A5 (λF G g t=>?_))))
  cases E
  exact K5 g O t (JD (Jm g (v:=_) O) (JD (Jm g (v:=_) O) K4)) O (M.trans x) ⟨O,(iq (n:=0) O),(iq (n:=0) O),k⟩
 refine AS (AI (AM O (kp [11,9,8,3,2] O) (AE (AI (AA O (HY O (AA O (AW 5 31 (.bool ((decide (0≤b))&&(decide (b<d.I)))) ?_ ?_))))))))
 ·cases ag:(decide (0≤b))
  ·exact A4 O O
  exact AB O (AA O (AB O (A8 O (K.mono x) Dm.f_Den Lx O λah Y=>AB O (BC Bu k.1 O Y BA O λai=>AB O (BI O (AL O (AV O)))))))
 refine AN (kp [31,11,9,8,3,2] O) (He (λa w=>∃(z:Int),IV B S2 C (51,[]) a w [(9,vI i.2.1),(8,vI i.1),(3,q1),(11,vI z)] (L) λ_ _=>AH z∧FU N d i z=some r) ?_ ?_)
 ·refine AY O E (λZ E=>?_) (λZ E=>?_)
  ·refine CL (.inl O) (AA O (AM O (kp [11,9,8,3] O) (WF.nil (λF G g t=>?_))))
   exact⟨b,_,_,g.sub (kp [9,8,3,11] O),t,k,(C9.refl S2 C),s,E⟩
  refine AS (WF.nil (λF G g t=>?_))
  exact⟨0,_,_,g.sub (kp [9,8,3,11] O),t,k,(C9.refl S2 C),(iq (n:=0) O),E⟩
 rintro F G ⟨z,aj,ak,g,t,m,D,al,E⟩
 refine A6 ?_ g t
 clear g t G F
 rw[FU] at E
 refine AE (AI (AA O (AA O (A9 O ?_))))
 have J:=K.mono (x.trans D)
 refine A8 O J Dm.f_Den Lx O λam ab=>BC Bu m.1 O ab BA O λan=>BI O (AN (kp [38,9,8,3,11] O) (AY O E (λac E=>?_) (λac E=>?_)))
 ·refine AI (AA O (AA O (AA O (A9 O (A0 O (AM O (kp [7,6] O) (A5 (λF G g t=>?_))))))))
  cases E
  exact K5 g O t (JD (Jm g (v:=_) O) (JD (Jm g (v:=_) O) K4)) O (M.trans (x.trans D)) ⟨O,W,(B5 _),m⟩
 refine AS (AE (CL (.inr ⟨mo,by kernel_rfl⟩) (AA O (A9 O (AA O (AA O (A9 O (A8 O J Dm.f_Den Lx O λao ad=>BC Bu m.1 O ad BA O λap=>Dl O (A0 O (AM O (kp [7,6] O) (A5 (λF G g t=>?_))))))))))))
 cases E
 exact K5 g O t (JD (Jm g (v:=_) O) (JD (Jm g (v:=_) O) K4)) O (M.trans (x.trans D)) ⟨O,(B5 _),(B5 _),m⟩
def N0 {u:Nat}{p0_w:AX}{Y:Value}{Z:Value}{ab:Value}{ac:Value}{ad:Value}{ae:Value}{af:Value}{ag:Value}{C:Value}{G:Value}{K:Value}{Q:Value}{W:Value}{ax:Value}{t:Value}{c:Value}{d:Value}{g:Value}{ay:Value}{az:Value}{j:Value}{a1:Value}(hs:St S (Bx u 84 [.string p0_w.b.H,Y,vI p0_w.b.T,Z,ab,ac,ad,ae,af,ag,vI p0_w.b.V,C,G,K,Q,W,vI p0_w.s.D,ax,t,c,d,g,ay,az,j,a1]::OS (BZ.sl AJ) 29 ax p0_w.s.F::OS AJ 3 t p0_w.s.O::OS BJ 60 c p0_w.s.M::OS Bz 69 d p0_w.s.P::OS AJ 3 g p0_w.s.S::OS AJ 3 ay p0_w.s.U::OS CJ 50 az p0_w.moves::OS AJ 3 j p0_w.peaks::OS BJ 60 a1 p0_w.sent::L) h) (ao:p0_w.b.H.size≤maxLen) (cp:Sl S h BZ.str Y p0_w.b.J) (ap:AH p0_w.b.T) (ba:Sl S h Cw Z p0_w.b.A) (cq:Sl S h Ct ab p0_w.b.E) (cr:Sl S h HL ac p0_w.b.Am) (ct:Sl S h Fc ad p0_w.b.Au) (cu:Sl S h HN ae p0_w.b.Av) (cv:Sl S h Dy af p0_w.b.Ay) (cw:Sl S h AJ ag p0_w.b.Ax) (am:AH p0_w.b.V) (bt:Sl S h AJ C p0_w.in_.X) (bu:Sl S h Gc G p0_w.in_.Ap) (bv:Sl S h JX K p0_w.in_.At) (bw:Sl S h Gd Q p0_w.in_.Ad) (bx:Sl S h HM W p0_w.in_.Ba) (an:AH p0_w.s.D) {z:Int}(a2:AH z) {r:(List (List Int))×(List Int)×(List Int)×(List BB)×(List BD)}(E:D6 N p0_w z=some r):
 DK prog 34 #[vP u 0,vI z] S h (λv S' h'=>∃b5 b7 b8 b9 ca:Value,v= .tuple #[]∧St S' (Bx u 84 [.string p0_w.b.H,Y,vI p0_w.b.T,Z,ab,ac,ad,ae,af,ag,vI p0_w.b.V,C,G,K,Q,W,vI p0_w.s.D,b5,b7,c,d,g,b8,b9,j,ca]::OS (BZ.sl AJ) 29 b5 r.1::OS AJ 3 b7 r.2.1::OS BJ 60 c p0_w.s.M::OS Bz 69 d p0_w.s.P::OS AJ 3 g p0_w.s.S::OS AJ 3 b8 r.2.2.1::OS CJ 50 b9 r.2.2.2.1::OS AJ 3 j p0_w.peaks::OS BJ 60 ca r.2.2.2.2::L) h'):=by
 refine B0 (l:=[vP u 0,vI z]) 119 func34 O ntmps34 O λB=>?_
 rw[D6] at E
 refine WF.sl (AF 8 (AA O (DN O O (AG HQ O (AG D1 O (AT Bu hs O mh O G7 O (AA O ?_)))))))
 obtain⟨k,jj,E⟩:=bd E
 refine B1 O O ba GL jj O λq2 k3=>Cq Bu hs.1 O k3 Kt (λe=>by cases e) O λv4 k5=>AD (Di Pb O hs λb6 h7 jk e9=>?_)
 obtain⟨bz,b0,b1,rfl,jl,jm,jn,jo,f4,f5,jp,jq,ec,ed,jr,f6⟩:=Cw.ex (k5.mono e9)
 refine Ht (vs:=[.string k.H,vI k.B,vI k.As,vI k.Ae,bz,b0,vI k.L,vI k.I,vI k.Aq,vI k.N,vI k.Bc,b1]) (cs':=[.string k.H,vI k.B,vI k.As,vI k.Ae,bz,b0,vI k.L,vI k.I,vI k.Aq,vI k.N,vI k.Bc,b1]) O O O (AC O (AC O (AC O (AC O (AC f4.one (AC f5.one (AC O (AC O (AC O (AC O (AC O (AC f6.one Es)))))))))))) Kt O jk .head O O λl0 f7 av=>AZ (kp [4,0,1] O) (AE (WF.sl (AF 2 (AA O (AA O (AD ?_))))))
 have f8:=f7.sel [1,1,1,1,1,1,1,1,1,1,0] 0 O
 have f9:=cp.mono' (e9.trans av)
 have ga:=ba.mono' (e9.trans av)
 have gb:=cq.mono' (e9.trans av)
 have gc:=cr.mono' (e9.trans av)
 have gd:=ct.mono' (e9.trans av)
 have ge:=cu.mono' (e9.trans av)
 have gf:=cv.mono' (e9.trans av)
 have gg:=cw.mono' (e9.trans av)
 have gh:=bt.mono' (e9.trans av)
 have gi:=bu.mono' (e9.trans av)
 have gj:=bv.mono' (e9.trans av)
 have gl:=bw.mono' (e9.trans av)
 have gm:=bx.mono' (e9.trans av)
 obtain⟨gn,gp,E⟩:=bd E
 refine Dj O O O mM O (Nx (p0_w:=p0_w) f8 ao f9 ap ga gb gc gd ge gf gg am gh gi gj gl gm an a2 gp) λl1 l2 l3 aw p=>?_
 have gq:=p
 refine AF 2 (AA O (AA O (AD ?_)))
 have gr:=gq.sel [1,1,1,1,1,1,1,1,1,1,0,0] 0 O
 have dl:=f9.mono' aw
 have dm:=ga.mono' aw
 have dn:=gb.mono' aw
 have dp:=gc.mono' aw
 have dq:=gd.mono' aw
 have dr:=ge.mono' aw
 have ds:=gf.mono' aw
 have dt:=gg.mono' aw
 have du:=gh.mono' aw
 have dv:=gi.mono' aw
 have dw:=gj.mono' aw
 have dx:=gl.mono' aw
 have dy:=gm.mono' aw
 obtain⟨gs,gu,E⟩:=bd E
 refine Dj O O O mL O (N1 (p0_w:=p0_w) gr ao dl ap dm dn dp dq dr ds dt am du dv dw dx dy an a2 gu) λl4 l5 l6 cx p=>?_
 have gv:=p
 obtain⟨l7,gw,cy,js⟩:=gv.pubs (.tail (.tail (.tail (.tail (.tail (.tail (.tail (.tail (.tail (.tail (.tail .head)))))))))))
 obtain⟨l8,gx,b2,gy⟩:=gw.pubs .head
 have gz:=js.mono' b2
 obtain⟨g0,ee,rfl,l9⟩:=(gz).len
 obtain⟨g1,ef,rfl,ma⟩:=(gy).len
 refine E3 (cs:=[(.slice g0 gn.length ee),(.slice g1 gs.length ef)]) fY O O O O O O O gx λmb mc g2 bl=>?_
 have jt:=gy.mono' bl
 have ju:=gz.mono' bl
 have g3:=g2.bxos (r:=(BZ.sl BK)) (l:=([gn,gs]:List (List AK))) .head ⟨_,_,O,⟨_,O,ju⟩,⟨_,_,O,⟨_,O,jt⟩,O⟩⟩ (by simp [maxLen])
 obtain⟨md,g4,cz,jv⟩:=g3.pubs .head
 obtain⟨eg,g5,E⟩:=bd E
 refine Dj O O O mN O (Hv g4 jv g5) λg6 eh ei bb p=>?_
 have c0:=p
 refine AF 2 (L3 c0 mh O Mb O λj2=>AA O (AD (AZ (kp [27,26,25,4,0,1] O) (BH (λa w=>∃(bc:Value) (a4:List (List Int)) (be:Value) (a5:List Int) (bf:Value) (a6:List BB) (bg:Value) (a7:List BD),IV B eh ei (119,[]) a w [(4,vP b6 0),(0,vP u 0),(1,vI z)] (OS (BZ.sl AJ) 29 bc a4::OS AJ 3 be a5::OS CJ 50 bf a6::OS BJ 60 bg a7::Bx u 84 [.string p0_w.b.H,Y,vI p0_w.b.T,Z,ab,ac,ad,ae,af,ag,vI p0_w.b.V,C,G,K,Q,W,vI p0_w.s.D,bc,t,c,d,g,be,bf,j,bg]::OS AJ 3 t p0_w.s.O::OS BJ 60 c p0_w.s.M::OS Bz 69 d p0_w.s.P::OS AJ 3 g p0_w.s.S::OS AJ 3 j p0_w.peaks::Bx b6 56 [.string k.H,vI k.B,vI k.As,vI k.Ae,bz,b0,vI k.L,vI k.I,vI k.Aq,vI k.N,vI k.Bc,b1]::L) λ_ _=>D5 N p0_w z k a4 a5 a6 a7=some r) ?_ ?_))))
 ·refine BV (λn1=>λa w=>∃(bm:Int) (cb:Value) (bn:List (List Int)) (cc:Value) (bo:List Int) (cd:Value) (bp:List BB) (ce:Value) (bq:List BD),IV B eh ei (119,[]) a w [(26,vI (↑eg.length:Int)),(25,g6),(4,vP b6 0),(0,vP u 0),(1,vI z),(27,vI bm)] (OS (BZ.sl AJ) 29 cb bn::OS AJ 3 cc bo::OS CJ 50 cd bp::OS BJ 60 ce bq::OS BK 111 g6 eg::Bx u 84 [.string p0_w.b.H,Y,vI p0_w.b.T,Z,ab,ac,ad,ae,af,ag,vI p0_w.b.V,C,G,K,Q,W,vI p0_w.s.D,cb,t,c,d,g,cc,cd,j,ce]::OS AJ 3 t p0_w.s.O::OS BJ 60 c p0_w.s.M::OS Bz 69 d p0_w.s.P::OS AJ 3 g p0_w.s.S::OS AJ 3 j p0_w.peaks::Bx b6 56 [.string k.H,vI k.B,vI k.As,vI k.Ae,bz,b0,vI k.L,vI k.I,vI k.Aq,vI k.N,vI k.Bc,b1]::L) λ_ _=>AH bm∧Cd N p0_w z eg (D5 N p0_w z k) n1 bm bn bo bp bq=some r) N ?_ ?_ ?_
  ·intro aa ww hf hw
   have ej:=c0.sel [2,6,6,7,0,0,0,0,0,0,0,0] 0 O
   exact⟨0,ax,p0_w.s.F,ay,p0_w.s.U,az,p0_w.moves,a1,p0_w.sent,_,_,hf.sub (kp [26,25,4,0,1,27] O),hw,ej,(C9.refl eh ei),(iq (n:=0) O),E⟩
  ·rintro aa ww ⟨_,_,_,_,_,_,_,_,_,_,_,_,_,_,_,_,E⟩
   rw[Cd] at E;cases E
  rintro n1 aa ww ⟨bm,cb,bn,cc,bo,cd,bp,ce,bq,j3,j4,hf,hw,bj,c1,j5,E⟩
  refine A6 ?_ hf hw
  clear hf hw ww aa
  rw[Cd] at E
  refine AI (BI O (AN (kp [28,26,25,4,0,1,27] O) (AE (AY O E (λg7 E=>?_) (λg7 E=>?_)))))
  ·refine AS (AE (BY (WF.sl (AF 2 ?_))))
   obtain⟨j6,ek,E⟩:=bd E
   refine BX bj (mt (mt (mt (mt mh)))) O O Mb ek O λj7 el=>?_
   obtain⟨a8,em,E⟩:=bd E
   have g8:=bj.epAt (mt (mt (mt (mt mh)))) em GO.id el
   refine Cq Bu (λ_ x=>x) O g8 U0 (λe=>by cases e) O λj8 g9=>AD (Di eL O bj λj9 ka en c2=>?_)
   obtain⟨kb,rfl,ha,hb,hc,dz⟩:=BK.ex (g9.mono c2)
   obtain⟨c3,c4,rfl,jw,jx⟩:=dz.fnr
   refine Ek (vs:=[vI a8.to_,vI a8.delay,vI a8.way,(.func (.func c3) #[] c4)]) O O O O U0 O en .head O λkc c5 c6=>AZ (kp [6,26,25,4,0,1,27] O) (FG (AF 3 (AA O (AA O (ES (vs:=[vI a8.to_,vI a8.delay,vI a8.way,(.func (.func c3) #[] c4)]) Bu c5 O mh O O U0 O O (AD ?_))))))
   have eo:=c5.sel [6,1,5,5,5,5,1,1,3,1,0,0,0] 0 O
   have ah:=cx.trans (cy.trans (b2.trans (bl.trans (cz.trans (bb.trans (c1.trans (c2.trans c6)))))))
   obtain⟨cf,ep,E⟩:=bd E
   refine Dj O O O ZZ O (J6 (p0_w:=(⟨p0_w.b,p0_w.in_,(⟨p0_w.s.D,bn,p0_w.s.O,p0_w.s.M,p0_w.s.P,p0_w.s.S,bo⟩:A7),bp,p0_w.peaks,bq⟩:AX)) eo ao (dl.mono' ah) ap (dm.mono' ah) (dn.mono' ah) (dp.mono' ah) (dq.mono' ah) (dr.mono' ah) (ds.mono' ah) (dt.mono' ah) am (du.mono' ah) (dv.mono' ah) (dw.mono' ah) (dx.mono' ah) (dy.mono' ah) an a2 (BK.mk (x:=a8) ha hb hc (dz.mono c6)) ep) λkd ke kf hd p=>?_
   obtain⟨he,hg,hi,hj,rfl,eq⟩:=p
   refine AZ (kp [26,25,4,0,1,27] O) (B7 (CL (.inl O) (A9 O (AA O (AN (kp [27,26,25,4,0,1] O) (WF.nil (λaa ww hf hw=>?_)))))))
   have er:=eq.sel [1,5,5,6,7,0,0,0,0,0,0,1] 1 O
   exact⟨(Bw (bm+1)),he,cf.1,hg,cf.2.1,hi,cf.2.2.1,hj,cf.2.2.2,_,_,hf.sub (kp [26,25,4,0,1,27] O),hw,er,(c1.trans (c2.trans (c6.trans hd))),(B5 _),E⟩
  refine By O (λaa ww hf hw=>?_)
  have es:=bj.sel [0,0,0,0,1,1,1,1,1,1,1] 1 O
  exact⟨cb,bn,cc,bo,cd,bp,ce,bq,_,_,hf.sub (kp [4,0,1] O),hw,es,c1,E⟩
 rintro aa ww ⟨bc,a4,be,a5,bf,a6,bg,a7,cg,d0,hf,hw,ai,br,E⟩
 refine A6 ?_ hf hw
 clear hf hw ww aa
 rw[D5] at E
 refine AE (AI (AG Lx O (AT Bu ai O (mt (mt (mt (mt (mt (mt (mt (mt (mt (mt mh)))))))))) O BA O (Cg O (AN (kp [38,4,0,1] O) (He (λa w=>∃(c7:Value) (ch:List (List Int)) (c8:Value) (ci:List Int) (c9:Value) (cj:List BB) (da:Value) (ck:List BD) (cl:List Int),IV B cg d0 (119,[]) a w [(4,vP b6 0),(0,vP u 0),(1,vI z)] (OS (BZ.sl AJ) 29 c7 ch::OS AJ 3 c8 ci::OS CJ 50 c9 cj::OS BJ 60 da ck::Bx u 84 [.string p0_w.b.H,Y,vI p0_w.b.T,Z,ab,ac,ad,ae,af,ag,vI p0_w.b.V,C,G,K,Q,W,vI p0_w.s.D,c7,t,c,d,g,c8,c9,j,da]::OS AJ 3 t cl::OS BJ 60 c p0_w.s.M::OS Bz 69 d p0_w.s.P::OS AJ 3 g p0_w.s.S::OS AJ 3 j p0_w.peaks::Bx b6 56 [.string k.H,vI k.B,vI k.As,vI k.Ae,bz,b0,vI k.L,vI k.I,vI k.Aq,vI k.N,vI k.Bc,b1]::L) λ_ _=>CF N p0_w z k ch ci cj ck cl=some r) ?_ ?_))))))
 ·refine AY O E (λhk E=>?_) (λhk E=>?_)
  ·refine AE (Cn (.inr ⟨mo,by kernel_rfl⟩) ai (ES (vs:=[.string k.H,vI k.B,vI k.As,vI k.Ae,bz,b0,vI k.L,vI k.I,vI k.Aq,vI k.N,vI k.Bc,b1]) CQ ai O (mt (mt (mt (mt (mt (mt (mt (mt (mt (mt mh)))))))))) O O Kt O O (AA O (DN O O (AG Kk O (AT CQ ai O (mt (mt (mt (mt mh)))) O CH O (AA O ?_)))))))
   obtain⟨kg,et,E⟩:=bd E
   refine BX ai (mt (mt (mt (mt (mt (mt (mt (mt (mt mh))))))))) O O CA et O λkh eu=>?_
   obtain⟨ki,ev,E⟩:=bd E
   have hl:=ai.epAt (mt (mt (mt (mt (mt (mt (mt (mt (mt mh))))))))) ev GO.id eu
   refine BC CQ (λ_ x=>x) O hl BA O λhm=>AA O (DN O O (AG DZ O (AG Kn O (AT CQ ai O (mt (mt (mt (mt mh)))) O CH O (AA O ?_)))))
   obtain⟨kj,ew,E⟩:=bd E
   refine BX ai (mt (mt (mt (mt (mt mh))))) O O CA ew O λkk ey=>?_
   obtain⟨kl,ez,E⟩:=bd E
   have hn:=ai.epAt (mt (mt (mt (mt (mt mh))))) ez GO.id ey
   refine BC CQ (λ_ x=>x) O hn BA O λho=>?_
   have b3:=av.trans (aw.trans (cx.trans (cy.trans (b2.trans (bl.trans (cz.trans (bb.trans br)))))))
   obtain⟨ar,e0,E⟩:=bd E
   refine I8 (v:= .tuple #[vI ar.1,vI ar.2]) (Ψ:=AH ar.1∧AH ar.2) O O O mK O (λh' o=>(Pz (St.all h') (Cw.mk (x:=k) jl jm jn jo ((f4.mono' b3).mono' (o.all ai.1)) ((f5.mono' b3).mono' (o.all ai.1)) jp jq ec ed jr ((f6.mono' b3).mono' (o.all ai.1))) hm ho e0).mono λ_ _ _ _ p=>⟨p.1,⟨p.2.1,p.2.2.1⟩⟩) λhp=>?_
   obtain⟨hq,ht⟩:=hp
   refine AA O (CX O (CX O (A0 O (A0 O (B9 (kp [8,7,4,0,1] O) λkm b4 d1=>WF.sl (AF 7 (AA O (DN O O (AG DZ O (AG Kn O (AT Bu b4 O (mt (mt (mt (mt mh)))) O CH O (AA O ?_))))))))))))
   obtain⟨kn,e1,E⟩:=bd E
   refine BX b4 (mt (mt (mt (mt (mt mh))))) O O CA e1 O λko e2=>AD ?_
   obtain⟨hu,e3,E⟩:=bd E
   refine Fd (r:=AJ) (l:=p0_w.s.O) (i:=z) (x:=hu) O O (⟨_,O,O,(iq (n:=0) O)⟩:Rd _ _ AJ _ 0) e2 e3 MS.id BA (λ_=>rfl) b4 (.tail (.tail (.tail (.tail (.tail .head))))) λkq a9 d2=>AZ (kp [8,7,4,0,1] O) (AE (AE (Cn (.inl O) a9 (AA O (DN O O (AG DZ O (AG EF O (AT CQ a9 O (mt (mt (mt (mt mh)))) O HO O (AA O ?_)))))))))
   obtain⟨kr,e4,E⟩:=bd E
   refine BX a9 mh O O Fl e4 O λks e5=>?_
   obtain⟨kt,e6,E⟩:=bd E
   have hv:=a9.epAt mh e6 GO.id e5
   refine BF CQ (λ_ x=>x) O hv CH O λku hx=>?_
   obtain⟨kv,e7,E⟩:=bd E
   refine DW O O O OC O (λh' o=>F7 (St.all h') (hx.mono' (o.all a9.1)) e7) λhy=>?_
   have kw:=hy
   refine AA O (HY O (B9 (kp [76,8,7,4,0,1] O) λd3 bk d4=>He (λa w=>∃(bs:List Int),IV B cg d3 (119,[]) a w [(7,vI ar.1),(4,vP b6 0),(0,vP u 0),(1,vI z)] (OS (BZ.sl AJ) 29 bc a4::OS AJ 3 be a5::OS CJ 50 bf a6::OS BJ 60 bg a7::Bx u 84 [.string p0_w.b.H,Y,vI p0_w.b.T,Z,ab,ac,ad,ae,af,ag,vI p0_w.b.V,C,G,K,Q,W,vI p0_w.s.D,bc,t,c,d,g,be,bf,j,bg]::OS AJ 3 t bs::OS BJ 60 c p0_w.s.M::OS Bz 69 d p0_w.s.P::OS AJ 3 g p0_w.s.S::OS AJ 3 j p0_w.peaks::Bx b6 56 [.string k.H,vI k.B,vI k.As,vI k.Ae,bz,b0,vI k.L,vI k.I,vI k.Aq,vI k.N,vI k.Bc,b1]::L) λ_ _=>DI N p0_w z k a4 a5 a6 a7 ar (CF N p0_w z k) bs=some r) ?_ ?_))
   ·refine AY O E (λhz E=>?_) (λhz E=>?_)
    ·refine FG (AF 8 (AA O (DN O O (AG DZ O (AG Kn O (AT Bu bk O (mt (mt (mt (mt mh)))) O CH O (AA O (AA O ?_))))))))
     obtain⟨kx,e8,E⟩:=bd E
     refine BX bk (mt (mt (mt (mt (mt mh))))) O O CA e8 O λky fa=>AD ?_
     obtain⟨h0,fb,E⟩:=bd E
     refine Fd (r:=AJ) (l:=(upd p0_w.s.O z 0)) (i:=z) (x:=h0) O O (⟨_,O,O,ht⟩:Rd _ _ AJ _ ar.2) fa fb MS.id BA (λ_=>rfl) bk (.tail (.tail (.tail (.tail (.tail .head))))) λkz fc h3=>AZ (kp [7,4,0,1] O) (WF.nil (λaa ww hf hw=>?_))
     exact⟨(upd (upd p0_w.s.O z 0) z ar.2),_,_,hf.sub (kp [7,4,0,1] O),hw,fc,h3,E⟩
    refine AS (WF.nil (λaa ww hf hw=>?_))
    exact⟨(upd p0_w.s.O z 0),_,_,hf.sub (kp [7,4,0,1] O),hw,bk,(C9.refl cg d3),E⟩
   rintro aa ww ⟨bs,d5,d6,hf,hw,au,d7,E⟩
   refine A6 ?_ hf hw
   clear hf hw ww aa
   rw[DI] at E
   obtain⟨bh,fd,E⟩:=bd E
   refine NX (m:=[(7,vI ar.1),(4,vP b6 0),(0,vP u 0),(1,vI z)]) 9 (λi v hh=>match i with|0=>v=vP u 0|1=>v=vI z∧AH z|2=>v=vP b6 8|3=>v=vI k.Aq∧AH k.Aq|4=>v=vP b6 9|5=>v=vI k.N∧AH k.N|6=>v=vI ar.1∧AH ar.1|7=>Rd (SN d5 d6 hh) hh (BZ.fnr prog (λS h vs (x:(List Int))=>∃w0:Value,vs=[w0]∧Sl S h AJ w0 x) (λS h v (y:((List Int)×(List Int)))=>∃w0 w1:Value,v= .tuple #[w0,w1]∧Sl S h AJ w0 y.1∧Sl S h AJ w1 y.2)) v (λx=>A3 N bh x)|8=>Rd (SN d5 d6 hh) hh BK v (⟨k.Aq,k.N,(-1),(λx=>A3 N bh x)⟩:AK)|_=>False) [[],[],[],[(2,87)],[],[(4,89)],[],[(6,91)],[(3,88),(5,90),(7,92)]] [(0,85),(1,86),(8,93)] mo (by kernel_rfl) [7,4,0,1] O (by kernel_rfl) (by kernel_rfl) (by kernel_rfl) (kp [7,4,0,1] O) (λi v h1 h2 o1 o2 hr=>?_) ?_ ?_
   ·match i,hr with
     |0,hr|1,hr|2,hr|3,hr|4,hr|5,hr|6,hr=>exact hr
     |7,hr|8,hr=>exact Rd.mono hr (SN.mono au.1 o1 o2)
     |_+9,hr=>exact hr.elim
   ·refine BQ.cons O (λ_ _ _=>AF 1 (AA O (AO O))) (BQ.cons O (λ_ _ _=>AF 1 (AA O (AO ⟨O,a2⟩))) (BQ.cons O (λ_ _ _=>AF 1 (AG QQ O (AO O))) (BQ.cons O (λ_ _ o _ h4=>by cases h4;exact AF 1 (AT Bu (o.st au) O (mt (mt (mt (mt (mt (mt (mt (mt (mt (mt mh)))))))))) O BA O (AO ⟨O,ec⟩))) (BQ.cons O (λ_ _ _=>AF 1 (AG TD O (AO O))) (BQ.cons O (λ_ _ o _ h5=>by cases h5;exact AF 1 (AT Bu (o.st au) O (mt (mt (mt (mt (mt (mt (mt (mt (mt (mt mh)))))))))) O BA O (AO ⟨O,ed⟩))) (BQ.cons O (λ_ _ _=>AF 1 (AA O (AO ⟨O,hq⟩))) ?_))))))
    refine BQ.cons O ?_ ?_
    ·intro mq hh o
     intro k0 h6
     have db:=SN.st au o
     obtain⟨rfl,h8⟩:=h6
     have fe:=db.fz
     refine Dj O O O Uk O (JM fe h8 fd) λk1 h9 ia ib p=>?_
     obtain⟨d8,rfl,ic,ff⟩:=p
     have fg:Rd h9 ia (BZ.fnr prog (λS h vs (x:(List Int))=>∃w0:Value,vs=[w0]∧Sl S h AJ w0 x) (λS h v (y:((List Int)×(List Int)))=>∃w0 w1:Value,v= .tuple #[w0,w1]∧Sl S h AJ w0 y.1∧Sl S h AJ w1 y.2)) (.func (.func 89) #[] #[d8]) (λx=>A3 N bh x):=K2 89 #[d8] Ui λS' h' s' e' L hs x y vs h1 h2=>by obtain⟨w0,rfl,a0⟩:=h1;exact Ng (Id hs a0 (ic.mono'' s' e') h2)
     have dc:=Fz.done o ib ff
     exact Dt dc.1 (Rd.mono fg dc.2)
    refine BQ.cons O ?_ ?_
    ·intro mq hh o
     intro k2 ie k4 ig ih cm
     have db:=SN.st au o
     obtain⟨rfl,ii⟩:=ie
     obtain⟨rfl,ij⟩:=ig
     have cm:Rd _ _ (BZ.fnr prog (λS h vs (x:(List Int))=>∃w0:Value,vs=[w0]∧Sl S h AJ w0 x) (λS h v (y:((List Int)×(List Int)))=>∃w0 w1:Value,v= .tuple #[w0,w1]∧Sl S h AJ w0 y.1∧Sl S h AJ w1 y.2)) ih (λx=>A3 N bh x):=cm
     refine AF 1 ?_
     obtain⟨fh,fi,rfl,jy,jz⟩:=cm.fnr
     exact Iz (cs:=[vI k.Aq,vI k.N,vI (-1),(.func (.func fh) #[] fi)]) PJ O O O (AO (BK.mk (x:=(⟨k.Aq,k.N,(-1),(λx=>A3 N bh x)⟩:AK)) ii ij (iq (n:=(-1)) O) cm))
    exact trivial
   intro k6 dd k7 ik k8 il im de
   have fj:=SN.st au dd
   cases ik
   obtain⟨rfl,io⟩:=il
   have de:Rd _ _ BK im (⟨k.Aq,k.N,(-1),(λx=>A3 N bh x)⟩:AK):=de
   have fk:=fj.sel [4,0,3,3,3,3,0,0,1,0,0] 0 O
   have aj:=cx.trans (cy.trans (b2.trans (bl.trans (cz.trans (bb.trans (br.trans (d1.trans (d2.trans (d4.trans (d7.trans (SN.ext au.1 dd)))))))))))
   obtain⟨cn,fl,E⟩:=bd E
   refine Dj O O O ZZ O (J6 (p0_w:=(⟨p0_w.b,p0_w.in_,(⟨p0_w.s.D,a4,bs,p0_w.s.M,p0_w.s.P,p0_w.s.S,a5⟩:A7),a6,p0_w.peaks,a7⟩:AX)) fk ao (dl.mono' aj) ap (dm.mono' aj) (dn.mono' aj) (dp.mono' aj) (dq.mono' aj) (dr.mono' aj) (ds.mono' aj) (dt.mono' aj) am (du.mono' aj) (dv.mono' aj) (dw.mono' aj) (dx.mono' aj) (dy.mono' aj) an io de fl) λk9 la lb ip p=>?_
   obtain⟨ir,it,iu,iv,rfl,fm⟩:=p
   refine AZ (kp [4,0,1] O) (WF.nil (λaa ww hf hw=>?_))
   have fn:=fm.sel [1,5,5,6,0,0,0,0,0,0,0] 0 O
   exact⟨ir,cn.1,it,cn.2.1,iu,cn.2.2.1,iv,cn.2.2.2,bs,_,_,hf.sub (kp [4,0,1] O),hw,fn,(d1.trans (d2.trans (d4.trans (d7.trans ((SN.ext au.1 dd).trans ip))))),E⟩
  refine AS (WF.nil (λaa ww hf hw=>?_))
  exact⟨bc,a4,be,a5,bf,a6,bg,a7,p0_w.s.O,_,_,hf.sub (kp [4,0,1] O),hw,ai,(C9.refl cg d0),E⟩
 rintro aa ww ⟨c7,ch,c8,ci,c9,cj,da,ck,cl,d9,lc,hf,hw,a3,df,E⟩
 refine A6 ?_ hf hw
 clear hf hw ww aa
 rw[CF] at E
 refine AE (Cn (.inr ⟨mo,by kernel_rfl⟩) a3 (AA O (DN O O (AG DZ O (AG EF O (AT CQ a3 O (mt (mt (mt (mt mh)))) O HO O (AA O ?_)))))))
 obtain⟨le,fo,E⟩:=bd E
 refine BX a3 mh O O Fl fo O λlf fp=>?_
 obtain⟨lg,fq,E⟩:=bd E
 have iw:=a3.epAt mh fq GO.id fp
 refine BF CQ (λ_ x=>x) O iw CH O λlh iy=>?_
 obtain⟨dg,fr,E⟩:=bd E
 refine DW O O O OC O (λh' o=>F7 (St.all h') (iy.mono' (o.all a3.1)) fr) λiz=>?_
 have li:=iz
 refine AG WV O (AT CQ a3 O (mt (mt (mt (mt (mt (mt (mt (mt (mt (mt mh)))))))))) O BA O (Dl O (A0 O (B9 (kp [9,4,0,1] O) λea aq dh=>AI (AA O (CV O (AN (kp [108,9,4,0,1] O) (AY O E (λi0 E=>?_) (λi0 E=>?_)))))))))
 ·obtain ⟨bi,fs,E⟩:=bd E
  refine NX (m:=[(9,vI (Bw (dg-k.Ae))),(4,vP b6 0),(0,vP u 0),(1,vI z)]) 9 (λi v hh=>match i with|0=>v=vP u 0|1=>v=vI z∧AH z|2=>v=vP b6 8|3=>v=vI k.Aq∧AH k.Aq|4=>v=vP b6 9|5=>v=vI k.N∧AH k.N|6=>v=vI (Bw (dg-k.Ae))∧AH (Bw (dg-k.Ae))|7=>Rd (SN d9 ea hh) hh (BZ.fnr prog (λS h vs (x:(List Int))=>∃w0:Value,vs=[w0]∧Sl S h AJ w0 x) (λS h v (y:((List Int)×(List Int)))=>∃w0 w1:Value,v= .tuple #[w0,w1]∧Sl S h AJ w0 y.1∧Sl S h AJ w1 y.2)) v (λx=>A3 N bi x)|8=>Rd (SN d9 ea hh) hh BK v (⟨k.Aq,k.N,(-2),(λx=>A3 N bi x)⟩:AK)|_=>False) [[],[],[],[(2,111)],[],[(4,113)],[],[(6,115)],[(3,112),(5,114),(7,116)]] [(0,109),(1,110),(8,117)] mo (by kernel_rfl) [9,4,0,1] O (by kernel_rfl) (by kernel_rfl) (by kernel_rfl) (kp [9,4,0,1] O) (λi v h1 h2 o1 o2 hr=>?_) ?_ ?_
  ·match i,hr with
    |0,hr|1,hr|2,hr|3,hr|4,hr|5,hr|6,hr=>exact hr
    |7,hr|8,hr=>exact Rd.mono hr (SN.mono aq.1 o1 o2)
    |_+9,hr=>exact hr.elim
  ·refine BQ.cons O (λ_ _ _=>AF 1 (AA O (AO O))) (BQ.cons O (λ_ _ _=>AF 1 (AA O (AO ⟨O,a2⟩))) (BQ.cons O (λ_ _ _=>AF 1 (AG QQ O (AO O))) (BQ.cons O (λ_ _ o _ i1=>by cases i1;exact AF 1 (AT Bu (o.st aq) O (mt (mt (mt (mt (mt (mt (mt (mt (mt (mt mh)))))))))) O BA O (AO ⟨O,ec⟩))) (BQ.cons O (λ_ _ _=>AF 1 (AG TD O (AO O))) (BQ.cons O (λ_ _ o _ i2=>by cases i2;exact AF 1 (AT Bu (o.st aq) O (mt (mt (mt (mt (mt (mt (mt (mt (mt (mt mh)))))))))) O BA O (AO ⟨O,ed⟩))) (BQ.cons O (λ_ _ _=>AF 1 (AA O (AO ⟨O,(B5 _)⟩))) ?_))))))
   refine BQ.cons O ?_ ?_
   ·intro mq hh o
    intro lj i3
    have db:=SN.st aq o
    obtain⟨rfl,i4⟩:=i3
    have fe:=db.fz
    refine Dj O O O Uk O (JM fe i4 fs) λll i5 i6 i7 p=>?_
    obtain⟨eb,rfl,i8,ft⟩:=p
    have fu:Rd i5 i6 (BZ.fnr prog (λS h vs (x:(List Int))=>∃w0:Value,vs=[w0]∧Sl S h AJ w0 x) (λS h v (y:((List Int)×(List Int)))=>∃w0 w1:Value,v= .tuple #[w0,w1]∧Sl S h AJ w0 y.1∧Sl S h AJ w1 y.2)) (.func (.func 89) #[] #[eb]) (λx=>A3 N bi x):=K2 89 #[eb] Ui λS' h' s' e' L hs x y vs h1 h2=>by obtain⟨w0,rfl,a0⟩:=h1;exact Ng (Id hs a0 (i8.mono'' s' e') h2)
    have di:=Fz.done o i7 ft
    exact Dt di.1 (Rd.mono fu di.2)
   refine BQ.cons O ?_ ?_
   ·intro mq hh o
    intro lm i9 lo ja jb co
    have db:=SN.st aq o
    obtain⟨rfl,jc⟩:=i9
    obtain⟨rfl,jd⟩:=ja
    have co:Rd _ _ (BZ.fnr prog (λS h vs (x:(List Int))=>∃w0:Value,vs=[w0]∧Sl S h AJ w0 x) (λS h v (y:((List Int)×(List Int)))=>∃w0 w1:Value,v= .tuple #[w0,w1]∧Sl S h AJ w0 y.1∧Sl S h AJ w1 y.2)) jb (λx=>A3 N bi x):=co
    refine AF 1 ?_
    obtain⟨fv,fw,rfl,j0,j1⟩:=co.fnr
    exact Iz (cs:=[vI k.Aq,vI k.N,vI (-2),(.func (.func fv) #[] fw)]) PJ O O O (AO (BK.mk (x:=(⟨k.Aq,k.N,(-2),(λx=>A3 N bi x)⟩:AK)) jc jd (iq (n:=(-2)) O) co))
   exact trivial
  intro lp dj lq je lr jf jg dk
  have fx:=SN.st aq dj
  cases je
  obtain⟨rfl,jh⟩:=jf
  have dk:Rd _ _ BK jg (⟨k.Aq,k.N,(-2),(λx=>A3 N bi x)⟩:AK):=dk
  have fy:=fx.sel [4,0,3,3,3,3,0,0,1,0,0] 0 O
  have ak:=cx.trans (cy.trans (b2.trans (bl.trans (cz.trans (bb.trans (br.trans (df.trans (dh.trans (SN.ext aq.1 dj)))))))))
  obtain⟨ls,f0,E⟩:=bd E
  refine Dj O O O ZZ O (J6 (p0_w:=(⟨p0_w.b,p0_w.in_,(⟨p0_w.s.D,ch,cl,p0_w.s.M,p0_w.s.P,p0_w.s.S,ci⟩:A7),cj,p0_w.peaks,ck⟩:AX)) fy ao (dl.mono' ak) ap (dm.mono' ak) (dn.mono' ak) (dp.mono' ak) (dq.mono' ak) (dr.mono' ak) (ds.mono' ak) (dt.mono' ak) am (du.mono' ak) (dv.mono' ak) (dw.mono' ak) (dx.mono' ak) (dy.mono' ak) an jh dk f0) λlt lu lv ji p=>?_
  obtain⟨lw,lx,ly,lz,rfl,f1⟩:=p
  refine AZ Py (WF.nil (λaa ww hf hw=>?_))
  have f2:=f1.drop (.tail (.tail (.tail (.tail (.tail (.tail (.tail (.tail (.tail (.tail .head))))))))))
  cases E
  exact K5 hf O hw K4 O (e9.trans (av.trans (aw.trans (cx.trans (cy.trans (b2.trans (bl.trans (cz.trans (bb.trans (br.trans (df.trans (dh.trans ((SN.ext aq.1 dj).trans ji))))))))))))) ⟨_,_,_,_,_,O,f2⟩
 refine AS (WF.nil (λaa ww hf hw=>?_))
 have f3:=aq.sel [4,0,3,3,3,3,0,0,1,0] 1 O
 cases E
 exact K5 hf O hw K4 O (e9.trans (av.trans (aw.trans (cx.trans (cy.trans (b2.trans (bl.trans (cz.trans (bb.trans (br.trans (df.trans dh))))))))))) ⟨_,_,_,_,_,O,f3⟩
def Kj (hs:St S L h) {bl:Value}{c:AU}(d4:Rd S h C2 bl c) {bm:Value}{c4:A7}(d5:Rd S h DE bm c4) {a8:Value}{d:DO}(df:Rd S h G0 a8 d) {r:A7×(List BB)×(List Int)}(E:Gr N c c4 d=some r):
 DK prog 11 #[bl,bm,a8] S h (λv S' h'=>∃i2 i3 i4:Value,v= .tuple #[i2,i3,i4]∧Rd S' h' DE i2 r.1∧St S' (OS CJ 50 i3 r.2.1::OS AJ 3 i4 r.2.2::L) h'):=by
 refine B0 (l:=[bl,bm,a8]) 53 func11 O ntmps11 O λB=>?_
 rw[Gr] at E
 refine WF.sl (C3 O d4 (λe=>by cases e) O hs λq1 S2 h3 la e5 k6=>C3 O (d5.mono e5) (λe=>by cases e) O la λq8 S9 qa i5 dg lb=>C3 O (df.mono (e5.trans dg)) (λe=>by cases e) O i5 λlc a5 qb i6 dh le=>Di N7 O i6 λdi cr k de=>AF 2 (A0 O (A0 O (AD (AZ (kp [6,5,4,3] O) (AE ?_))))))
 obtain⟨g,i7,E⟩:=bd E
 obtain⟨i8,E⟩:=LO E
 refine TT (m:=[(6,vP di 0),(5,lc),(4,q8),(3,q1)]) [10] [] [(8,[0,1,3,7])] (by kernel_rfl) (λgv X F i v hh=>match i with|0=>Rd a5 hh C2 v c|1=>Rd a5 hh G0 v d|2=>Rd a5 hh DE v c4|3=>∃w1 w2 w3 w4 w5 w6:Value,v= .agg #[vI g.D,w1,w2,w3,w4,w5,w6]∧AH g.D∧Sl (SX a5 cr hh X) hh BJ w3 g.M∧OW a5 cr X F [OO AJ 3 29 w1 g.F,OS AJ 3 w2 g.O,OS Bz 69 w4 g.P,OS AJ 3 w5 g.S,OS AJ 3 w6 g.U] hh|4=>Pt a5 hh (BZ.sl Cw) v c.A|5=>Sl a5 hh Cw v c.A|6=>v=vI (↑c.A.length:Int)∧AH (↑c.A.length:Int)|7=>OW a5 cr X F [OS AJ 3 v (List.replicate ((↑c.A.length:Int):Int).toNat (0:Int))] hh|8=>v= .agg ((gv 0).cells.toList++(gv 1).cells.toList++(gv 3).cells.toList++[(vN:Value)]++[gv 7]++[(vN:Value)]).toArray|9=>∃w0:Nat,v=vP w0 0∧OW a5 cr X F [Bx w0 84 [.string ByteArray.empty,vN,vI 0,vN,vN,vN,vN,vN,vN,vN,vI 0,vN,vN,vN,vN,vN,vI 0,vN,vN,vN,vN,vN,vN,vN,vN,vN]] hh|_=>False) [[],[],[],[(2,13)],[],[(4,15)],[(5,16)],[(6,17)],[(0,11),(1,12),(3,14),(7,18)],[],[]] [(0,11),(1,12),(3,14),(7,18),(8,19),(9,9)] mo (by kernel_rfl) [6,5,4,3] O (by kernel_rfl) (by kernel_rfl) (by kernel_rfl) O (kp [6,5,4,3] O) (λgv i v h1 h2 X X' F o1 o2 hF u1 u2 hr=>?_) (λgv qc X F i v h1 hz hr=>?_) ?_ ?_ ?_
 ·match i,hr with
   |0,hr|1,hr|2,hr=>exact Rd.mono hr (o2.ext λb hb=>qZ (k.1 b hb) o1.siz)
   |3,hr=>obtain⟨w1,w2,w3,w4,w5,w6,ev,k0,k3,q⟩:=hr;exact⟨w1,w2,w3,w4,w5,w6,ev,k0,Sl.mono' k3 (SX.mono k.1 o1 o2 u1 u2),OW.mono k.1 o1 o2 hF u1 u2 q⟩
   |4,hr=>exact OV.mono hr (o2.ext λb hb=>qZ (k.1 b hb) o1.siz)
   |5,hr=>exact Sl.mono' hr (o2.ext λb hb=>qZ (k.1 b hb) o1.siz)
   |6,hr|8,hr=>exact hr
   |7,hr=>exact OW.mono k.1 o1 o2 hF u1 u2 hr
   |9,hr=>obtain⟨w0,ev,q⟩:=hr;exact⟨w0,ev,OW.mono k.1 o1 o2 hF u1 u2 q⟩
   |_+10,hr=>exact hr.elim
 ·match i,hr with
   |0,hr|1,hr|2,hr|3,hr|4,hr|5,hr|6,hr|7,hr|9,hr=>exact hr
   |8,hr=>rw[hz _ rV O 0 (by decide),hz _ rV O 1 (by decide),hz _ rV O 3 (by decide),hz _ rV O 7 (by decide)] at hr;exact hr
   |_+10,hr=>exact hr.elim
 ·exact trivial
 ·refine DA.cons O O ?_ ?_
  ·intro gv X mq hh o hX
   have a3:=o.st k
   exact AF 1 (Cq Bu a3.1 O (k6.mono (dg.trans (dh.trans (de.trans (o.ext k.1))))) H2 (λe=>by cases e) O λlo i9=>AO i9)
  refine DA.cons O O ?_ ?_
  ·intro gv X mq hh o hX
   have a3:=o.st k
   exact AF 1 (Cq Bu a3.1 O (le.mono (de.trans (o.ext k.1))) Tn (λe=>by cases e) O λlp ja=>AO ja)
  refine DA.cons O O ?_ ?_
  ·intro gv X mq hh o hX
   have a3:=o.st k
   exact AF 1 (Cq Bu a3.1 O (lb.mono (dh.trans (de.trans (o.ext k.1)))) G6 (λe=>by cases e) O λlq jb=>AO jb)
  refine NY O O ?_ ?_
  ·intro gv X mq hh o hX
   have a3:=SX.fz (X:=X) k o
   intro jc a9
   obtain⟨lf,_,_,a9⟩:=a9
   have a9:=Rd.mono (S':=(SX a5 cr hh X)) a9 ⟨λb hb=>(SX.ext k.1 o hX).sub b hb,λ_ _=>rfl,qX _⟩
   have a9:Rd _ _ DE jc c4:=a9
   refine Dj O O O nK O (Pu a3 a9 i7) λlr ls lt jd p=>?_
   obtain⟨lu,lv,lw,lx,ly,lz,rfl,je,jf,g0⟩:=p
   have dj:=g0.pick (.tail (.tail (.tail (.tail (.tail .head)))))
   obtain⟨jg,g1,jh,ji,jj⟩:=OW.done k.1 o hX jd dj
   exact Dt jh ⟨jg,g1,⟨_,_,_,_,_,_,O,je,Sl.mono' jf ji,jj⟩⟩
  refine DA.cons O O ?_ ?_
  ·intro gv X mq hh o hX
   have a3:=o.st k
   exact AF 1 (A8 O (k6.mono (dg.trans (dh.trans (de.trans (o.ext k.1))))) B8 D1 O λl0 jk=>AO jk)
  refine DA.cons O O ?_ ?_
  ·intro gv X mq hh o hX
   have a3:=o.st k
   intro jl b2
   obtain⟨lg,_,_,b2⟩:=b2
   have b2:Pt _ _ (BZ.sl Cw) jl c.A:=b2
   exact AF 1 (BF Bu a3.1 O b2 G7 O λl1 jm=>AO jm)
  refine DA.cons O O ?_ ?_
  ·intro gv X mq hh o hX
   have a3:=o.st k
   intro jn b3
   obtain⟨lh,_,_,b3⟩:=b3
   have b3:Sl _ _ Cw jn c.A:=b3
   exact AF 1 (BE O b3 GL O λjo=>AO ⟨O,(KY jo)⟩)
  refine NY O O ?_ ?_
  ·intro gv X mq hh o hX
   have a3:=SX.fz (X:=X) k o
   intro l2 dk
   obtain⟨li,_,_,dk⟩:=dk
   obtain⟨rfl,l3⟩:=dk
   refine Jl (r:=AJ) (zx:=0) GM O ⟨O,by unfold AH;omega⟩ O O i8 O O a3 λl4 l5 g2 jp=>?_
   have dj:=g2.pick (.tail .head)
   obtain⟨jq,g3,jr,l6,js⟩:=OW.done k.1 o hX jp dj
   exact Dt jr ⟨jq,g3,js⟩
  refine DA.cons O O ?_ ?_
  ·intro gv X mq hh o hX
   have a3:=o.st k
   intro jt b4 ju b5 l7 dl l8 dm
   obtain⟨g4,_,_,b4⟩:=b4
   have b4:Rd _ _ C2 jt c:=b4
   obtain⟨g5,_,_,b5⟩:=b5
   have b5:Rd _ _ G0 ju d:=b5
   obtain⟨g6,_,_,dl⟩:=dl
   obtain⟨l9,ma,mb,mc,md,me,rfl,mf,jv,b6⟩:=dl
   obtain⟨g7,d6,rfl,mg⟩:=OW.oolen b6 mh
   obtain⟨g8,d7,rfl,mi⟩:=OW.oslen b6 (mt mh)
   obtain⟨g9,d8,rfl,mj⟩:=jv.len
   obtain⟨ha,d9,rfl,ml⟩:=OW.oslen b6 (mt (mt mh))
   obtain⟨hc,ea,rfl,mm⟩:=OW.oslen b6 (mt (mt (mt mh)))
   obtain⟨hd,eb,rfl,mn⟩:=OW.oslen b6 (mt (mt (mt (mt mh))))
   obtain⟨he,_,_,dm⟩:=dm
   obtain⟨hg,ec,rfl,mp⟩:=OW.oslen dm mh
   refine AF 1 ?_
   obtain⟨mr,ms,mu,mv,mw,mx,my,mz,rfl,m0,jw,m1,jx,jy,jz,j0,j1,j2,j3,m2⟩:=C2.ex b4
   obtain⟨m3,m4,m5,m6,m7,rfl,j4,j5,j6,j7,j8⟩:=G0.ex b5
   obtain⟨hi,ed,rfl,m8⟩:=(jw).len
   obtain⟨hj,ee,rfl,m9⟩:=(jx).len
   obtain⟨hk,ef,rfl,na⟩:=(jy).len
   obtain⟨hl,eg,rfl,nb⟩:=(jz).len
   obtain⟨hm,eh,rfl,nc⟩:=(j0).len
   obtain⟨hn,ei,rfl,nd⟩:=(j1).len
   obtain⟨ho,ej,rfl,ne⟩:=(j2).len
   obtain⟨hp,ek,rfl,nf⟩:=(j3).len
   obtain⟨hq,el,rfl,ng⟩:=(j4).len
   obtain⟨ht,em,rfl,nh⟩:=(j5).len
   obtain⟨hu,en,rfl,ni⟩:=(j6).len
   obtain⟨hv,eo,rfl,nj⟩:=(j7).len
   obtain⟨hx,ep,rfl,nk⟩:=(j8).len
   exact Iz (cs:=[.string c.H,(.slice hi c.J.length ed),vI c.T,(.slice hj c.A.length ee),(.slice hk c.E.length ef),(.slice hl c.Am.length eg),(.slice hm c.Au.length eh),(.slice hn c.Av.length ei),(.slice ho c.Ay.length ej),(.slice hp c.Ax.length ek),vI c.V,(.slice hq d.X.length el),(.slice ht d.Ap.length em),(.slice hu d.At.length en),(.slice hv d.Ad.length eo),(.slice hx d.Ba.length ep),vI g.D,(.slice g7 g.F.length d6),(.slice g8 g.O.length d7),(.slice g9 g.M.length d8),(.slice ha g.P.length d9),(.slice hc g.S.length ea),(.slice hd g.U.length eb),vN,(.slice hg (List.replicate ((↑c.A.length:Int):Int).toNat (0:Int)).length ec),vN]) jT O O O (AO (by rw[←g4,←g5,←g6,←he];rfl))
  refine NY O O ?_ ?_
  ·intro gv X mq hh o hX
   have a3:=SX.fz (X:=X) k o
   refine Di jE O a3 λnl nm hy j9=>?_
   have dj:=hy.pick (.tail .head)
   obtain⟨ka,h0,kb,nn,kc⟩:=OW.done k.1 o hX j9 dj
   exact Dt kb ⟨ka,h0,⟨_,O,kc⟩⟩
  exact DA.skip (by kernel_rfl) (trivial)
 intro er dn lj b7 ba ct kd bb ke bc no dp np dq es dr nq ds
 obtain⟨h4,bb⟩:=bb
 obtain⟨h5,bc⟩:=bc
 obtain⟨h6,dp⟩:=dp
 obtain⟨h7,dq⟩:=dq
 obtain⟨ll,dr⟩:=dr
 obtain⟨lm,ds⟩:=ds
 obtain⟨nr,ns,nt,nu,nv,nw,rfl,b8,et,kf⟩:=dp
 obtain⟨b9,rfl,kg⟩:=ds
 have am:=(Vh.cons (Vh.cons (Vh.cons (Vh.nil k b7 ba) ct (j:=3) O kf) ct (j:=7) O dq) ct (j:=9) O kg).st
 simp only[rW,rQ] at am
 have bb:=Rd.mono (S':=(SX a5 cr er (UX dn))) bb ⟨λb hb=>(SX.ext k.1 b7 (Z2 ba)).sub b hb,λ_ _=>rfl,qX _⟩
 have bb:Rd _ _ C2 kd c:=bb
 have bc:=Rd.mono (S':=(SX a5 cr er (UX dn))) bc ⟨λb hb=>(SX.ext k.1 b7 (Z2 ba)).sub b hb,λ_ _=>rfl,qX _⟩
 have bc:Rd _ _ G0 ke d:=bc
 obtain⟨nx,ny,nz,n0,n2,n3,n4,n5,rfl,ca,eu,cb,ew,ey,ez,e0,e1,e2,e3,cc⟩:=C2.ex bb
 obtain⟨an,K,rfl,n6⟩:=(eu).len
 obtain⟨ao,Q,rfl,n7⟩:=(ew).len
 obtain⟨ap,W,rfl,n8⟩:=(ey).len
 obtain⟨aq,Y,rfl,n9⟩:=(ez).len
 obtain⟨ar,Z,rfl,oa⟩:=(e0).len
 obtain⟨au,ab,rfl,ob⟩:=(e1).len
 obtain⟨av,ac,rfl,oc⟩:=(e2).len
 obtain⟨aw,ad,rfl,od⟩:=(e3).len
 obtain⟨oe,og,oh,oi,oj,rfl,e4,e6,e7,e8,e9⟩:=G0.ex bc
 obtain⟨ax,ae,rfl,ok⟩:=(e4).len
 obtain⟨ay,af,rfl,ol⟩:=(e6).len
 obtain⟨az,ag,rfl,om⟩:=(e7).len
 obtain⟨a0,ah,rfl,oo⟩:=(e8).len
 obtain⟨a1,ai,rfl,op⟩:=(e9).len
 obtain⟨cu,bn,rfl,oq⟩:=am.oolen (mt (mt mh))
 obtain⟨bo,a6,rfl,os⟩:=am.oslen (mt (mt (mt mh)))
 obtain⟨cv,bp,rfl,ot⟩:=(et).len
 obtain⟨cw,bq,rfl,ou⟩:=am.oslen (mt (mt (mt (mt mh))))
 obtain⟨cx,br,rfl,ov⟩:=am.oslen (mt (mt (mt (mt (mt mh)))))
 obtain⟨bs,a7,rfl,ox⟩:=am.oslen (mt (mt (mt (mt (mt (mt mh))))))
 obtain⟨cy,bt,rfl,oy⟩:=am.oslen (mt mh)
 obtain rfl:Value.agg #[.string c.H,(.slice an c.J.length K),vI c.T,(.slice ao c.A.length Q),(.slice ap c.E.length W),(.slice aq c.Am.length Y),(.slice ar c.Au.length Z),(.slice au c.Av.length ab),(.slice av c.Ay.length ac),(.slice aw c.Ax.length ad),vI c.V,(.slice ax d.X.length ae),(.slice ay d.Ap.length af),(.slice az d.At.length ag),(.slice a0 d.Ad.length ah),(.slice a1 d.Ba.length ai),vI g.D,(.slice cu g.F.length bn),(.slice bo g.O.length a6),(.slice cv g.M.length bp),(.slice cw g.P.length bq),(.slice cx g.S.length br),(.slice bs g.U.length a7),vN,(.slice cy (List.replicate ((↑c.A.length:Int):Int).toNat (0:Int)).length bt),vN]=es:=((by rw[dr,←h4,←h5,←h6,←h7];rfl:es=Value.agg #[.string c.H,(.slice an c.J.length K),vI c.T,(.slice ao c.A.length Q),(.slice ap c.E.length W),(.slice aq c.Am.length Y),(.slice ar c.Au.length Z),(.slice au c.Av.length ab),(.slice av c.Ay.length ac),(.slice aw c.Ax.length ad),vI c.V,(.slice ax d.X.length ae),(.slice ay d.Ap.length af),(.slice az d.At.length ag),(.slice a0 d.Ad.length ah),(.slice a1 d.Ba.length ai),vI g.D,(.slice cu g.F.length bn),(.slice bo g.O.length a6),(.slice cv g.M.length bp),(.slice cw g.P.length bq),(.slice cx g.S.length br),(.slice bs g.U.length a7),vN,(.slice cy (List.replicate ((↑c.A.length:Int):Int).toNat (0:Int)).length bt),vN])).symm
 refine Ek (vs:=[.string c.H,(.slice an c.J.length K),vI c.T,(.slice ao c.A.length Q),(.slice ap c.E.length W),(.slice aq c.Am.length Y),(.slice ar c.Au.length Z),(.slice au c.Av.length ab),(.slice av c.Ay.length ac),(.slice aw c.Ax.length ad),vI c.V,(.slice ax d.X.length ae),(.slice ay d.Ap.length af),(.slice az d.At.length ag),(.slice a0 d.Ad.length ah),(.slice a1 d.Ba.length ai),vI g.D,(.slice cu g.F.length bn),(.slice bo g.O.length a6),(.slice cv g.M.length bp),(.slice cw g.P.length bq),(.slice cx g.S.length br),(.slice bs g.U.length a7),vN,(.slice cy (List.replicate ((↑c.A.length:Int):Int).toNat (0:Int)).length bt),vN]) O O O O jP O am .head O λoz h8 u=>AZ (kp [9,6,3] O) (WF.sl ?_)
 have h9:=h8.nil CJ 50
 have ia:=h9.nil BJ 60
 have ib:=ia.sel [2,3,3,3,3,3,1,1,0,0] 0 O
 have fb:=eu.mono' u
 have fc:=ew.mono' u
 have fd:=ey.mono' u
 have fe:=ez.mono' u
 have ff:=e0.mono' u
 have fg:=e1.mono' u
 have fh:=e2.mono' u
 have fi:=e3.mono' u
 have fj:=e4.mono' u
 have fk:=e6.mono' u
 have fl:=e7.mono' u
 have fm:=e8.mono' u
 have fn:=e9.mono' u
 have fo:=et.mono' u
 obtain⟨dt,ic,E⟩:=bd E
 refine Dj O O O nJ O (Nz (p0_w:=(⟨c,d,g,([]:List BB),(List.replicate ((↑c.A.length:Int):Int).toNat (0:Int)),([]:List BD)⟩:AX)) ib ca fb cb fc fd fe ff fg fh fi cc fj fk fl fm fn b8 fo ic) λo0 o3 o4 y p=>?_
 obtain⟨o5,rfl,id⟩:=p
 refine AZ (kp [9,6,3] O) (WF.sl ?_)
 have fp:=fb.mono' y
 have fq:=fc.mono' y
 have fr:=fd.mono' y
 have fs:=fe.mono' y
 have ft:=ff.mono' y
 have fu:=fg.mono' y
 have fv:=fh.mono' y
 have fw:=fi.mono' y
 have fx:=fj.mono' y
 have fy:=fk.mono' y
 have f0:=fl.mono' y
 have f1:=fm.mono' y
 have f2:=fn.mono' y
 have f3:=fo.mono' y
 obtain⟨kh,ie,E⟩:=bd E
 refine Dj O O O nI O (Ny (p0_w:=(⟨c,d,({ g with P:=dt}:A7),([]:List BB),(List.replicate ((↑c.A.length:Int):Int).toNat (0:Int)),([]:List BD)⟩:AX)) id ca fp cb fq fr fs ft fu fv fw cc fx fy f0 f1 f2 b8 f3 ie) λo6 o7 o8 z p=>?_
 obtain⟨o9,rfl,ig⟩:=p
 refine AZ (kp [9,6,3] O) (WF.sl ?_)
 have f4:=fp.mono' z
 have f5:=fq.mono' z
 have f6:=fr.mono' z
 have f7:=fs.mono' z
 have f8:=ft.mono' z
 have f9:=fu.mono' z
 have ga:=fv.mono' z
 have gb:=fw.mono' z
 have gc:=fx.mono' z
 have gd:=fy.mono' z
 have ge:=f0.mono' z
 have gf:=f1.mono' z
 have gg:=f2.mono' z
 have gh:=f3.mono' z
 obtain⟨aj,ih,E⟩:=bd E
 refine Dj O O O nH O (OH (p0_w:=(⟨c,d,(⟨g.D,kh,g.O,g.M,dt,g.S,g.U⟩:A7),([]:List BB),(List.replicate ((↑c.A.length:Int):Int).toNat (0:Int)),([]:List BD)⟩:AX)) ig ca f4 cb f5 f6 f7 f8 f9 ga gb cc gc gd ge gf gg b8 gh ih) λpa pb pc C p=>?_
 obtain⟨pd,bh,ki,rfl,ii⟩:=p
 refine AZ (kp [9,6,3] O) (WF.sl ?_)
 have gi:=f4.mono' C
 have gj:=f5.mono' C
 have gl:=f6.mono' C
 have gm:=f7.mono' C
 have gn:=f8.mono' C
 have gp:=f9.mono' C
 have gq:=ga.mono' C
 have gr:=gb.mono' C
 have gs:=gc.mono' C
 have gu:=gd.mono' C
 have gw:=ge.mono' C
 have gx:=gf.mono' C
 have gy:=gg.mono' C
 obtain⟨s,ij,E⟩:=bd E
 refine Dj O O O nG O (Ma (p0_w:=(⟨c,d,(⟨g.D,aj.1,g.O,g.M,dt,aj.2.1,g.U⟩:A7),aj.2.2,(List.replicate ((↑c.A.length:Int):Int).toNat (0:Int)),([]:List BD)⟩:AX)) ii ca gi cb gj gl gm gn gp gq gr cc gs gu gw gx gy b8 (gh.mono' C) ij) λpe du dv G p=>?_
 obtain⟨kj,c5,bi,bj,rfl,dw⟩:=p
 refine AZ (kp [9,6,3] O) (AE (AI (A8 O (k6.mono (dg.trans (dh.trans (de.trans ((SX.ext k.1 b7 (Z2 ba)).trans (u.trans (y.trans (z.trans (C.trans G))))))))) B8 D1 O λpf kk=>BF Bu dw.1 O kk G7 O λpg kl=>BE O kl GL O λph=>AA O (AN (kp [27,26,9,6] O) (BH (λa w=>∃(cd:Value) (be:List (List Int)) (ce:Value) (bf:List Int) (cf:Value) (bg:List Int) (cg:Value) (ch:List BB) (ci:Value) (ak:List BD),IV B du dv (53,[]) a w [(9,vP b9 0),(6,vP di 0)] (OS (BZ.sl AJ) 29 cd be::OS AJ 3 ce bf::OS AJ 3 cf bg::OS CJ 50 cg ch::OS BJ 60 ci ak::Bx b9 84 [.string c.H,(.slice an c.J.length K),vI c.T,(.slice ao c.A.length Q),(.slice ap c.E.length W),(.slice aq c.Am.length Y),(.slice ar c.Au.length Z),(.slice au c.Av.length ab),(.slice av c.Ay.length ac),(.slice aw c.Ax.length ad),vI c.V,(.slice ax d.X.length ae),(.slice ay d.Ap.length af),(.slice az d.At.length ag),(.slice a0 d.Ad.length ah),(.slice a1 d.Ba.length ai),vI g.D,cd,ce,c5,bi,bh,cf,cg,bj,ci]::OS BJ 60 c5 s.2.1::OS Bz 69 bi s.2.2.1::OS AJ 3 bh aj.2.1::OS AJ 3 bj s.2.2.2::Bx di 36 [vI 0,vN,vN,vN,vN,vN,vN]::L) λ_ _=>DT N g aj s be bf bg ch ak=some r) ?_ ?_)))))
 ·refine BV (λn1=>λa w=>∃(cj:Int) (c6:Value) (ck:List (List Int)) (c7:Value) (cl:List Int) (c8:Value) (cm:List Int) (c9:Value) (cn:List BB) (da:Value) (co:List BD),IV B du dv (53,[]) a w [(26,vI (↑c.A.length:Int)),(9,vP b9 0),(6,vP di 0),(27,vI cj)] (OS (BZ.sl AJ) 29 c6 ck::OS AJ 3 c7 cl::OS AJ 3 c8 cm::OS CJ 50 c9 cn::OS BJ 60 da co::Bx b9 84 [.string c.H,(.slice an c.J.length K),vI c.T,(.slice ao c.A.length Q),(.slice ap c.E.length W),(.slice aq c.Am.length Y),(.slice ar c.Au.length Z),(.slice au c.Av.length ab),(.slice av c.Ay.length ac),(.slice aw c.Ax.length ad),vI c.V,(.slice ax d.X.length ae),(.slice ay d.Ap.length af),(.slice az d.At.length ag),(.slice a0 d.Ad.length ah),(.slice a1 d.Ba.length ai),vI g.D,c6,c7,c5,bi,bh,c8,c9,bj,da]::OS BJ 60 c5 s.2.1::OS Bz 69 bi s.2.2.1::OS AJ 3 bh aj.2.1::OS AJ 3 bj s.2.2.2::Bx di 36 [vI 0,vN,vN,vN,vN,vN,vN]::L) λ_ _=>AH cj∧DM N c d g aj s (DT N g aj s) n1 cj ck cl cm cn co=some r) N ?_ ?_ ?_
  ·intro aa ww hf hw
   have ik:=dw.sel [1,1,4,4,5,0,0,0,0,0,0] 0 O
   exact⟨0,kj,s.1,(.slice bo g.O.length a6),g.O,(.slice bs g.U.length a7),g.U,ki,aj.2.2,((vN)),([]:List BD),_,_,hf.sub (kp [26,9,6,27] O),hw,ik,(C9.refl du dv),(iq (n:=0) O),E⟩
  ·rintro aa ww ⟨_,_,_,_,_,_,_,_,_,_,_,_,_,_,_,_,_,_,E⟩
   rw[DM] at E;cases E
  rintro n1 aa ww ⟨cj,c6,ck,c7,cl,c8,cm,c9,cn,da,co,pi,pj,hf,hw,dx,I,km,E⟩
  refine A6 ?_ hf hw
  clear hf hw ww aa
  rw[DM] at E
  refine AI (BI O (AN (kp [28,26,9,6,27] O) (AE (AY O E (λkn E=>?_) (λkn E=>?_)))))
  ·refine AS (AE (BY (AI (AA O (AM O (kp [10,26,9,6,27] O) (FG (AF 1 (AA O (AD ?_)))))))))
   have il:=dx.sel [5,0,0,3,3,3,0,0,1,0,0] 0 O
   obtain⟨cp,im,E⟩:=bd E
   refine Dj O O O nF O (N0 (p0_w:=(⟨c,d,(⟨g.D,ck,cl,s.2.1,s.2.2.1,aj.2.1,cm⟩:A7),cn,s.2.2.2,co⟩:AX)) il ca (gi.mono' (G.trans I)) cb (gj.mono' (G.trans I)) (gl.mono' (G.trans I)) (gm.mono' (G.trans I)) (gn.mono' (G.trans I)) (gp.mono' (G.trans I)) (gq.mono' (G.trans I)) (gr.mono' (G.trans I)) cc (gs.mono' (G.trans I)) (gu.mono' (G.trans I)) (gw.mono' (G.trans I)) (gx.mono' (G.trans I)) (gy.mono' (G.trans I)) b8 km im) λpk pl pm ko p=>?_
   obtain⟨kq,kr,ks,kt,ku,rfl,io⟩:=p
   refine AZ (kp [26,9,6,27] O) (B7 (CL (.inl O) (A9 O (AA O (AN (kp [27,26,9,6] O) (WF.nil (λaa ww hf hw=>?_)))))))
   have ip:=io.sel [1,1,4,4,5,0,0,0,0,0,0] 0 O
   exact⟨(Bw (cj+1)),kq,cp.1,kr,cp.2.1,ks,cp.2.2.1,kt,cp.2.2.2.1,ku,cp.2.2.2.2,_,_,hf.sub (kp [26,9,6,27] O),hw,ip,(I.trans ko),(B5 _),E⟩
  refine By O (λaa ww hf hw=>?_)
  exact⟨c6,ck,c7,cl,c8,cm,c9,cn,da,co,_,_,hf.sub (kp [9,6] O),hw,dx,I,E⟩
 rintro aa ww ⟨cd,be,ce,bf,cf,bg,cg,ch,ci,ak,pn,po,hf,hw,bu,kv,E⟩
 refine A6 ?_ hf hw
 clear hf hw ww aa
 rw[DT] at E
 refine WF.sl (AF 5 (AG DZ O (AG Km O (AT Bu bu O (mt (mt (mt (mt (mt mh))))) O MD O (AG S7 O (AT Bu bu O (mt (mt (mt (mt (mt mh))))) O MD O (AD ?_)))))))
 obtain⟨ir,E⟩:=LO E
 refine J3 (r:=BJ) (l:=s.2.1) (xs:=ak) O O SE O (St.src bu (mt (mt (mt (mt mh))))) O ir O bu (λ_=>(.tail (.tail (.tail (.tail (.tail (.tail .head))))))) λpp pq dy kw=>AF 2 (AG DZ O (AG Km O (AD ?_)))
 obtain⟨a4,a2,rfl,pr⟩:=dy.oslen (mt (mt (mt (mt (mt (mt mh))))))
 refine Iq (vs:=[(.slice a4 (s.2.1++ak).length a2)]) (cs':=[.string c.H,(.slice an c.J.length K),vI c.T,(.slice ao c.A.length Q),(.slice ap c.E.length W),(.slice aq c.Am.length Y),(.slice ar c.Au.length Z),(.slice au c.Av.length ab),(.slice av c.Ay.length ac),(.slice aw c.Ax.length ad),vI c.V,(.slice ax d.X.length ae),(.slice ay d.Ap.length af),(.slice az d.At.length ag),(.slice a0 d.Ad.length ah),(.slice a1 d.Ba.length ai),vI g.D,cd,ce,(.slice a4 (s.2.1++ak).length a2),bi,bh,cf,cg,bj,ci]) O O O O MD O dy (.tail (.tail (.tail (.tail (.tail .head))))) O O λps dz kx=>AZ (kp [9,6] O) (WF.sl (AF 6 (AG DZ O (AG Jc O (AT Bu dz O (mt (mt (mt (mt (mt mh))))) O BA O (A9 O (AG DZ O (AG Jc O (AD (Iq (vs:=[vI (Bw (g.D+1))]) (cs':=[.string c.H,(.slice an c.J.length K),vI c.T,(.slice ao c.A.length Q),(.slice ap c.E.length W),(.slice aq c.Am.length Y),(.slice ar c.Au.length Z),(.slice au c.Av.length ab),(.slice av c.Ay.length ac),(.slice aw c.Ax.length ad),vI c.V,(.slice ax d.X.length ae),(.slice ay d.Ap.length af),(.slice az d.At.length ag),(.slice a0 d.Ad.length ah),(.slice a1 d.Ba.length ai),vI (Bw (g.D+1)),cd,ce,(.slice a4 (s.2.1++ak).length a2),bi,bh,cf,cg,bj,ci]) O O O O BA O dz (.tail (.tail (.tail (.tail (.tail .head))))) O O λpu t ky=>AZ (kp [9,6] O) (AE ?_)))))))))))
 obtain⟨cz,bv,rfl,pv⟩:=t.oslen mh
 obtain⟨c0,bw,rfl,pw⟩:=t.oslen (mt mh)
 obtain⟨c1,bx,rfl,px⟩:=t.oslen (mt (mt (mt (mt (mt (mt (mt mh)))))))
 obtain⟨c2,bz,rfl,py⟩:=t.oslen (mt (mt (mt (mt (mt (mt (mt (mt mh))))))))
 obtain⟨c3,b0,rfl,pz⟩:=t.oslen (mt (mt mh))
 obtain⟨d0,db,rfl,p0⟩:=t.oslen (mt (mt (mt mh)))
 obtain⟨d1,dc,rfl,p1⟩:=t.oslen (mt (mt (mt (mt (mt (mt (mt (mt (mt mh)))))))))
 obtain⟨it,eq,rfl,p2⟩:=t.oslen (mt (mt (mt (mt mh))))
 refine eA (λw=>w.heap[b9]? =some (.cells ([.string c.H,(.slice an c.J.length K),vI c.T,(.slice ao c.A.length Q),(.slice ap c.E.length W),(.slice aq c.Am.length Y),(.slice ar c.Au.length Z),(.slice au c.Av.length ab),(.slice av c.Ay.length ac),(.slice aw c.Ax.length ad),vI c.V,(.slice ax d.X.length ae),(.slice ay d.Ap.length af),(.slice az d.At.length ag),(.slice a0 d.Ad.length ah),(.slice a1 d.Ba.length ai),vI (Bw (g.D+1)),(.slice cz be.length bv),(.slice c0 bf.length bw),(.slice a4 (s.2.1++ak).length a2),(.slice c1 s.2.2.1.length bx),(.slice c2 aj.2.1.length bz),(.slice c3 bg.length b0),(.slice d0 ch.length db),(.slice d1 s.2.2.2.length dc),(.slice it ak.length eq)]:List Value).toArray 84 (0,0))) mo (Vf 0 O (by kernel_rfl) (λw hw=>t.bxW (mt (mt (mt (mt (mt mh))))) hw) O DZ O (RH 1 (vs:=[vI (Bw (g.D+1)),(.slice cz be.length bv),(.slice c0 bf.length bw),(.slice a4 (s.2.1++ak).length a2),(.slice c1 s.2.2.1.length bx),(.slice c2 aj.2.1.length bz),(.slice c3 bg.length b0)]) O (by kernel_rfl) (λw hw=>t.bxW (mt (mt (mt (mt (mt mh))))) hw) O (λw hw=>hw) O O G6 O O (Vf 2 O (by kernel_rfl) (λw hw=>t.bxW (mt (mt (mt (mt (mt mh))))) hw) O Ou O (RH 3 (vs:=[(.slice d0 ch.length db)]) O (by kernel_rfl) (λw hw=>t.bxW (mt (mt (mt (mt (mt mh))))) hw) O (λw hw=>hw) O O Tm O O (Vf 4 O (by kernel_rfl) (λw hw=>t.bxW (mt (mt (mt (mt (mt mh))))) hw) O Kk O (RH 5 (vs:=[(.slice d1 s.2.2.2.length dc)]) O (by kernel_rfl) (λw hw=>t.bxW (mt (mt (mt (mt (mt mh))))) hw) O (λw hw=>hw) O O CH O O (cI 6 O O (by kernel_rfl) (Ek (vs:=[vI (Bw (g.D+1)),(.slice cz be.length bv),(.slice c0 bf.length bw),(.slice a4 (s.2.1++ak).length a2),(.slice c1 s.2.2.1.length bx),(.slice c2 aj.2.1.length bz),(.slice c3 bg.length b0)]) O O O O G6 O t (.tail (.tail (.tail (.tail (.tail (.tail (.tail (.tail (.tail (.tail .head)))))))))) O λp3 b1 kz=>Wz (λw hw=>b1.bxW (mt (mt (mt (mt (mt mh))))) hw) (Zt 7 O (by kernel_rfl) (λw hw=>b1.bxW (mt (mt (mt (mt (mt mh))))) hw) O O (Zt 8 O (by kernel_rfl) (λw hw=>b1.bxW (mt (mt (mt (mt (mt mh))))) hw) O O (W0 (by kernel_rfl) (kp [8,7,6] O) (A5 (λaa ww hf hw=>?_)))))))))))))
 obtain⟨p4,iu,k1,k2⟩:=b1.pubs .head
 obtain⟨p5,iv,gz,k4⟩:=iu.pubs .head
 obtain⟨p6,iw,d2,k5⟩:=iv.pubs (.tail (.tail (.tail (.tail .head))))
 obtain⟨p7,iy,dd,k7⟩:=iw.pubs (.tail (.tail (.tail (.tail .head))))
 obtain⟨p8,iz,cq,k8⟩:=iy.pubs (.tail (.tail (.tail (.tail .head))))
 obtain⟨p9,i0,bk,k9⟩:=iz.pubs .head
 have d3:=i0.sel [0,2,2] 2 O
 have i1:=d3.drop (.tail (.tail .head))
 cases E
 exact K5 hf O hw (JD (Zw hf hw d3 O (mt (mt mh)) G6 O) (JD (Jm hf (v:=_) O) (JD (Jm hf (v:=_) O) K4))) O (e5.trans (dg.trans (dh.trans (de.trans ((SX.ext k.1 b7 (Z2 ba)).trans (u.trans (y.trans (z.trans (C.trans (G.trans (kv.trans (kw.trans (kx.trans (ky.trans (kz.trans (k1.trans (gz.trans (d2.trans (dd.trans (cq.trans bk)))))))))))))))))))) ⟨_,_,_,O,(DE.mk (x:=(⟨(Bw (g.D+1)),be,bf,(s.2.1++ak),s.2.2.1,aj.2.1,bg⟩:A7)) (B5 _) (k2.mono' (gz.trans (d2.trans (dd.trans (cq.trans bk))))) (k4.mono' (d2.trans (dd.trans (cq.trans bk)))) (k5.mono' (dd.trans (cq.trans bk))) (k7.mono' (cq.trans bk)) (k8.mono' bk) k9),i1⟩
end Go.Proofs.YtblcgjadhemlbaaGreat
