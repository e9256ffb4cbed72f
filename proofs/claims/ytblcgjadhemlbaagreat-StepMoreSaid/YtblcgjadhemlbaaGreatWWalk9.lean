import Derived.Test.YtblcgjadhemlbaaGreatWWalk8
namespace Go.Proofs.YtblcgjadhemlbaaGreat
set_option linter.all false
open Go.RowKit
open Go.Proofs.Tryz
set_option maxRecDepth 10000
set_option maxHeartbeats 2000000
variable {N:Nat}{S:Nat→Prop}{L:List HP}{h:BM}
def Px (hs:St S L h) {d:Value}{p:BL}(n:Rd S h Ct d p) {g:Value}{b:BG}(o:Rd S h Bz g b) {i:Int}(X:AH i) {r:BG}(E:HB N p b i=some r):
 DK prog 23 #[d,g,vI i] S h (λv S' h'=>v= .agg #[vI r.W,vI r.Z,.bool r.Az,.bool r.Ao]∧BG.ok r∧St S' (L) h'):=by
 refine B0 (l:=[d,g,vI i]) 24 func23 O ntmps23 O λB=>?_
 rw[HB] at E
 refine WF.sl (C3 O n (λe=>by cases e) O hs λq1 S2 h3 Y e5 k6=>?_)
 obtain⟨rfl,⟨r9,D⟩⟩:=Bz.ex (o.mono e5)
 refine RE O O O Y λF an G x=>Di Tj O G λH I c y=>AZ (kp [6,4,3,2] O) (AE (AI ?_))
 have z:=k6.mono (x.trans y)
 refine A8 O z BL.f_Kind HA O λao ab=>BC Bu c.1 O ab BA O λap=>Cg O (AN (kp [9,6,4,3,2] O) (AY O E (λac E=>?_) (λac E=>?_)))
 ·refine WF.sl (AF 1 (ES (vs:=[vI b.W,vI b.Z,.bool b.Az,.bool b.Ao]) Bu c O (mt mh) O O H1 O O (AD (Ek (vs:=[vI b.W,vI b.Z,.bool b.Az,.bool b.Ao]) O O O O H1 O c .head O λaq J ad=>AZ (kp [6] O) (A5 (λA C j k=>?_))))))
  have s:=J.drop (.tail .head)
  have K:=s.drop .head
  cases E
  exact K5 j O k (JD (Zw j k s O mh H1 O) K4) O (e5.trans (x.trans (y.trans ad))) ⟨O,⟨r9,D⟩,K⟩
 refine AS (AE (BH (λa w=>∃(m:Bool),IV B S2 I (24,[]) a w [(6,vP H 0),(4,vP F 0)] (Bx H 69 [vI 0,vI 0,.bool false,.bool false]::Bx F 69 [vI b.W,vI b.Z,.bool b.Az,.bool m]::L) λ_ _=>Il N b m=some r) ?_ ?_))
 ·refine AI (AA O (A8 O z Kr Oz O λar ae=>BC Bu c.1 O ae BA O λau=>HY O (AM O (kp [11,6,4,3,2] O) (AY O E (λaf E=>?_) (λaf E=>?_)))))
  ·refine FG (AF 1 (AG Ov O (AD (Iq (vs:=[.bool true]) (cs':=[vI b.W,vI b.Z,.bool b.Az,.bool true]) O O O O Pr O c (.tail .head) O O λav M ag=>AZ (kp [6,4] O) (WF.nil (λA C j k=>?_))))))
   exact⟨true,_,_,j.sub (kp [6,4] O),k,M,ag,E⟩
  refine AI (AA O (A8 O z Ks Oy O λaw ah=>BC Bu c.1 O ah BA O λax=>HX O (AM O (kp [17,6,4] O) (AY O E (λai E=>?_) (λai E=>?_)))))
  ·refine FG (AF 1 (AG Ov O (AD (Iq (vs:=[.bool false]) (cs':=[vI b.W,vI b.Z,.bool b.Az,.bool false]) O O O O Pr O c (.tail .head) O O λay Q aj=>AZ (kp [6,4] O) (WF.nil (λA C j k=>?_))))))
   exact⟨false,_,_,j.sub (kp [6,4] O),k,Q,aj,E⟩
  refine AS (WF.nil (λA C j k=>?_))
  exact⟨b.Ao,_,_,j.sub (kp [6,4] O),k,c,(C9.refl S2 I),E⟩
 rintro A C ⟨m,az,a0,j,k,t,ak,E⟩
 refine A6 ?_ j k
 clear j k C A
 rw[Il] at E
 refine WF.sl (AF 1 (ES (vs:=[vI b.W,vI b.Z,.bool b.Az,.bool m]) Bu t O (mt mh) O O H1 O O (AD (Ek (vs:=[vI b.W,vI b.Z,.bool b.Az,.bool m]) O O O O H1 O t .head O λa1 U am=>AZ (kp [6] O) (A5 (λA C j k=>?_))))))
 have u:=U.drop (.tail .head)
 have V:=u.drop .head
 cases E
 exact K5 j O k (JD (Zw j k u O mh H1 O) K4) O (e5.trans (x.trans (y.trans (ak.trans am)))) ⟨O,⟨r9,D⟩,V⟩
def Ma {c:Nat}{p0_w:AX}{aj:Value}{ak:Value}{ac:Value}{am:Value}{an:Value}{ao:Value}{ap:Value}{aq:Value}{ad:Value}{ae:Value}{af:Value}{ag:Value}{ah:Value}{g:Value}{t:Value}{a1:Value}{W:Value}{u:Value}{y:Value}{z:Value}{Y:Value}{K:Value}(hs:St S (Bx c 84 [.string p0_w.b.H,aj,vI p0_w.b.T,ak,ac,am,an,ao,ap,aq,vI p0_w.b.V,ad,ae,af,ag,ah,vI p0_w.s.D,g,t,a1,W,u,y,z,Y,K]::OO AJ 3 29 g p0_w.s.F::OS AJ 3 t p0_w.s.O::OS Bz 69 W p0_w.s.P::OS AJ 3 u p0_w.s.S::OS AJ 3 y p0_w.s.U::OS CJ 50 z p0_w.moves::OS AJ 3 Y p0_w.peaks::OS BJ 60 K p0_w.sent::L) h) (fg:p0_w.b.H.size≤maxLen) (br:Sl S h BZ.str aj p0_w.b.J) (fh:AH p0_w.b.T) (a4:Sl S h Cw ak p0_w.b.A) (bs:Sl S h Ct ac p0_w.b.E) (fi:Sl S h HL am p0_w.b.Am) (fj:Sl S h Fc an p0_w.b.Au) (fk:Sl S h HN ao p0_w.b.Av) (fl:Sl S h Dy ap p0_w.b.Ay) (fm:Sl S h AJ aq p0_w.b.Ax) (c7:AH p0_w.b.V) (c8:Sl S h AJ ad p0_w.in_.X) (c9:Sl S h Gc ae p0_w.in_.Ap) (da:Sl S h JX af p0_w.in_.At) (db:Sl S h Gd ag p0_w.in_.Ad) (dc:Sl S h HM ah p0_w.in_.Ba) (bf:AH p0_w.s.D) (bg:Sl S h BJ a1 p0_w.s.M) {r:(List (List Int))×(List BD)×(List BG)×(List Int)}(E:DR N p0_w=some r):
 DK prog 33 #[vP c 0] S h (λv S' h'=>∃bl bm bn bo:Value,v= .tuple #[]∧St S' (Bx c 84 [.string p0_w.b.H,aj,vI p0_w.b.T,ak,ac,am,an,ao,ap,aq,vI p0_w.b.V,ad,ae,af,ag,ah,vI p0_w.s.D,bl,t,bm,bn,u,y,z,bo,K]::OS (BZ.sl AJ) 29 bl r.1::OS AJ 3 t p0_w.s.O::OS BJ 60 bm r.2.1::OS Bz 69 bn r.2.2.1::OS AJ 3 u p0_w.s.S::OS AJ 3 y p0_w.s.U::OS CJ 50 z p0_w.moves::OS AJ 3 bo r.2.2.2::OS BJ 60 K p0_w.sent::L) h'):=by
 refine B0 (l:=[vP c 0]) 123 func33 O ntmps33 O λB=>?_
 rw[DR] at E
 have h4:=hs.pick (.tail .head)
 obtain⟨S2,Z,e4⟩:=h4.ooPub
 refine AE ?_
 obtain⟨aw,fn,E⟩:=bd E
 refine TT (m:=[(0,vP c 0)]) [] [] [(23,[22]),(24,[23]),(25,[23]),(26,[24]),(27,[25])] (by kernel_rfl) (λgv X F i v hh=>match i with|0=>v=vP c 0|1=>v=vP c 0|2=>v=vP c 16|3=>v=vP c 19|4=>Sl S2 hh BJ v p0_w.s.M|5=>v=vP c 0|6=>v=vP c 0|7=>v=vP c 16|8=>v=vP c 16|9=>v=vI p0_w.s.D∧AH p0_w.s.D|10=>v=vP c 0|11=>v=vP c 0|12=>v=vP c 0|13=>v=vP c 3|14=>Sl S2 hh Cw v p0_w.b.A|15=>v=vI (↑p0_w.b.A.length:Int)∧AH (↑p0_w.b.A.length:Int)|16=>v=vP c 0|17=>v=vP c 0|18=>v=vP c 0|19=>v=vP c 1|20=>Sl S2 hh BZ.str v p0_w.b.J|21=>v=vI (↑p0_w.b.J.length:Int)∧AH (↑p0_w.b.J.length:Int)|22=>∃w0 w1:Value,v= .tuple #[w0,w1]∧OW S2 h X F [OS (BZ.sl AJ) 29 w0 aw.1,OS BJ 60 w1 aw.2] hh|23=>v=gv 22∧∃w0 w1:Value,v= .tuple #[w0,w1]|24=>v=cT (gv 23) 0|25=>v=cT (gv 23) 1|26=>v=gv 24|27=>v=gv 25|_=>False) [[],[(0,8)],[(1,9)],[(2,10)],[(3,11)],[],[(5,13)],[(6,14)],[(7,15)],[(8,16)],[],[(10,18)],[(11,19)],[(12,20)],[(13,21)],[(14,22)],[],[(16,24)],[(17,25)],[(18,26)],[(19,27)],[(20,28)],[(4,12),(9,17),(15,23),(21,29)],[(22,30)],[(23,7)],[(23,7)],[(24,31)],[(25,32)]] [(22,30),(23,7),(24,31),(25,32),(26,2),(27,3)] mo (by kernel_rfl) [0] O (by kernel_rfl) (by kernel_rfl) (by kernel_rfl) O (kp [0] O) (λgv i v h1 h2 X X' F o1 o2 hF u1 u2 Q=>?_) (λgv la X F i v h1 hz Q=>?_) ?_ ?_ ?_
 ·match i,Q with
   |0,Q|1,Q|2,Q|3,Q|5,Q|6,Q|7,Q|8,Q|9,Q|10,Q|11,Q|12,Q|13,Q|15,Q|16,Q|17,Q|18,Q|19,Q|21,Q|23,Q|24,Q|25,Q|26,Q|27,Q=>exact Q
   |4,Q|14,Q|20,Q=>exact Sl.mono' Q (o2.ext λb hb=>qZ (Z.1 b hb) o1.siz)
   |22,Q=>obtain⟨w0,w1,ev,q⟩:=Q;exact⟨w0,w1,ev,OW.mono Z.1 o1 o2 hF u1 u2 q⟩
   |_+28,Q=>exact Q.elim
 ·match i,Q with
   |0,Q|1,Q|2,Q|3,Q|4,Q|5,Q|6,Q|7,Q|8,Q|9,Q|10,Q|11,Q|12,Q|13,Q|14,Q|15,Q|16,Q|17,Q|18,Q|19,Q|20,Q|21,Q|22,Q=>exact Q
   |23,Q=>rw[hz _ rV O 22 (by decide)] at Q;exact Q
   |24,Q=>rw[hz _ (sE _ rV) O 23 (by decide)] at Q;exact Q
   |25,Q=>rw[hz _ (sE _ (sE _ rV)) O 23 (by decide)] at Q;exact Q
   |26,Q=>rw[hz _ (sE _ (sE _ (sE _ rV))) O 24 (by decide)] at Q;exact Q
   |27,Q=>rw[hz _ (sE _ (sE _ (sE _ (sE _ rV)))) O 25 (by decide)] at Q;exact Q
   |_+28,Q=>exact Q.elim
 ·exact trivial
 ·refine DA.cons O O ?_ ?_
  ·intro gv X mq hh o hX
   have ab:=o.st Z
   exact AF 1 (AA O (AO O))
  refine DA.cons O O ?_ ?_
  ·intro gv X mq hh o hX
   have ab:=o.st Z
   intro lb dd
   obtain⟨il,_,_,dd⟩:=dd
   cases dd
   exact AF 1 (DN O O (AO O))
  refine DA.cons O O ?_ ?_
  ·intro gv X mq hh o hX
   have ab:=o.st Z
   intro lc de
   obtain⟨im,_,_,de⟩:=de
   cases de
   exact AF 1 (AG DZ O (AO O))
  refine DA.cons O O ?_ ?_
  ·intro gv X mq hh o hX
   have ab:=o.st Z
   intro le df
   obtain⟨io,_,_,df⟩:=df
   cases df
   exact AF 1 (AG Km O (AO O))
  refine DA.cons O O ?_ ?_
  ·intro gv X mq hh o hX
   have ab:=o.st Z
   intro lf dg
   obtain⟨ip,_,_,dg⟩:=dg
   cases dg
   exact AF 1 (AT Bu ab O (mt mh) O MD O (AO (bg.mono' (e4.trans (o.ext Z.1)))))
  refine DA.cons O O ?_ ?_
  ·intro gv X mq hh o hX
   have ab:=o.st Z
   exact AF 1 (AA O (AO O))
  refine DA.cons O O ?_ ?_
  ·intro gv X mq hh o hX
   have ab:=o.st Z
   intro lg dh
   obtain⟨ir,_,_,dh⟩:=dh
   cases dh
   exact AF 1 (DN O O (AO O))
  refine DA.cons O O ?_ ?_
  ·intro gv X mq hh o hX
   have ab:=o.st Z
   intro lh di
   obtain⟨it,_,_,di⟩:=di
   cases di
   exact AF 1 (AG DZ O (AO O))
  refine DA.cons O O ?_ ?_
  ·intro gv X mq hh o hX
   have ab:=o.st Z
   intro li dj
   obtain⟨iu,_,_,dj⟩:=dj
   cases dj
   exact AF 1 (AG Jc O (AO O))
  refine DA.cons O O ?_ ?_
  ·intro gv X mq hh o hX
   have ab:=o.st Z
   intro lj dk
   obtain⟨iv,_,_,dk⟩:=dk
   cases dk
   exact AF 1 (AT Bu ab O (mt mh) O BA O (AO ⟨O,bf⟩))
  refine DA.cons O O ?_ ?_
  ·intro gv X mq hh o hX
   have ab:=o.st Z
   exact AF 1 (AA O (AO O))
  refine DA.cons O O ?_ ?_
  ·intro gv X mq hh o hX
   have ab:=o.st Z
   intro ll dl
   obtain⟨iw,_,_,dl⟩:=dl
   cases dl
   exact AF 1 (DN O O (AO O))
  refine DA.cons O O ?_ ?_
  ·intro gv X mq hh o hX
   have ab:=o.st Z
   intro lm dm
   obtain⟨iy,_,_,dm⟩:=dm
   cases dm
   exact AF 1 (AG HQ O (AO O))
  refine DA.cons O O ?_ ?_
  ·intro gv X mq hh o hX
   have ab:=o.st Z
   intro lo dn
   obtain⟨iz,_,_,dn⟩:=dn
   cases dn
   exact AF 1 (AG D1 O (AO O))
  refine DA.cons O O ?_ ?_
  ·intro gv X mq hh o hX
   have ab:=o.st Z
   intro lp dp
   obtain⟨i0,_,_,dp⟩:=dp
   cases dp
   exact AF 1 (AT Bu ab O (mt mh) O G7 O (AO (a4.mono' (e4.trans (o.ext Z.1)))))
  refine DA.cons O O ?_ ?_
  ·intro gv X mq hh o hX
   have ab:=o.st Z
   intro h5 bt
   obtain⟨i1,_,_,bt⟩:=bt
   have bt:Sl _ _ Cw h5 p0_w.b.A:=bt
   exact AF 1 (BE O bt GL O λh6=>AO ⟨O,(KY h6)⟩)
  refine DA.cons O O ?_ ?_
  ·intro gv X mq hh o hX
   have ab:=o.st Z
   exact AF 1 (AA O (AO O))
  refine DA.cons O O ?_ ?_
  ·intro gv X mq hh o hX
   have ab:=o.st Z
   intro lq dq
   obtain⟨i2,_,_,dq⟩:=dq
   cases dq
   exact AF 1 (DN O O (AO O))
  refine DA.cons O O ?_ ?_
  ·intro gv X mq hh o hX
   have ab:=o.st Z
   intro lr dr
   obtain⟨i3,_,_,dr⟩:=dr
   cases dr
   exact AF 1 (AG HQ O (AO O))
  refine DA.cons O O ?_ ?_
  ·intro gv X mq hh o hX
   have ab:=o.st Z
   intro ls ds
   obtain⟨i4,_,_,ds⟩:=ds
   cases ds
   exact AF 1 (AG Ib O (AO O))
  refine DA.cons O O ?_ ?_
  ·intro gv X mq hh o hX
   have ab:=o.st Z
   intro lt dt
   obtain⟨i5,_,_,dt⟩:=dt
   cases dt
   exact AF 1 (AT Bu ab O (mt mh) O LA O (AO (br.mono' (e4.trans (o.ext Z.1)))))
  refine DA.cons O O ?_ ?_
  ·intro gv X mq hh o hX
   have ab:=o.st Z
   intro h7 bu
   obtain⟨i6,_,_,bu⟩:=bu
   have bu:Sl _ _ BZ.str h7 p0_w.b.J:=bu
   exact AF 1 (BE O bu Ku O λh8=>AO ⟨O,(KY h8)⟩)
  refine NY O O ?_ ?_
  ·intro gv X mq hh o hX
   have ab:=SX.fz (X:=X) Z o
   intro h9 bh lu du lv dv lw dw
   obtain⟨i7,_,_,bh⟩:=bh
   have bh:=Sl.mono' (S':=(SX S2 h hh X)) bh ⟨λb hb=>(SX.ext Z.1 o hX).sub b hb,λ_ _=>rfl,qX _⟩
   have bh:Sl _ _ BJ h9 p0_w.s.M:=bh
   obtain⟨i8,_,_,du⟩:=du
   obtain⟨rfl,ia⟩:=du
   obtain⟨i9,_,_,dv⟩:=dv
   obtain⟨rfl,ib⟩:=dv
   obtain⟨ja,_,_,dw⟩:=dw
   obtain⟨rfl,ic⟩:=dw
   refine Dj O O O mO O (RS ab bh ia ib ic fn) λlx ly lz ie p=>?_
   obtain⟨l0,l1,rfl,dx⟩:=p
   have ig:=dx.pick (.tail (.tail .head))
   obtain⟨fo,dy,fp,jb,fq⟩:=OW.done Z.1 o hX ie ig
   exact Dt fp ⟨fo,dy,⟨_,_,O,fq⟩⟩
  refine DA.cons O O ?_ ?_
  ·intro gv X mq hh o hX
   have ab:=o.st Z
   intro jc bv
   obtain⟨dz,_,_,bv⟩:=bv
   obtain⟨jd,je,rfl,jf⟩:=bv
   exact AF 1 (AA O (AO ⟨dz,_,_,O⟩))
  refine DA.cons O O ?_ ?_
  ·intro gv X mq hh o hX
   have ab:=o.st Z
   intro jg bw
   obtain⟨d0,_,_,bw⟩:=bw
   obtain⟨_,jh,ji,rfl⟩:=bw
   exact AF 1 (CX O (AO (by rw[←d0];rfl)))
  refine DA.cons O O ?_ ?_
  ·intro gv X mq hh o hX
   have ab:=o.st Z
   intro jj bx
   obtain⟨d1,_,_,bx⟩:=bx
   obtain⟨_,jk,jl,rfl⟩:=bx
   exact AF 1 (CX O (AO (by rw[←d1];rfl)))
  refine DA.cons O O ?_ ?_
  ·intro gv X mq hh o hX
   have ab:=o.st Z
   intro jm cn
   obtain⟨d2,_,_,cn⟩:=cn
   exact AF 1 (A0 O (AO d2))
  refine DA.cons O O ?_ ?_
  ·intro gv X mq hh o hX
   have ab:=o.st Z
   intro jn co
   obtain⟨d3,_,_,co⟩:=co
   exact AF 1 (A0 O (AO d3))
  exact trivial
 intro bz bi ih bp a9 d4 jo b0 cp b1 cq b2 cr b3 cs b4 ct b5
 obtain⟨d5,b0⟩:=b0
 obtain⟨b6,b1⟩:=b1
 obtain⟨d6,b2⟩:=b2
 obtain⟨d7,b3⟩:=b3
 obtain⟨ii,b4⟩:=b4
 obtain⟨ij,b5⟩:=b5
 obtain⟨ay,a5,rfl,fr⟩:=b0
 have bj:=(Vh.cons (Vh.nil Z bp a9) d4 (j:=22) O fr).st
 simp only[rW,rQ] at bj
 obtain rfl: .tuple #[ay,a5]=cp:=((by rw[b1.1,←d5];try rfl:cp= .tuple #[ay,a5])).symm
 obtain rfl:ay=cq:=((by rw[b2,←b6];try rfl:cq=ay)).symm
 obtain rfl:a5=cr:=((by rw[b3,←b6];try rfl:cr=a5)).symm
 obtain rfl:ay=cs:=((by rw[b4,←d6];try rfl:cs=ay)).symm
 obtain rfl:a5=ct:=((by rw[b5,←d7];try rfl:ct=a5)).symm
 refine AZ (kp [3,2,0] O) (WF.sl (AF 5 (AA O (AA O (DN O O (AG DZ O (AG Km O (AD ?_))))))))
 obtain⟨ax,av,rfl,jp⟩:=bj.oslen (mt mh)
 refine Iq (vs:=[(.slice ax aw.2.length av)]) (cs':=[.string p0_w.b.H,aj,vI p0_w.b.T,ak,ac,am,an,ao,ap,aq,vI p0_w.b.V,ad,ae,af,ag,ah,vI p0_w.s.D,g,t,(.slice ax aw.2.length av),W,u,y,z,Y,K]) O O O O MD O bj (.tail (.tail (.tail .head))) O O λb7 b8 b9=>AZ (kp [2,0] O) (AE (AI (AA O (DN O O (AG HQ O (AG D1 O (AT Bu b8 O (mt (mt (mt mh))) O G7 O (BE O (a4.mono' (e4.trans ((SX.ext Z.1 bp (Z2 a9)).trans b9))) GL O λjq=>AA O (AN (kp [44,43,2,0] O) (BH (λa w=>∃(a2:List (List Int)) (a3:List Int),IV B (SX S2 h bz (UX bi)) b7 (123,[]) a w [(0,vP c 0)] (OS BJ 60 (.slice ax aw.2.length av) aw.2::OS (BZ.sl AJ) 29 g a2::Bx c 84 [.string p0_w.b.H,aj,vI p0_w.b.T,ak,ac,am,an,ao,ap,aq,vI p0_w.b.V,ad,ae,af,ag,ah,vI p0_w.s.D,g,t,(.slice ax aw.2.length av),W,u,y,z,Y,K]::OS AJ 3 t p0_w.s.O::OS Bz 69 W p0_w.s.P::OS AJ 3 u p0_w.s.S::OS AJ 3 y p0_w.s.U::OS CJ 50 z p0_w.moves::OS AJ 3 Y a3::OS BJ 60 K p0_w.sent::L) λ_ _=>C7 N p0_w aw a2 a3=some r) ?_ ?_))))))))))
 ·refine BV (λn1=>λa w=>∃(ar:Int) (a6:List (List Int)) (a7:List Int),IV B (SX S2 h bz (UX bi)) b7 (123,[]) a w [(43,vI (↑p0_w.b.A.length:Int)),(2,ay),(0,vP c 0),(44,vI ar)] (OS (BZ.sl AJ) 29 ay aw.1::OS BJ 60 (.slice ax aw.2.length av) aw.2::OS (BZ.sl AJ) 29 g a6::Bx c 84 [.string p0_w.b.H,aj,vI p0_w.b.T,ak,ac,am,an,ao,ap,aq,vI p0_w.b.V,ad,ae,af,ag,ah,vI p0_w.s.D,g,t,(.slice ax aw.2.length av),W,u,y,z,Y,K]::OS AJ 3 t p0_w.s.O::OS Bz 69 W p0_w.s.P::OS AJ 3 u p0_w.s.S::OS AJ 3 y p0_w.s.U::OS CJ 50 z p0_w.moves::OS AJ 3 Y a7::OS BJ 60 K p0_w.sent::L) λ_ _=>AH ar∧CZ N p0_w aw (C7 N p0_w aw) n1 ar a6 a7=some r) N ?_ ?_ ?_
  ·intro aa ww hf hw
   exact⟨0,p0_w.s.F,p0_w.peaks,_,_,hf.sub (kp [43,2,0,44] O),hw,b8,(C9.refl (SX S2 h bz (UX bi)) b7),(iq (n:=0) O),E⟩
  ·rintro aa ww ⟨_,_,_,_,_,_,_,_,_,_,E⟩
   rw[CZ] at E;cases E
  rintro n1 aa ww ⟨ar,a6,a7,ba,ca,hf,hw,au,cu,cb,E⟩
  refine A6 ?_ hf hw
  clear hf hw ww aa
  rw[CZ] at E
  refine AI (BI O (AN (kp [45,43,2,0,44] O) (AE (AY O E (λfs E=>?_) (λfs E=>?_)))))
  ·refine AS (AE (BY (AI (AA O (AM O (kp [4,43,2,0,44] O) (AE ?_))))))
   obtain⟨jr,d8,E⟩:=bd E
   obtain⟨cv,d9,E⟩:=bd E
   obtain⟨js,ea,E⟩:=bd E
   obtain⟨cw,eb,E⟩:=bd E
   obtain⟨cc,ec,E⟩:=bd E
   obtain⟨jt,ed,E⟩:=bd E
   refine NX (m:=[(4,vI ar),(43,vI (↑p0_w.b.A.length:Int)),(2,ay),(0,vP c 0),(44,vI ar)]) 20 (λi v hh=>match i with|0=>v=vP c 0|1=>v=vP c 0|2=>v=vP c 16|3=>v=vP c 17|4=>v=g|5=>v=vI ar∧AH ar|6=>v=vP c 0|7=>v=vP c 0|8=>v=vP c 16|9=>v=vP c 17|10=>v=g|11=>v=vI ar∧AH ar|12=>EP g (ar.toNat*((BZ.sl AJ)).sz+0) v|13=>Sl ba hh AJ v cv|14=>v=ay|15=>v=vI ar∧AH ar|16=>EP ay (ar.toNat*((BZ.sl AJ)).sz+0) v|17=>Sl ba hh AJ v cw|18=>Sl (SN ba ca hh) hh AJ v cc|19=>EP g (ar.toNat*((BZ.sl AJ)).sz+0) v|_=>False) [[],[(0,47)],[(1,48)],[(2,49)],[(3,50)],[],[],[(6,53)],[(7,54)],[(8,55)],[(9,56)],[],[(10,57),(11,58)],[(12,59)],[],[],[(14,61),(15,62)],[(16,63)],[(13,60),(17,64)],[(4,51),(5,52)]] [(18,65),(19,66)] mo (by kernel_rfl) [4,43,2,0,44] O (by kernel_rfl) (by kernel_rfl) (by kernel_rfl) (kp [4,43,2,0,44] O) (λi v h1 h2 o1 o2 Q=>?_) ?_ ?_
   ·match i,Q with
     |0,Q|1,Q|2,Q|3,Q|4,Q|5,Q|6,Q|7,Q|8,Q|9,Q|10,Q|11,Q|12,Q|14,Q|15,Q|16,Q|19,Q=>exact Q
     |13,Q|17,Q=>exact Sl.mono' Q (o2.ext λb hb=>qZ (au.1 b hb) o1.siz)
     |18,Q=>exact Sl.mono' Q (SN.mono au.1 o1 o2)
     |_+20,Q=>exact Q.elim
   ·refine BQ.cons O (λ_ _ _=>AF 1 (AA O (AO O))) (BQ.cons O (λ_ _ _ _ ft=>by cases ft;exact AF 1 (DN O O (AO O))) (BQ.cons O (λ_ _ _ _ fu=>by cases fu;exact AF 1 (AG DZ O (AO O))) (BQ.cons O (λ_ _ _ _ fv=>by cases fv;exact AF 1 (AG EF O (AO O))) (BQ.cons O (λ_ _ o _ fw=>by cases fw;exact AF 1 (AT Bu (o.st au) O (mt (mt (mt mh))) O HO O (AO O))) (BQ.cons O (λ_ _ _=>AF 1 (AA O (AO ⟨O,cb⟩))) (BQ.cons O (λ_ _ _=>AF 1 (AA O (AO O))) (BQ.cons O (λ_ _ _ _ fx=>by cases fx;exact AF 1 (DN O O (AO O))) (BQ.cons O (λ_ _ _ _ fy=>by cases fy;exact AF 1 (AG DZ O (AO O))) (BQ.cons O (λ_ _ _ _ f0=>by cases f0;exact AF 1 (AG EF O (AO O))) (BQ.cons O (λ_ _ o _ f1=>by cases f1;exact AF 1 (AT Bu (o.st au) O (mt (mt (mt mh))) O HO O (AO O))) (BQ.cons O (λ_ _ _=>AF 1 (AA O (AO ⟨O,cb⟩))) ?_)))))))))))
    refine BQ.cons O (λ_ _ o=>by intro ju f2 jv f3;cases f2;obtain ⟨rfl,jw⟩:=f3;exact AF 1 (BX (o.st au) (mt (mt mh)) O O Fl d8 O λjx ee=>AO ee)) ?_
    refine BQ.cons O ?_ ?_
    ·intro mq hh o
     intro jy f4
     have ab:=o.st au
     refine AF 1 ?_
     have f5:=ab.epAt (mt (mt mh)) d9 GO.id f4
     exact BF Bu (λ_ x=>x) O f5 CH O λjz f6=>AO f6
    refine BQ.cons O (λ_ _ _=>AF 1 (AA O (AO O))) (BQ.cons O (λ_ _ _=>AF 1 (AA O (AO ⟨O,cb⟩))) (BQ.cons O (λ_ _ o=>by intro j0 f7 j1 f8;cases f7;obtain ⟨rfl,j2⟩:=f8;exact AF 1 (BX (o.st au) mh O O Fl ea O λj3 ef=>AO ef)) ?_))
    refine BQ.cons O ?_ ?_
    ·intro mq hh o
     intro j4 f9
     have ab:=o.st au
     refine AF 1 ?_
     have ga:=ab.epAt mh eb GO.id f9
     exact BF Bu (λ_ x=>x) O ga CH O λj5 gb=>AO gb
    refine BQ.cons O ?_ ?_
    ·intro mq hh o
     intro gc bb gd bc
     have ab:=SN.st au o
     have bb:=Sl.mono' (S':=(SN ba ca hh)) bb ⟨λb hb=> .inl hb,λ_ _=>rfl,qX _⟩
     have bb:Sl _ _ AJ gc cv:=bb
     have bc:=Sl.mono' (S':=(SN ba ca hh)) bc ⟨λb hb=> .inl hb,λ_ _=>rfl,qX _⟩
     have bc:Sl _ _ AJ gd cw:=bc
     have cm:=ab.fz
     refine CG O O O Wi O cm (LK (St.all _) (bb.mono (λb hb=>cm.1 b hb) (λ_ _=>rfl)) (bc.mono (λb hb=>cm.1 b hb) (λ_ _=>rfl)) ec) λj6 j7 j8 ik ge gf p=>?_
     have eg:=p
     have cd:=cm.join gf eg ⟨OS.flat (λ{_ _ _ _ _ _} k=>k),trivial⟩
     simp only[rW,rQ] at cd
     obtain⟨j9,eh,gg,gh⟩:=cd.pubs .head
     have ce:=Fz.done o (ge.trans gg) eh
     exact Dt ce.1 (Sl.mono' gh ce.2)
    exact BQ.cons O (λ_ _ o=>by intro ka gi kb gj;cases gi;obtain ⟨rfl,kc⟩:=gj;exact AF 1 (BX (o.st au) (mt (mt mh)) O O Fl ed O λkd ei=>AO ei)) trivial
   intro ke cx gl cf kf gm
   have ej:=SN.st au cx
   have cf:Sl _ _ AJ gl cc:=cf
   obtain⟨gn,ek,E⟩:=bd E
   refine Fd (r:=(BZ.sl AJ)) (l:=a6) (i:=ar) (x:=gn) O O (Ml cf) gm ek MS.id CH (λ_=>rfl) ej (.tail (.tail .head)) λkg az gp=>AZ (kp [4,43,2,0,44] O) (L9 15 mo (by kernel_rfl) O az (AA O (DN O O (AG Kk O (AT CQ az O (mt (mt (mt mh))) O CH O (AA O (AA O (DN O O (AG DZ O (AG EF O (AT CQ az O (mt (mt (mt mh))) O HO O (AA O ?_))))))))))))
   obtain⟨kh,el,E⟩:=bd E
   refine BX az (mt (mt mh)) O O Fl el O λki em=>?_
   obtain⟨kj,en,E⟩:=bd E
   have gq:=az.epAt (mt (mt mh)) en GO.id em
   refine BF CQ (λ_ x=>x) O gq CH O λkk gr=>?_
   obtain⟨cy,eo,E⟩:=bd E
   refine DW O O O OC O (λh' o=>F7 (St.all h') (gr.mono' (o.all az.1)) eo) λgs=>?_
   have gu:=gs
   obtain⟨kl,ep,E⟩:=bd E
   refine BX az (mt (mt (mt (mt (mt (mt (mt (mt (mt mh))))))))) O O CA ep O λkm eq=>Kq λkn er gw=>?_
   obtain⟨gx,es,E⟩:=bd E
   refine Fd (r:=AJ) (l:=a7) (i:=ar) (x:=gx) O O (⟨_,O,O,gu⟩:Rd _ _ AJ _ cy) eq es MS.id BA (λ_=>rfl) er (.tail (.tail (.tail (.tail (.tail (.tail (.tail (.tail (.tail .head))))))))) λko et gy=>AZ (kp [43,2,0,44] O) (B7 (CL (.inl O) (A9 O (AA O (AN (kp [44,43,2,0] O) (WF.nil (λaa ww hf hw=>?_)))))))
   exact⟨(Bw (ar+1)),(upd a6 ar cc),(upd a7 ar cy),_,_,hf.sub (kp [43,2,0,44] O),hw,et,(cu.trans ((SN.ext au.1 cx).trans (gp.trans (gw.trans gy)))),(B5 _),E⟩
  refine By O (λaa ww hf hw=>?_)
  have eu:=au.sel [1,1,1,1,1,1,1,1,1,1] 1 O
  exact⟨a6,a7,_,_,hf.sub (kp [0] O),hw,eu,cu,E⟩
 rintro aa ww ⟨a2,a3,cz,c0,hf,hw,cg,c1,E⟩
 refine A6 ?_ hf hw
 clear hf hw ww aa
 rw[C7] at E
 refine AI (AA O (DN O O (AG HQ O (AG Hn O (AT Bu cg O (mt (mt mh)) O KF O ?_)))))
 have c2:=bs.mono' (e4.trans ((SX.ext Z.1 bp (Z2 a9)).trans (b9.trans c1)))
 refine BE O c2 Ie O λkq=>AA O (AN (kp [89,88,87,0] O) (BY (BV (λn2=>λa w=>∃(a0:Int) (a8:List BG),IV B cz c0 (123,[]) a w [(88,vI (↑p0_w.b.E.length:Int)),(87,ac),(0,vP c 0),(89,vI a0)] (OS BJ 60 (.slice ax aw.2.length av) aw.2::OS (BZ.sl AJ) 29 g a2::Bx c 84 [.string p0_w.b.H,aj,vI p0_w.b.T,ak,ac,am,an,ao,ap,aq,vI p0_w.b.V,ad,ae,af,ag,ah,vI p0_w.s.D,g,t,(.slice ax aw.2.length av),W,u,y,z,Y,K]::OS AJ 3 t p0_w.s.O::OS Bz 69 W a8::OS AJ 3 u p0_w.s.S::OS AJ 3 y p0_w.s.U::OS CJ 50 z p0_w.moves::OS AJ 3 Y a3::OS BJ 60 K p0_w.sent::L) λ_ _=>AH a0∧B3 N p0_w aw a2 a3 n2 a0 a8=some r) N ?_ ?_ ?_)))
 ·intro aa ww hf hw
  exact⟨0,p0_w.s.P,_,_,hf.sub (kp [88,87,0,89] O),hw,cg,(C9.refl cz c0),(iq (n:=0) O),E⟩
 ·rintro aa ww ⟨_,_,_,_,_,_,_,_,_,E⟩
  rw[B3] at E;cases E
 rintro n2 aa ww ⟨a0,a8,gz,g0,hf,hw,bk,ch,kr,E⟩
 refine A6 ?_ hf hw
 clear hf hw ww aa
 rw[B3] at E
 refine AI (BI O (AN (kp [90,88,87,0,89] O) (AE (AY O E (λg1 E=>?_) (λg1 E=>?_)))))
 ·refine AS (AE (BH (λa w=>∃(bq:List BG),IV B gz g0 (123,[]) a w [(88,vI (↑p0_w.b.E.length:Int)),(87,ac),(0,vP c 0),(89,vI a0)] (OS BJ 60 (.slice ax aw.2.length av) aw.2::OS (BZ.sl AJ) 29 g a2::Bx c 84 [.string p0_w.b.H,aj,vI p0_w.b.T,ak,ac,am,an,ao,ap,aq,vI p0_w.b.V,ad,ae,af,ag,ah,vI p0_w.s.D,g,t,(.slice ax aw.2.length av),W,u,y,z,Y,K]::OS AJ 3 t p0_w.s.O::OS Bz 69 W bq::OS AJ 3 u p0_w.s.S::OS AJ 3 y p0_w.s.U::OS CJ 50 z p0_w.moves::OS AJ 3 Y a3::OS BJ 60 K p0_w.sent::L) λ_ _=>Du N a0 (B3 N p0_w aw a2 a3 n2) bq=some r) ?_ ?_))
  ·refine WF.sl (AF 3 (AA O ?_))
   obtain⟨d,ew,E⟩:=bd E
   refine B1 O O (c2.mono' ch) Ie ew O λks g2=>Cq Bu bk.1 O g2 IM (λe=>by cases e) O λkt g3=>AD (Di OX O bk λku kv ey ci=>AF 1 (A0 O (AD ?_)))
   obtain⟨cj,ck,cl,rfl,g4,g5,g6,g7,c3,c4,c5,g8,g9,ha,hc,hd,he,hg,hi,hj,hk,hl⟩:=Ct.ex (g3.mono ci)
   refine Ht (vs:=[.string d.H,vI d.B,vI d.G,vI d.C,cj,ck,cl,vI d.R,vI d.Ab,vI d.Aj,vI d.Al,vI d.L,vI d.I,vI d.Ah,vI d.Ai,vI d.Ac,vI d.Aa,vI d.N]) (cs':=[.string d.H,vI d.B,vI d.G,vI d.C,cj,ck,cl,vI d.R,vI d.Ab,vI d.Aj,vI d.Al,vI d.L,vI d.I,vI d.Ah,vI d.Ai,vI d.Ac,vI d.Aa,vI d.N]) O O O (AC O (AC O (AC O (AC O (AC c3.one (AC c4.one (AC c5.one (AC O (AC O (AC O (AC O (AC O (AC O (AC O (AC O (AC O (AC O (AC O Es)))))))))))))))))) IM O ey .head O O λkw ai be=>AZ (kp [5,6,88,87,0,89] O) (AI (AG HA O (AT Bu ai O mh O BA O (B6 O (AN (kp [96,5,6,88,87,0,89] O) (AY O E (λhm E=>?_) (λhm E=>?_)))))))
   ·refine L9 25 mo (by kernel_rfl) O ai (AA O (DN O O (AG DZ O (AG Iv O (AT CQ ai O (mt (mt (mt mh))) O LW O (AA O (ES (vs:=[.string d.H,vI d.B,vI d.G,vI d.C,cj,ck,cl,vI d.R,vI d.Ab,vI d.Aj,vI d.Al,vI d.L,vI d.I,vI d.Ah,vI d.Ai,vI d.Ac,vI d.Aa,vI d.N]) CQ ai O mh O O IM O O (AA O (DN O O (AG DZ O (AG Iv O (AT CQ ai O (mt (mt (mt mh))) O LW O (AA O ?_)))))))))))))
    obtain⟨kx,ez,E⟩:=bd E
    refine BX ai (mt (mt (mt (mt (mt mh))))) O O LB ez O λky e0=>?_
    obtain⟨kz,e1,E⟩:=bd E
    have hn:=ai.epAt (mt (mt (mt (mt (mt mh))))) e1 GO.id e0
    refine Cq CQ (λ_ x=>x) O hn H1 (λe=>by cases e) O λk0 ho=>AA O (DN O O (AG Kk O (AT CQ ai O (mt (mt (mt mh))) O CH O (AG Jb O (AT CQ ai O mh O BA O ?_)))))
    obtain⟨k1,e2,E⟩:=bd E
    refine BX ai (mt (mt (mt (mt (mt (mt (mt (mt (mt mh))))))))) O O CA e2 O λk2 e3=>?_
    obtain⟨k3,e5,E⟩:=bd E
    have hp:=ai.epAt (mt (mt (mt (mt (mt (mt (mt (mt (mt mh))))))))) e5 GO.id e3
    refine BC CQ (λ_ x=>x) O hp BA O λhq=>?_
    obtain⟨c6,e6,E⟩:=bd E
    refine DW O O O nO O (λh' o=>Px (St.all h') (Ct.mk (x:=d) g4 g5 g6 g7 ((c3.mono' be).mono' (o.all ai.1)) ((c4.mono' be).mono' (o.all ai.1)) ((c5.mono' be).mono' (o.all ai.1)) g8 g9 ha hc hd he hg hi hj hk hl) (ho.mono (o.all ai.1)) hq e6) λht=>?_
    obtain⟨hu,hv⟩:=ht
    obtain⟨k4,e7,E⟩:=bd E
    refine BX ai (mt (mt (mt (mt (mt mh))))) O O LB e7 O λk5 e8=>Kq λk6 e9 hx=>?_
    obtain⟨hy,fa,E⟩:=bd E
    refine Fd (r:=Bz) (l:=a8) (i:=a0) (x:=hy) O O (Bz.mk (x:=c6) ⟨hu,hv⟩) e8 fa MS.id H1 (λe=>by cases e) e9 (.tail (.tail (.tail (.tail (.tail .head))))) λk7 fb h0=>AZ (kp [88,87,0,89] O) (WF.nil (λaa ww hf hw=>?_))
    have fc:=fb.sel [1,1,1,1,1,1,1,1,1,1] 1 O
    exact⟨(upd a8 a0 c6),_,_,hf.sub (kp [88,87,0,89] O),hw,fc,(ci.trans (be.trans (hx.trans h0))),E⟩
   refine AS (WF.nil (λaa ww hf hw=>?_))
   have fd:=ai.sel [1,1,1,1,1,1,1,1,1,1] 1 O
   exact⟨a8,_,_,hf.sub (kp [88,87,0,89] O),hw,fd,(ci.trans be),E⟩
  rintro aa ww ⟨bq,k8,k9,hf,hw,fe,h3,E⟩
  refine A6 ?_ hf hw
  clear hf hw ww aa
  rw[Du] at E
  refine CL (.inl O) (A9 O (AA O (AN (kp [89,88,87,0] O) (WF.nil (λaa ww hf hw=>?_)))))
  exact⟨(Bw (a0+1)),bq,_,_,hf.sub (kp [88,87,0,89] O),hw,fe,(ch.trans h3),(B5 _),E⟩
 refine Lh O (WF.nil (λaa ww hf hw=>?_))
 have ff:=bk.sel [2,1,1,0,0,0,0,0,0,0] 0 O
 cases E
 exact K5 hf O hw K4 O (e4.trans ((SX.ext Z.1 bp (Z2 a9)).trans (b9.trans (c1.trans ch)))) ⟨_,_,_,_,O,ff⟩
def MJ (hs:St S L h) {j:Value}{d:(List Int)}(o:Sl S h AJ j d) {b:Value}{c:(List Int)}(k:Sl S h AJ b c) {r:(List Int)}(E:H5 N d c=some r):
 DK prog 96 #[j,b] S h (λv S' h'=>St S' (OS AJ 3 v r::L) h'):=by
 refine B0 (l:=[j,b]) 30 func96 O ntmps96 O λB=>?_
 rw[H5] at E
 refine AI (AM O (kp [0,1] O) (WF.sl (AF 2 (AA O (BE O o CA O λb1=>AD ?_)))))
 obtain⟨Y,E⟩:=LO E
 refine Jl (r:=AJ) (zx:=0) GM O ⟨O,by unfold AH;omega⟩ O O Y O O hs λX h4 Z e6=>AF 1 (A0 O (AD (AZ (kp [5,0,1] O) (WF.sl (AF 2 (AA O (AA O (AD (Td (r:=AJ) (l:=(List.replicate ((↑d.length:Int):Int).toNat (0:Int))) (xs:=d) O O CA (Sl.src (o.mono' e6)) O Z .head λh8 ab C=>AZ (kp [5,1] O) (AE (AI (AA O ?_))))))))))))
 have D:=k.mono' (e6.trans C)
 refine BE O D CA O λai=>AA O (AN (kp [16,15,14,5] O) (BH (λa w=>∃(z:List Int),IV B S h8 (30,[]) a w [(5,X)] (OS AJ 3 X z::L) λ_ _=>HU N z=some r) ?_ ?_))
 ·refine BV (λn1=>λa w=>∃(m:Int) (p:List Int),IV B S h8 (30,[]) a w [(15,vI (↑c.length:Int)),(14,b),(5,X),(16,vI m)] (OS AJ 3 X p::L) λ_ _=>AH m∧Fs N c (HU N) n1 m p=some r) N ?_ ?_ ?_
  ·intro u y s t
   exact⟨0,(Ns (List.replicate ((↑d.length:Int):Int).toNat (0:Int)) d),_,_,s.sub (kp [15,14,5,16] O),t,ab,(C9.refl S h8),(iq (n:=0) O),E⟩
  ·rintro u y ⟨_,_,_,_,_,_,_,_,_,E⟩
   rw[Fs] at E;cases E
  rintro n1 u y ⟨m,p,aj,ak,s,t,g,A,al,E⟩
  refine A6 ?_ s t
  clear s t y u
  rw[Fs] at E
  refine AI (BI O (AN (kp [17,15,14,5,16] O) (AE (AY O E (λac E=>?_) (λac E=>?_)))))
  ·refine AS (AE (BY (AI (AA O ?_))))
   obtain⟨F,G,E⟩:=bd E
   refine B1 O O (D.mono' A) CA G O λam ad=>BC Bu g.1 O ad BA O λan=>A0 O (AM O (kp [7,6,15,14,5,16] O) (FG (AF 7 (AA O (AA O ?_)))))
   obtain⟨ao,H,E⟩:=bd E
   refine BX g mh O O CA H O λap I=>?_
   obtain⟨J,K,E⟩:=bd E
   have ae:=g.epAt mh K GO.id I
   refine BC Bu (λ_ x=>x) O ae BA O λaq=>AA O (Dl O ?_)
   obtain⟨ar,M,E⟩:=bd E
   refine BX g mh O O CA M O λau Q=>AD ?_
   obtain⟨af,U,E⟩:=bd E
   refine Fd (r:=AJ) (l:=p) (i:=m) (x:=af) O O (⟨_,O,O,(B5 _)⟩:Rd _ _ AJ _ (Bw (J-F))) Q U MS.id BA (λ_=>rfl) g .head λav V ag=>AZ (kp [15,14,5,16] O) (B7 (CL (.inl O) (A9 O (AA O (AN (kp [16,15,14,5] O) (WF.nil (λu y s t=>?_)))))))
   exact⟨(Bw (m+1)),(upd p m (Bw (J-F))),_,_,s.sub (kp [15,14,5,16] O),t,V,(A.trans ag),(B5 _),E⟩
  refine By O (λu y s t=>?_)
  exact⟨p,_,_,s.sub (kp [5] O),t,g,A,E⟩
 rintro u y ⟨z,aw,ax,s,t,W,ah,E⟩
 refine A6 ?_ s t
 clear s t y u
 rw[HU] at E
 refine AI (AA O (AM O (kp [4] O) (A5 (λu y s t=>?_))))
 cases E
 exact Em s t O O (e6.trans (C.trans ah)) W
def RX (hs:St S L h) {d:Value}{g:(List Int)}(m:Sl S h AJ d g) {c:Int}(n:AH c) {j:Int}(y:AH j) {r:(List Int)×(List Int)}(E:K0 N g c j=some r):
 DK prog 84 #[d,vI c,vI j] S h (λv S' h'=>∃F G:Value,v= .tuple #[F,G]∧St S' (OS AJ 3 F r.1::OS AJ 3 G r.2::L) h'):=by
 refine B0 (l:=[d,vI c,vI j]) 27 func84 O ntmps84 O λB=>?_
 rw[K0] at E
 refine AI (A0 O (AM O (kp [0,1,2] O) (WF.sl (AF 2 (AA O (BE O m CA O λb1=>AD ?_))))))
 obtain⟨Z,E⟩:=LO E
 refine Jl (r:=AJ) (zx:=0) GM O ⟨O,by unfold AH;omega⟩ O O Z O O hs λv3 h4 H e6=>AF 1 (A0 O (AD (AZ (kp [6,0,1,2] O) (AE (AE (Cn (.inl O) H (AA O (AA O (AA O ?_)))))))))
 obtain⟨y8,ab,E⟩:=bd E
 refine DW O O O dR O (λh' o=>Oh (St.all h') ((m.mono' e6).mono' (o.all H.1)) n ab) λr9=>?_
 have ac:=r9
 refine RB O O O (A0 O (B9 (kp [8,6,0,1] O) λI t ad=>AI (AA O (CV O (AN (kp [18,8,6,0,1] O) (He (λa w=>∃(D:List Int),IV B S I (27,[]) a w [(6,v3),(0,d)] (OS AJ 3 v3 D::L) λ_ _=>Im N g D=some r) ?_ ?_))))))
 ·refine AY O E (λae E=>?_) (λae E=>?_)
  ·refine FG (AF 4 (AA O (AA O (AA O ?_))))
   obtain⟨al,J,E⟩:=bd E
   refine BX t mh O O CA J O λam K=>AD ?_
   obtain⟨af,M,E⟩:=bd E
   refine Fd (r:=AJ) (l:=(List.replicate ((↑g.length:Int):Int).toNat (0:Int))) (i:=c) (x:=af) O O (⟨_,O,O,(MM y ac)⟩:Rd _ _ AJ _ (min j y8)) K M MS.id BA (λ_=>rfl) t .head λan Q ag=>AZ (kp [6,0] O) (WF.nil (λX Y u z=>?_))
   exact⟨(upd (List.replicate ((↑g.length:Int):Int).toNat (0:Int)) c (min j y8)),_,_,u.sub (kp [6,0] O),z,Q,ag,E⟩
  refine AS (WF.nil (λX Y u z=>?_))
  exact⟨(List.replicate ((↑g.length:Int):Int).toNat (0:Int)),_,_,u.sub (kp [6,0] O),z,t,(C9.refl S I),E⟩
 rintro X Y ⟨D,ao,ap,u,z,s,ah,E⟩
 refine A6 ?_ u z
 clear u z Y X
 rw[Im] at E
 refine WF.sl (AF 3 (AA O (AA O (AA O (AD ?_)))))
 have A:=e6.trans (ad.trans ah)
 obtain⟨aq,U,E⟩:=bd E
 refine CG O O O dL O s (MJ (St.all _) ((m.mono' A).mono (λb hb=>s.1 b hb) (λ_ _=>rfl)) (s.oslAll mh) U) λar au av ak ai aj p=>?_
 have V:=p
 have C:=s.join aj V ⟨OS.flat (λ{_ _ _ _ _ _} k=>k),trivial⟩
 simp only[rW,rQ] at C
 refine AF 2 (A0 O (A0 O (AD (AZ (kp [7,6] O) (A5 (λX Y u z=>?_))))))
 have W:=C.sel [1,0] 0 O
 cases E
 exact K5 u O z (JD (Jm u (v:=_) O) (JD (Jm u (v:=_) O) K4)) O (A.trans ai) ⟨_,_,O,W⟩
end Go.Proofs.YtblcgjadhemlbaaGreat
