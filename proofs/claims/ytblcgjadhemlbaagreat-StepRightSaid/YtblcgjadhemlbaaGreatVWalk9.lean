import Derived.Test.YtblcgjadhemlbaaGreatVWalk8
namespace Go.Proofs.YtblcgjadhemlbaaGreat
set_option linter.all false
open Go.RowKit
open Go.Proofs.Tryz
set_option maxRecDepth 10000
set_option maxHeartbeats 2000000
variable {N:Nat}{S:Nat→Prop}{L:List HP}{h:BL}
def PN (hs:St S L h) {d:Value}{p:BQ}(n:Rd S h Ce d p) {g:Value}{b:BH}(o:Rd S h Bu g b) {i:Int}(Y:AH i) {r:BH}(E:Gr N p b i=some r):
 C5 prog 23 #[d,g,vI i] S h (λv S' h'=>v= .agg #[vI r.V,vI r.W,.bool r.Aw,.bool r.Al]∧BH.ok r∧St S' (L) h'):=by
 refine Bv (l:=[d,g,vI i]) 24 func23 O ntmps23 O λB=>?_
 rw[Gr] at E
 refine WF.sl (Cm O n (λe=>by cases e) O hs λq1 S2 h3 Z e5 k6=>?_)
 obtain⟨rfl,⟨r9,D⟩⟩:=Bu.ex (o.mono e5)
 refine QZ O O O Z λF an G x=>Di Sv O G λH I c y=>AZ (kp [6,4,3,2] O) (AE (AI ?_))
 have z:=k6.mono (x.trans y)
 refine A8 O z BQ.f_Kind G5 O λao ab=>A9 BY c.1 O ab A7 O λap=>CW O (AN (kp [9,6,4,3,2] O) (AX O E (λac E=>?_) (λac E=>?_)))
 ·refine WF.sl (AF 1 (EH (vs:=[vI b.V,vI b.W,.bool b.Aw,.bool b.Al]) BY c O (mt mh) O O He O O (AG (EW (vs:=[vI b.V,vI b.W,.bool b.Aw,.bool b.Al]) O O O O He O c .head O λaq J ad=>AZ (kp [6] O) (A5 (λA C j k=>?_))))))
  have s:=J.drop (.tail .head)
  have K:=s.drop .head
  cases E
  exact Kn j O k (Ix (Yi j k s O mh He O) Km) O (e5.trans (x.trans (y.trans ad))) ⟨O,⟨r9,D⟩,K⟩
 refine AT (AE (BF (λa w=>∃(m:Bool),IV B S2 I (24,[]) a w [(6,vP H 0),(4,vP F 0)] (Bx H 69 [vI 0,vI 0,.bool false,.bool false]::Bx F 69 [vI b.V,vI b.W,.bool b.Aw,.bool m]::L) λ_ _=>IS N b m=some r) ?_ ?_))
 ·refine AI (AA O (A8 O z KU OR O λar ae=>A9 BY c.1 O ae A7 O λau=>HQ O (AM O (kp [11,6,4,3,2] O) (AX O E (λaf E=>?_) (λaf E=>?_)))))
  ·refine FO (AF 1 (AD OM O (AG (Il (vs:=[.bool true]) (cs':=[vI b.V,vI b.W,.bool b.Aw,.bool true]) O O O O PH O c (.tail .head) O O λav M ag=>AZ (kp [6,4] O) (WF.nil (λA C j k=>?_))))))
   exact⟨true,_,_,j.sub (kp [6,4] O),k,M,ag,E⟩
  refine AI (AA O (A8 O z KV OQ O λaw ah=>A9 BY c.1 O ah A7 O λax=>HO O (AM O (kp [17,6,4] O) (AX O E (λai E=>?_) (λai E=>?_)))))
  ·refine FO (AF 1 (AD OM O (AG (Il (vs:=[.bool false]) (cs':=[vI b.V,vI b.W,.bool b.Aw,.bool false]) O O O O PH O c (.tail .head) O O λay Q aj=>AZ (kp [6,4] O) (WF.nil (λA C j k=>?_))))))
   exact⟨false,_,_,j.sub (kp [6,4] O),k,Q,aj,E⟩
  refine AT (WF.nil (λA C j k=>?_))
  exact⟨b.Al,_,_,j.sub (kp [6,4] O),k,c,(Cv.refl S2 I),E⟩
 rintro A C ⟨m,az,a0,j,k,t,ak,E⟩
 refine A6 ?_ j k
 clear j k C A
 rw[IS] at E
 refine WF.sl (AF 1 (EH (vs:=[vI b.V,vI b.W,.bool b.Aw,.bool m]) BY t O (mt mh) O O He O O (AG (EW (vs:=[vI b.V,vI b.W,.bool b.Aw,.bool m]) O O O O He O t .head O λa1 U am=>AZ (kp [6] O) (A5 (λA C j k=>?_))))))
 have u:=U.drop (.tail .head)
 have X:=u.drop .head
 cases E
 exact Kn j O k (Ix (Yi j k u O mh He O) Km) O (e5.trans (x.trans (y.trans (ak.trans am)))) ⟨O,⟨r9,D⟩,X⟩
def L9 {c:Nat}{p0_w:A4}{am:Value}{an:Value}{ae:Value}{ao:Value}{ap:Value}{aq:Value}{ar:Value}{au:Value}{af:Value}{ag:Value}{ah:Value}{ai:Value}{aj:Value}{g:Value}{t:Value}{a3:Value}{Y:Value}{u:Value}{y:Value}{z:Value}{ab:Value}{V:Value}(hs:St S (Bx c 84 [.string p0_w.b.F,am,vI p0_w.b.R,an,ae,ao,ap,aq,ar,au,vI p0_w.b.U,af,ag,ah,ai,aj,vI p0_w.s.B,g,t,a3,Y,u,y,z,ab,V]::OO AJ 3 29 g p0_w.s.G::OS AJ 3 t p0_w.s.M::OS Bu 69 Y p0_w.s.Q::OS AJ 3 u p0_w.s.O::OS AJ 3 y p0_w.s.P::OS CF 50 z p0_w.moves::OS AJ 3 ab p0_w.peaks::OS BI 60 V p0_w.sent::L) h) (fi:p0_w.b.F.size≤maxLen) (bt:Sl S h BW.str am p0_w.b.H) (fj:AH p0_w.b.R) (a6:Sl S h Cd an p0_w.b.A) (bu:Sl S h Ce ae p0_w.b.E) (fk:Sl S h HB ao p0_w.b.Ag) (fl:Sl S h FL ap p0_w.b.Aq) (fm:Sl S h G2 aq p0_w.b.At) (fn:Sl S h Dh ar p0_w.b.Av) (fo:Sl S h AJ au p0_w.b.Au) (c9:AH p0_w.b.U) (da:Sl S h AJ af p0_w.in_.Aa) (db:Sl S h GL ag p0_w.in_.Am) (dc:Sl S h JE ah p0_w.in_.Ar) (dd:Sl S h GV ai p0_w.in_.Ae) (de:Sl S h HC aj p0_w.in_.Az) (bh:AH p0_w.s.B) (bi:Sl S h BI a3 p0_w.s.J) {r:(List (List Int))×(List BE)×(List BH)×(List Int)}(E:Ex N p0_w=some r):
 C5 prog 33 #[vP c 0] S h (λv S' h'=>∃bn bo bp bq:Value,v= .tuple #[]∧St S' (Bx c 84 [.string p0_w.b.F,am,vI p0_w.b.R,an,ae,ao,ap,aq,ar,au,vI p0_w.b.U,af,ag,ah,ai,aj,vI p0_w.s.B,bn,t,bo,bp,u,y,z,bq,V]::OS (BW.sl AJ) 29 bn r.1::OS AJ 3 t p0_w.s.M::OS BI 60 bo r.2.1::OS Bu 69 bp r.2.2.1::OS AJ 3 u p0_w.s.O::OS AJ 3 y p0_w.s.P::OS CF 50 z p0_w.moves::OS AJ 3 bq r.2.2.2::OS BI 60 V p0_w.sent::L) h'):=by
 refine Bv (l:=[vP c 0]) 123 func33 O ntmps33 O λB=>?_
 rw[Ex] at E
 have h5:=hs.pick (.tail .head)
 obtain⟨S2,ac,e4⟩:=h5.ooPub
 refine AE ?_
 obtain⟨ay,fp,E⟩:=bd E
 refine Sb (m:=[(0,vP c 0)]) [] [] [(23,[22]),(24,[23]),(25,[23]),(26,[24]),(27,[25])] (by kernel_rfl) (λgv X F i v hh=>match i with|0=>v=vP c 0|1=>v=vP c 0|2=>v=vP c 16|3=>v=vP c 19|4=>Sl S2 hh BI v p0_w.s.J|5=>v=vP c 0|6=>v=vP c 0|7=>v=vP c 16|8=>v=vP c 16|9=>v=vI p0_w.s.B∧AH p0_w.s.B|10=>v=vP c 0|11=>v=vP c 0|12=>v=vP c 0|13=>v=vP c 3|14=>Sl S2 hh Cd v p0_w.b.A|15=>v=vI (↑p0_w.b.A.length:Int)∧AH (↑p0_w.b.A.length:Int)|16=>v=vP c 0|17=>v=vP c 0|18=>v=vP c 0|19=>v=vP c 1|20=>Sl S2 hh BW.str v p0_w.b.H|21=>v=vI (↑p0_w.b.H.length:Int)∧AH (↑p0_w.b.H.length:Int)|22=>∃w0 w1:Value,v= .tuple #[w0,w1]∧OW S2 h X F [OS (BW.sl AJ) 29 w0 ay.1,OS BI 60 w1 ay.2] hh|23=>v=gv 22∧∃w0 w1:Value,v= .tuple #[w0,w1]|24=>v=Z4 (gv 23) 0|25=>v=Z4 (gv 23) 1|26=>v=gv 24|27=>v=gv 25|_=>False) [[],[(0,8)],[(1,9)],[(2,10)],[(3,11)],[],[(5,13)],[(6,14)],[(7,15)],[(8,16)],[],[(10,18)],[(11,19)],[(12,20)],[(13,21)],[(14,22)],[],[(16,24)],[(17,25)],[(18,26)],[(19,27)],[(20,28)],[(4,12),(9,17),(15,23),(21,29)],[(22,30)],[(23,7)],[(23,7)],[(24,31)],[(25,32)]] [(22,30),(23,7),(24,31),(25,32),(26,2),(27,3)] mo (by kernel_rfl) [0] O (by kernel_rfl) (by kernel_rfl) (by kernel_rfl) O (kp [0] O) (λgv i v h1 h2 X X' F o1 o2 hF u1 u2 W=>?_) (λgv lb X F i v h1 hz W=>?_) ?_ ?_ ?_
 ·match i,W with
   |0,W|1,W|2,W|3,W|5,W|6,W|7,W|8,W|9,W|10,W|11,W|12,W|13,W|15,W|16,W|17,W|18,W|19,W|21,W|23,W|24,W|25,W|26,W|27,W=>exact W
   |4,W|14,W|20,W=>exact Sl.mono' W (o2.ext λb hb=>nH (ac.1 b hb) o1.siz)
   |22,W=>obtain⟨w0,w1,ev,q⟩:=W;exact⟨w0,w1,ev,OW.mono ac.1 o1 o2 hF u1 u2 q⟩
   |_+28,W=>exact W.elim
 ·match i,W with
   |0,W|1,W|2,W|3,W|4,W|5,W|6,W|7,W|8,W|9,W|10,W|11,W|12,W|13,W|14,W|15,W|16,W|17,W|18,W|19,W|20,W|21,W|22,W=>exact W
   |23,W=>rw[hz _ oB O 22 (by decide)] at W;exact W
   |24,W=>rw[hz _ (oI _ oB) O 23 (by decide)] at W;exact W
   |25,W=>rw[hz _ (oI _ (oI _ oB)) O 23 (by decide)] at W;exact W
   |26,W=>rw[hz _ (oI _ (oI _ (oI _ oB))) O 24 (by decide)] at W;exact W
   |27,W=>rw[hz _ (oI _ (oI _ (oI _ (oI _ oB)))) O 25 (by decide)] at W;exact W
   |_+28,W=>exact W.elim
 ·exact trivial
 ·refine Cs.cons O O ?_ ?_
  ·intro gv X mq hh o hX
   have ad:=o.st ac
   exact AF 1 (AA O (AO O))
  refine Cs.cons O O ?_ ?_
  ·intro gv X mq hh o hX
   have ad:=o.st ac
   intro lc df
   obtain⟨im,_,_,df⟩:=df
   cases df
   exact AF 1 (C7 O O (AO O))
  refine Cs.cons O O ?_ ?_
  ·intro gv X mq hh o hX
   have ad:=o.st ac
   intro le dg
   obtain⟨io,_,_,dg⟩:=dg
   cases dg
   exact AF 1 (AD DI O (AO O))
  refine Cs.cons O O ?_ ?_
  ·intro gv X mq hh o hX
   have ad:=o.st ac
   intro lf dh
   obtain⟨ip,_,_,dh⟩:=dh
   cases dh
   exact AF 1 (AD KO O (AO O))
  refine Cs.cons O O ?_ ?_
  ·intro gv X mq hh o hX
   have ad:=o.st ac
   intro lg di
   obtain⟨ir,_,_,di⟩:=di
   cases di
   exact AF 1 (AS BY ad O (mt mh) O Lp O (AO (bi.mono' (e4.trans (o.ext ac.1)))))
  refine Cs.cons O O ?_ ?_
  ·intro gv X mq hh o hX
   have ad:=o.st ac
   exact AF 1 (AA O (AO O))
  refine Cs.cons O O ?_ ?_
  ·intro gv X mq hh o hX
   have ad:=o.st ac
   intro lh dj
   obtain⟨it,_,_,dj⟩:=dj
   cases dj
   exact AF 1 (C7 O O (AO O))
  refine Cs.cons O O ?_ ?_
  ·intro gv X mq hh o hX
   have ad:=o.st ac
   intro li dk
   obtain⟨iu,_,_,dk⟩:=dk
   cases dk
   exact AF 1 (AD DI O (AO O))
  refine Cs.cons O O ?_ ?_
  ·intro gv X mq hh o hX
   have ad:=o.st ac
   intro lj dl
   obtain⟨iv,_,_,dl⟩:=dl
   cases dl
   exact AF 1 (AD H0 O (AO O))
  refine Cs.cons O O ?_ ?_
  ·intro gv X mq hh o hX
   have ad:=o.st ac
   intro ll dm
   obtain⟨iw,_,_,dm⟩:=dm
   cases dm
   exact AF 1 (AS BY ad O (mt mh) O A7 O (AO ⟨O,bh⟩))
  refine Cs.cons O O ?_ ?_
  ·intro gv X mq hh o hX
   have ad:=o.st ac
   exact AF 1 (AA O (AO O))
  refine Cs.cons O O ?_ ?_
  ·intro gv X mq hh o hX
   have ad:=o.st ac
   intro lm dn
   obtain⟨iy,_,_,dn⟩:=dn
   cases dn
   exact AF 1 (C7 O O (AO O))
  refine Cs.cons O O ?_ ?_
  ·intro gv X mq hh o hX
   have ad:=o.st ac
   intro lo dp
   obtain⟨iz,_,_,dp⟩:=dp
   cases dp
   exact AF 1 (AD G4 O (AO O))
  refine Cs.cons O O ?_ ?_
  ·intro gv X mq hh o hX
   have ad:=o.st ac
   intro lp dq
   obtain⟨i0,_,_,dq⟩:=dq
   cases dq
   exact AF 1 (AD Do O (AO O))
  refine Cs.cons O O ?_ ?_
  ·intro gv X mq hh o hX
   have ad:=o.st ac
   intro lq dr
   obtain⟨i1,_,_,dr⟩:=dr
   cases dr
   exact AF 1 (AS BY ad O (mt mh) O Gu O (AO (a6.mono' (e4.trans (o.ext ac.1)))))
  refine Cs.cons O O ?_ ?_
  ·intro gv X mq hh o hX
   have ad:=o.st ac
   intro h6 bv
   obtain⟨i2,_,_,bv⟩:=bv
   have bv:Sl _ _ Cd h6 p0_w.b.A:=bv
   exact AF 1 (BC O bv Fy O λh7=>AO ⟨O,(J9 h7)⟩)
  refine Cs.cons O O ?_ ?_
  ·intro gv X mq hh o hX
   have ad:=o.st ac
   exact AF 1 (AA O (AO O))
  refine Cs.cons O O ?_ ?_
  ·intro gv X mq hh o hX
   have ad:=o.st ac
   intro lr ds
   obtain⟨i3,_,_,ds⟩:=ds
   cases ds
   exact AF 1 (C7 O O (AO O))
  refine Cs.cons O O ?_ ?_
  ·intro gv X mq hh o hX
   have ad:=o.st ac
   intro ls dt
   obtain⟨i4,_,_,dt⟩:=dt
   cases dt
   exact AF 1 (AD G4 O (AO O))
  refine Cs.cons O O ?_ ?_
  ·intro gv X mq hh o hX
   have ad:=o.st ac
   intro lt du
   obtain⟨i5,_,_,du⟩:=du
   cases du
   exact AF 1 (AD If O (AO O))
  refine Cs.cons O O ?_ ?_
  ·intro gv X mq hh o hX
   have ad:=o.st ac
   intro lu dv
   obtain⟨i6,_,_,dv⟩:=dv
   cases dv
   exact AF 1 (AS BY ad O (mt mh) O LA O (AO (bt.mono' (e4.trans (o.ext ac.1)))))
  refine Cs.cons O O ?_ ?_
  ·intro gv X mq hh o hX
   have ad:=o.st ac
   intro h8 bw
   obtain⟨i7,_,_,bw⟩:=bw
   have bw:Sl _ _ BW.str h8 p0_w.b.H:=bw
   exact AF 1 (BC O bw Kt O λh9=>AO ⟨O,(J9 h9)⟩)
  refine M9 O O ?_ ?_
  ·intro gv X mq hh o hX
   have ad:=SX.fz (X:=X) ac o
   intro ia bj lv dw lw dx lx dy
   obtain⟨i8,_,_,bj⟩:=bj
   have bj:=Sl.mono' (S':=(SX S2 h hh X)) bj ⟨λb hb=>(SX.ext ac.1 o hX).sub b hb,λ_ _=>rfl,nJ _⟩
   have bj:Sl _ _ BI ia p0_w.s.J:=bj
   obtain⟨i9,_,_,dw⟩:=dw
   obtain⟨rfl,ib⟩:=dw
   obtain⟨ja,_,_,dx⟩:=dx
   obtain⟨rfl,ic⟩:=dx
   obtain⟨jb,_,_,dy⟩:=dy
   obtain⟨rfl,ie⟩:=dy
   refine DU O O O iQ O (Qm ad bj ib ic ie fp) λly lz l0 ig p=>?_
   obtain⟨l1,l2,rfl,dz⟩:=p
   have ih:=dz.pick (.tail (.tail .head))
   obtain⟨fq,d0,fr,jc,fs⟩:=OW.done ac.1 o hX ig ih
   exact DV fr ⟨fq,d0,⟨_,_,O,fs⟩⟩
  refine Cs.cons O O ?_ ?_
  ·intro gv X mq hh o hX
   have ad:=o.st ac
   intro jd bx
   obtain⟨d1,_,_,bx⟩:=bx
   obtain⟨je,jf,rfl,jg⟩:=bx
   exact AF 1 (AA O (AO ⟨d1,_,_,O⟩))
  refine Cs.cons O O ?_ ?_
  ·intro gv X mq hh o hX
   have ad:=o.st ac
   intro jh bz
   obtain⟨d2,_,_,bz⟩:=bz
   obtain⟨_,ji,jj,rfl⟩:=bz
   exact AF 1 (CS O (AO (by rw[←d2];rfl)))
  refine Cs.cons O O ?_ ?_
  ·intro gv X mq hh o hX
   have ad:=o.st ac
   intro jk b0
   obtain⟨d3,_,_,b0⟩:=b0
   obtain⟨_,jl,jm,rfl⟩:=b0
   exact AF 1 (CS O (AO (by rw[←d3];rfl)))
  refine Cs.cons O O ?_ ?_
  ·intro gv X mq hh o hX
   have ad:=o.st ac
   intro jn cp
   obtain⟨d4,_,_,cp⟩:=cp
   exact AF 1 (AY O (AO d4))
  refine Cs.cons O O ?_ ?_
  ·intro gv X mq hh o hX
   have ad:=o.st ac
   intro jo cq
   obtain⟨d5,_,_,cq⟩:=cq
   exact AF 1 (AY O (AO d5))
  exact trivial
 intro b1 bk ii br bb d6 jp b2 cr b3 cs b4 ct b5 cu b6 cv b7
 obtain⟨d7,b2⟩:=b2
 obtain⟨b8,b3⟩:=b3
 obtain⟨d8,b4⟩:=b4
 obtain⟨d9,b5⟩:=b5
 obtain⟨ij,b6⟩:=b6
 obtain⟨ik,b7⟩:=b7
 obtain⟨a0,a7,rfl,ft⟩:=b2
 have bl:=(Uj.cons (Uj.nil ac br bb) d6 (j:=22) O ft).st
 simp only[oG,nX] at bl
 obtain rfl: .tuple #[a0,a7]=cr:=((by rw[b3.1,←d7];try rfl:cr= .tuple #[a0,a7])).symm
 obtain rfl:a0=cs:=((by rw[b4,←b8];try rfl:cs=a0)).symm
 obtain rfl:a7=ct:=((by rw[b5,←b8];try rfl:ct=a7)).symm
 obtain rfl:a0=cu:=((by rw[b6,←d8];try rfl:cu=a0)).symm
 obtain rfl:a7=cv:=((by rw[b7,←d9];try rfl:cv=a7)).symm
 refine AZ (kp [3,2,0] O) (WF.sl (AF 5 (AA O (AA O (C7 O O (AD DI O (AD KO O (AG ?_))))))))
 obtain⟨az,ax,rfl,jq⟩:=bl.oslen (mt mh)
 refine Il (vs:=[(.slice az ay.2.length ax)]) (cs':=[.string p0_w.b.F,am,vI p0_w.b.R,an,ae,ao,ap,aq,ar,au,vI p0_w.b.U,af,ag,ah,ai,aj,vI p0_w.s.B,g,t,(.slice az ay.2.length ax),Y,u,y,z,ab,V]) O O O O Lp O bl (.tail (.tail (.tail .head))) O O λb9 ca cb=>AZ (kp [2,0] O) (AE (AI (AA O (C7 O O (AD G4 O (AD Do O (AS BY ca O (mt (mt (mt mh))) O Gu O (BC O (a6.mono' (e4.trans ((SX.ext ac.1 br (Yn bb)).trans cb))) Fy O λjr=>AA O (AN (kp [44,43,2,0] O) (BF (λa w=>∃(a4:List (List Int)) (a5:List Int),IV B (SX S2 h b1 (UX bk)) b9 (123,[]) a w [(0,vP c 0)] (OS BI 60 (.slice az ay.2.length ax) ay.2::OS (BW.sl AJ) 29 g a4::Bx c 84 [.string p0_w.b.F,am,vI p0_w.b.R,an,ae,ao,ap,aq,ar,au,vI p0_w.b.U,af,ag,ah,ai,aj,vI p0_w.s.B,g,t,(.slice az ay.2.length ax),Y,u,y,z,ab,V]::OS AJ 3 t p0_w.s.M::OS Bu 69 Y p0_w.s.Q::OS AJ 3 u p0_w.s.O::OS AJ 3 y p0_w.s.P::OS CF 50 z p0_w.moves::OS AJ 3 ab a5::OS BI 60 V p0_w.sent::L) λ_ _=>C6 N p0_w ay a4 a5=some r) ?_ ?_))))))))))
 ·refine BT (λn1=>λa w=>∃(av:Int) (a8:List (List Int)) (a9:List Int),IV B (SX S2 h b1 (UX bk)) b9 (123,[]) a w [(43,vI (↑p0_w.b.A.length:Int)),(2,a0),(0,vP c 0),(44,vI av)] (OS (BW.sl AJ) 29 a0 ay.1::OS BI 60 (.slice az ay.2.length ax) ay.2::OS (BW.sl AJ) 29 g a8::Bx c 84 [.string p0_w.b.F,am,vI p0_w.b.R,an,ae,ao,ap,aq,ar,au,vI p0_w.b.U,af,ag,ah,ai,aj,vI p0_w.s.B,g,t,(.slice az ay.2.length ax),Y,u,y,z,ab,V]::OS AJ 3 t p0_w.s.M::OS Bu 69 Y p0_w.s.Q::OS AJ 3 u p0_w.s.O::OS AJ 3 y p0_w.s.P::OS CF 50 z p0_w.moves::OS AJ 3 ab a9::OS BI 60 V p0_w.sent::L) λ_ _=>AH av∧Cq N p0_w ay (C6 N p0_w ay) n1 av a8 a9=some r) N ?_ ?_ ?_
  ·intro aa ww hf hw
   exact⟨0,p0_w.s.G,p0_w.peaks,_,_,hf.sub (kp [43,2,0,44] O),hw,ca,(Cv.refl (SX S2 h b1 (UX bk)) b9),(iq (n:=0) O),E⟩
  ·rintro aa ww ⟨_,_,_,_,_,_,_,_,_,_,E⟩
   rw[Cq] at E;cases E
  rintro n1 aa ww ⟨av,a8,a9,bc,cc,hf,hw,aw,cw,cd,E⟩
  refine A6 ?_ hf hw
  clear hf hw ww aa
  rw[Cq] at E
  refine AI (BK O (AN (kp [45,43,2,0,44] O) (AE (AX O E (λfu E=>?_) (λfu E=>?_)))))
  ·refine AT (AE (BV (AI (AA O (AM O (kp [4,43,2,0,44] O) (AE ?_))))))
   obtain⟨js,ea,E⟩:=bd E
   obtain⟨cx,eb,E⟩:=bd E
   obtain⟨jt,ec,E⟩:=bd E
   obtain⟨cy,ed,E⟩:=bd E
   obtain⟨ce,ee,E⟩:=bd E
   obtain⟨ju,ef,E⟩:=bd E
   refine MV (m:=[(4,vI av),(43,vI (↑p0_w.b.A.length:Int)),(2,a0),(0,vP c 0),(44,vI av)]) 20 (λi v hh=>match i with|0=>v=vP c 0|1=>v=vP c 0|2=>v=vP c 16|3=>v=vP c 17|4=>v=g|5=>v=vI av∧AH av|6=>v=vP c 0|7=>v=vP c 0|8=>v=vP c 16|9=>v=vP c 17|10=>v=g|11=>v=vI av∧AH av|12=>EP g (av.toNat*((BW.sl AJ)).sz+0) v|13=>Sl bc hh AJ v cx|14=>v=a0|15=>v=vI av∧AH av|16=>EP a0 (av.toNat*((BW.sl AJ)).sz+0) v|17=>Sl bc hh AJ v cy|18=>Sl (SN bc cc hh) hh AJ v ce|19=>EP g (av.toNat*((BW.sl AJ)).sz+0) v|_=>False) [[],[(0,47)],[(1,48)],[(2,49)],[(3,50)],[],[],[(6,53)],[(7,54)],[(8,55)],[(9,56)],[],[(10,57),(11,58)],[(12,59)],[],[],[(14,61),(15,62)],[(16,63)],[(13,60),(17,64)],[(4,51),(5,52)]] [(18,65),(19,66)] mo (by kernel_rfl) [4,43,2,0,44] O (by kernel_rfl) (by kernel_rfl) (by kernel_rfl) (kp [4,43,2,0,44] O) (λi v h1 h2 o1 o2 W=>?_) ?_ ?_
   ·match i,W with
     |0,W|1,W|2,W|3,W|4,W|5,W|6,W|7,W|8,W|9,W|10,W|11,W|12,W|14,W|15,W|16,W|19,W=>exact W
     |13,W|17,W=>exact Sl.mono' W (o2.ext λb hb=>nH (aw.1 b hb) o1.siz)
     |18,W=>exact Sl.mono' W (SN.mono aw.1 o1 o2)
     |_+20,W=>exact W.elim
   ·refine BP.cons O (λ_ _ _=>AF 1 (AA O (AO O))) (BP.cons O (λ_ _ _ _ fv=>by cases fv;exact AF 1 (C7 O O (AO O))) (BP.cons O (λ_ _ _ _ fw=>by cases fw;exact AF 1 (AD DI O (AO O))) (BP.cons O (λ_ _ _ _ fx=>by cases fx;exact AF 1 (AD Eo O (AO O))) (BP.cons O (λ_ _ o _ fy=>by cases fy;exact AF 1 (AS BY (o.st aw) O (mt (mt (mt mh))) O Hz O (AO O))) (BP.cons O (λ_ _ _=>AF 1 (AA O (AO ⟨O,cd⟩))) (BP.cons O (λ_ _ _=>AF 1 (AA O (AO O))) (BP.cons O (λ_ _ _ _ f0=>by cases f0;exact AF 1 (C7 O O (AO O))) (BP.cons O (λ_ _ _ _ f1=>by cases f1;exact AF 1 (AD DI O (AO O))) (BP.cons O (λ_ _ _ _ f2=>by cases f2;exact AF 1 (AD Eo O (AO O))) (BP.cons O (λ_ _ o _ f3=>by cases f3;exact AF 1 (AS BY (o.st aw) O (mt (mt (mt mh))) O Hz O (AO O))) (BP.cons O (λ_ _ _=>AF 1 (AA O (AO ⟨O,cd⟩))) ?_)))))))))))
    refine BP.cons O (λ_ _ o=>by intro jv f4 jw f5;cases f4;obtain ⟨rfl,jx⟩:=f5;exact AF 1 (BU (o.st aw) (mt (mt mh)) O O Fx ea O λjy eg=>AO eg)) ?_
    refine BP.cons O ?_ ?_
    ·intro mq hh o
     intro jz f6
     have ad:=o.st aw
     refine AF 1 ?_
     have f7:=ad.epAt (mt (mt mh)) eb GM.id f6
     exact BG BY (λ_ x=>x) O f7 CG O λj0 f8=>AO f8
    refine BP.cons O (λ_ _ _=>AF 1 (AA O (AO O))) (BP.cons O (λ_ _ _=>AF 1 (AA O (AO ⟨O,cd⟩))) (BP.cons O (λ_ _ o=>by intro j1 f9 j2 ga;cases f9;obtain ⟨rfl,j3⟩:=ga;exact AF 1 (BU (o.st aw) mh O O Fx ec O λj4 eh=>AO eh)) ?_))
    refine BP.cons O ?_ ?_
    ·intro mq hh o
     intro j5 gb
     have ad:=o.st aw
     refine AF 1 ?_
     have gc:=ad.epAt mh ed GM.id gb
     exact BG BY (λ_ x=>x) O gc CG O λj6 gd=>AO gd
    refine BP.cons O ?_ ?_
    ·intro mq hh o
     intro ge be gf bf
     have ad:=SN.st aw o
     have be:=Sl.mono' (S':=(SN bc cc hh)) be ⟨λb hb=> .inl hb,λ_ _=>rfl,nJ _⟩
     have be:Sl _ _ AJ ge cx:=be
     have bf:=Sl.mono' (S':=(SN bc cc hh)) bf ⟨λb hb=> .inl hb,λ_ _=>rfl,nJ _⟩
     have bf:Sl _ _ AJ gf cy:=bf
     have co:=ad.fz
     refine CJ O O O YK O co (MD (St.all _) (be.mono (λb hb=>co.1 b hb) (λ_ _=>rfl)) (bf.mono (λb hb=>co.1 b hb) (λ_ _=>rfl)) ee) λj7 j8 j9 il gg gh p=>?_
     have ei:=p
     have cf:=co.join gh ei ⟨OS.flat (λ{_ _ _ _ _ _} k=>k),trivial⟩
     simp only[oG,nX] at cf
     obtain⟨ka,ej,gi,gj⟩:=cf.pubs .head
     have cg:=Fz.done o (gg.trans gi) ej
     exact DV cg.1 (Sl.mono' gj cg.2)
    exact BP.cons O (λ_ _ o=>by intro kb gl kc gm;cases gl;obtain ⟨rfl,kd⟩:=gm;exact AF 1 (BU (o.st aw) (mt (mt mh)) O O Fx ef O λke ek=>AO ek)) trivial
   intro kf cz gn ch kg gp
   have el:=SN.st aw cz
   have ch:Sl _ _ AJ gn ce:=ch
   obtain⟨gq,em,E⟩:=bd E
   refine Fm (r:=(BW.sl AJ)) (l:=a8) (i:=av) (x:=gq) O O (NR ch) gp em ML.id CG (λ_=>rfl) el (.tail (.tail .head)) λkh a1 gr=>AZ (kp [4,43,2,0,44] O) (Lk 15 mo (by kernel_rfl) O a1 (AA O (C7 O O (AD KN O (AS CL a1 O (mt (mt (mt mh))) O CG O (AA O (AA O (C7 O O (AD DI O (AD Eo O (AS CL a1 O (mt (mt (mt mh))) O Hz O (AA O ?_))))))))))))
   obtain⟨ki,en,E⟩:=bd E
   refine BU a1 (mt (mt mh)) O O Fx en O λkj eo=>?_
   obtain⟨kk,ep,E⟩:=bd E
   have gs:=a1.epAt (mt (mt mh)) ep GM.id eo
   refine BG CL (λ_ x=>x) O gs CG O λkl gt=>?_
   obtain⟨c0,eq,E⟩:=bd E
   refine DF O O O Nj O (λh' o=>Fg (St.all h') (gt.mono' (o.all a1.1)) eq) λgu=>?_
   have gw:=gu
   obtain⟨km,er,E⟩:=bd E
   refine BU a1 (mt (mt (mt (mt (mt (mt (mt (mt (mt mh))))))))) O O CA er O λkn es=>KT λko et gx=>?_
   obtain⟨gy,eu,E⟩:=bd E
   refine Fm (r:=AJ) (l:=a9) (i:=av) (x:=gy) O O (⟨_,O,O,gw⟩:Rd _ _ AJ _ c0) es eu ML.id A7 (λ_=>rfl) et (.tail (.tail (.tail (.tail (.tail (.tail (.tail (.tail (.tail .head))))))))) λkq ew gz=>AZ (kp [43,2,0,44] O) (B5 (CN (.inl O) (BB O (AA O (AN (kp [44,43,2,0] O) (WF.nil (λaa ww hf hw=>?_)))))))
   exact⟨(B0 (av+1)),(upd a8 av ce),(upd a9 av c0),_,_,hf.sub (kp [43,2,0,44] O),hw,ew,(cw.trans ((SN.ext aw.1 cz).trans (gr.trans (gx.trans gz)))),(B1 _),E⟩
  refine By O (λaa ww hf hw=>?_)
  have ey:=aw.sel [1,1,1,1,1,1,1,1,1,1] 1 O
  exact⟨a8,a9,_,_,hf.sub (kp [0] O),hw,ey,cw,E⟩
 rintro aa ww ⟨a4,a5,c1,c2,hf,hw,ci,c3,E⟩
 refine A6 ?_ hf hw
 clear hf hw ww aa
 rw[C6] at E
 refine AI (AA O (C7 O O (AD G4 O (AD H1 O (AS BY ci O (mt (mt mh)) O KY O ?_)))))
 have c4:=bu.mono' (e4.trans ((SX.ext ac.1 br (Yn bb)).trans (cb.trans c3)))
 refine BC O c4 Io O λkr=>AA O (AN (kp [89,88,87,0] O) (BV (BT (λn2=>λa w=>∃(a2:Int) (ba:List BH),IV B c1 c2 (123,[]) a w [(88,vI (↑p0_w.b.E.length:Int)),(87,ae),(0,vP c 0),(89,vI a2)] (OS BI 60 (.slice az ay.2.length ax) ay.2::OS (BW.sl AJ) 29 g a4::Bx c 84 [.string p0_w.b.F,am,vI p0_w.b.R,an,ae,ao,ap,aq,ar,au,vI p0_w.b.U,af,ag,ah,ai,aj,vI p0_w.s.B,g,t,(.slice az ay.2.length ax),Y,u,y,z,ab,V]::OS AJ 3 t p0_w.s.M::OS Bu 69 Y ba::OS AJ 3 u p0_w.s.O::OS AJ 3 y p0_w.s.P::OS CF 50 z p0_w.moves::OS AJ 3 ab a5::OS BI 60 V p0_w.sent::L) λ_ _=>AH a2∧Ca N p0_w ay a4 a5 n2 a2 ba=some r) N ?_ ?_ ?_)))
 ·intro aa ww hf hw
  exact⟨0,p0_w.s.Q,_,_,hf.sub (kp [88,87,0,89] O),hw,ci,(Cv.refl c1 c2),(iq (n:=0) O),E⟩
 ·rintro aa ww ⟨_,_,_,_,_,_,_,_,_,E⟩
  rw[Ca] at E;cases E
 rintro n2 aa ww ⟨a2,ba,g0,g1,hf,hw,bm,cj,ks,E⟩
 refine A6 ?_ hf hw
 clear hf hw ww aa
 rw[Ca] at E
 refine AI (BK O (AN (kp [90,88,87,0,89] O) (AE (AX O E (λg2 E=>?_) (λg2 E=>?_)))))
 ·refine AT (AE (BF (λa w=>∃(bs:List BH),IV B g0 g1 (123,[]) a w [(88,vI (↑p0_w.b.E.length:Int)),(87,ae),(0,vP c 0),(89,vI a2)] (OS BI 60 (.slice az ay.2.length ax) ay.2::OS (BW.sl AJ) 29 g a4::Bx c 84 [.string p0_w.b.F,am,vI p0_w.b.R,an,ae,ao,ap,aq,ar,au,vI p0_w.b.U,af,ag,ah,ai,aj,vI p0_w.s.B,g,t,(.slice az ay.2.length ax),Y,u,y,z,ab,V]::OS AJ 3 t p0_w.s.M::OS Bu 69 Y bs::OS AJ 3 u p0_w.s.O::OS AJ 3 y p0_w.s.P::OS CF 50 z p0_w.moves::OS AJ 3 ab a5::OS BI 60 V p0_w.sent::L) λ_ _=>Es N a2 (Ca N p0_w ay a4 a5 n2) bs=some r) ?_ ?_))
  ·refine WF.sl (AF 3 (AA O ?_))
   obtain⟨d,ez,E⟩:=bd E
   refine Bz O O (c4.mono' cj) Io ez O λkt g3=>Ci BY bm.1 O g3 IJ (λe=>by cases e) O λku g4=>AG (Di O1 O bm λkv kw e0 ck=>AF 1 (AY O (AG ?_)))
   obtain⟨cl,cm,cn,rfl,g5,g6,g7,g8,c5,c6,c7,g9,ha,hc,hd,he,hg,hi,hj,hk,hl,hm⟩:=Ce.ex (g4.mono ck)
   refine IA (vs:=[.string d.F,vI d.C,vI d.I,vI d.D,cl,cm,cn,vI d.T,vI d.Z,vI d.Ao,vI d.Ap,vI d.S,vI d.L,vI d.Ah,vI d.Ai,vI d.Ac,vI d.Ab,vI d.K]) (cs':=[.string d.F,vI d.C,vI d.I,vI d.D,cl,cm,cn,vI d.T,vI d.Z,vI d.Ao,vI d.Ap,vI d.S,vI d.L,vI d.Ah,vI d.Ai,vI d.Ac,vI d.Ab,vI d.K]) O O O (AC O (AC O (AC O (AC O (AC c5.one (AC c6.one (AC c7.one (AC O (AC O (AC O (AC O (AC O (AC O (AC O (AC O (AC O (AC O (AC O FA)))))))))))))))))) IJ O e0 .head O O λkx ak bg=>AZ (kp [5,6,88,87,0,89] O) (AI (AD G5 O (AS BY ak O mh O A7 O (B9 O (AN (kp [96,5,6,88,87,0,89] O) (AX O E (λhn E=>?_) (λhn E=>?_)))))))
   ·refine Lk 25 mo (by kernel_rfl) O ak (AA O (C7 O O (AD DI O (AD Ie O (AS CL ak O (mt (mt (mt mh))) O K9 O (AA O (EH (vs:=[.string d.F,vI d.C,vI d.I,vI d.D,cl,cm,cn,vI d.T,vI d.Z,vI d.Ao,vI d.Ap,vI d.S,vI d.L,vI d.Ah,vI d.Ai,vI d.Ac,vI d.Ab,vI d.K]) CL ak O mh O O IJ O O (AA O (C7 O O (AD DI O (AD Ie O (AS CL ak O (mt (mt (mt mh))) O K9 O (AA O ?_)))))))))))))
    obtain⟨ky,e1,E⟩:=bd E
    refine BU ak (mt (mt (mt (mt (mt mh))))) O O Ks e1 O λkz e2=>?_
    obtain⟨k0,e3,E⟩:=bd E
    have ho:=ak.epAt (mt (mt (mt (mt (mt mh))))) e3 GM.id e2
    refine Ci CL (λ_ x=>x) O ho He (λe=>by cases e) O λk1 hp=>AA O (C7 O O (AD KN O (AS CL ak O (mt (mt (mt mh))) O CG O (AD Js O (AS CL ak O mh O A7 O ?_)))))
    obtain⟨k2,e5,E⟩:=bd E
    refine BU ak (mt (mt (mt (mt (mt (mt (mt (mt (mt mh))))))))) O O CA e5 O λk3 e6=>?_
    obtain⟨k4,e7,E⟩:=bd E
    have hq:=ak.epAt (mt (mt (mt (mt (mt (mt (mt (mt (mt mh))))))))) e7 GM.id e6
    refine A9 CL (λ_ x=>x) O hq A7 O λht=>?_
    obtain⟨c8,e8,E⟩:=bd E
    refine DF O O O jQ O (λh' o=>PN (St.all h') (Ce.mk (x:=d) g5 g6 g7 g8 ((c5.mono' bg).mono' (o.all ak.1)) ((c6.mono' bg).mono' (o.all ak.1)) ((c7.mono' bg).mono' (o.all ak.1)) g9 ha hc hd he hg hi hj hk hl hm) (hp.mono (o.all ak.1)) ht e8) λhu=>?_
    obtain⟨hv,hx⟩:=hu
    obtain⟨k5,e9,E⟩:=bd E
    refine BU ak (mt (mt (mt (mt (mt mh))))) O O Ks e9 O λk6 fa=>KT λk7 fb hy=>?_
    obtain⟨h0,fc,E⟩:=bd E
    refine Fm (r:=Bu) (l:=ba) (i:=a2) (x:=h0) O O (Bu.mk (x:=c8) ⟨hv,hx⟩) fa fc ML.id He (λe=>by cases e) fb (.tail (.tail (.tail (.tail (.tail .head))))) λk8 fd h3=>AZ (kp [88,87,0,89] O) (WF.nil (λaa ww hf hw=>?_))
    have fe:=fd.sel [1,1,1,1,1,1,1,1,1,1] 1 O
    exact⟨(upd ba a2 c8),_,_,hf.sub (kp [88,87,0,89] O),hw,fe,(ck.trans (bg.trans (hy.trans h3))),E⟩
   refine AT (WF.nil (λaa ww hf hw=>?_))
   have ff:=ak.sel [1,1,1,1,1,1,1,1,1,1] 1 O
   exact⟨ba,_,_,hf.sub (kp [88,87,0,89] O),hw,ff,(ck.trans bg),E⟩
  rintro aa ww ⟨bs,k9,la,hf,hw,fg,h4,E⟩
  refine A6 ?_ hf hw
  clear hf hw ww aa
  rw[Es] at E
  refine CN (.inl O) (BB O (AA O (AN (kp [89,88,87,0] O) (WF.nil (λaa ww hf hw=>?_)))))
  exact⟨(B0 (a2+1)),bs,_,_,hf.sub (kp [88,87,0,89] O),hw,fg,(cj.trans h4),(B1 _),E⟩
 refine LN O (WF.nil (λaa ww hf hw=>?_))
 have fh:=bm.sel [2,1,1,0,0,0,0,0,0,0] 0 O
 cases E
 exact Kn hf O hw Km O (e4.trans ((SX.ext ac.1 br (Yn bb)).trans (cb.trans (c3.trans cj)))) ⟨_,_,_,_,O,fh⟩
def Lu (hs:St S L h) {j:Value}{d:(List Int)}(o:Sl S h AJ j d) {b:Value}{c:(List Int)}(k:Sl S h AJ b c) {r:(List Int)}(E:Hj N d c=some r):
 C5 prog 96 #[j,b] S h (λv S' h'=>St S' (OS AJ 3 v r::L) h'):=by
 refine Bv (l:=[j,b]) 30 func96 O ntmps96 O λB=>?_
 rw[Hj] at E
 refine AI (AM O (kp [0,1] O) (WF.sl (AF 2 (AA O (BC O o CA O λb1=>AG ?_)))))
 obtain⟨Y,E⟩:=Mc E
 refine Jk (r:=AJ) (zx:=0) GK O ⟨O,by unfold AH;omega⟩ O O Y O O hs λX h4 Z e6=>AF 1 (AY O (AG (AZ (kp [5,0,1] O) (WF.sl (AF 2 (AA O (AA O (AG (Sm (r:=AJ) (l:=(List.replicate ((↑d.length:Int):Int).toNat (0:Int))) (xs:=d) O O CA (Sl.src (o.mono' e6)) O Z .head λh8 ab C=>AZ (kp [5,1] O) (AE (AI (AA O ?_))))))))))))
 have D:=k.mono' (e6.trans C)
 refine BC O D CA O λai=>AA O (AN (kp [16,15,14,5] O) (BF (λa w=>∃(z:List Int),IV B S h8 (30,[]) a w [(5,X)] (OS AJ 3 X z::L) λ_ _=>G6 N z=some r) ?_ ?_))
 ·refine BT (λn1=>λa w=>∃(m:Int) (p:List Int),IV B S h8 (30,[]) a w [(15,vI (↑c.length:Int)),(14,b),(5,X),(16,vI m)] (OS AJ 3 X p::L) λ_ _=>AH m∧Fa N c (G6 N) n1 m p=some r) N ?_ ?_ ?_
  ·intro u y s t
   exact⟨0,(NO (List.replicate ((↑d.length:Int):Int).toNat (0:Int)) d),_,_,s.sub (kp [15,14,5,16] O),t,ab,(Cv.refl S h8),(iq (n:=0) O),E⟩
  ·rintro u y ⟨_,_,_,_,_,_,_,_,_,E⟩
   rw[Fa] at E;cases E
  rintro n1 u y ⟨m,p,aj,ak,s,t,g,A,al,E⟩
  refine A6 ?_ s t
  clear s t y u
  rw[Fa] at E
  refine AI (BK O (AN (kp [17,15,14,5,16] O) (AE (AX O E (λac E=>?_) (λac E=>?_)))))
  ·refine AT (AE (BV (AI (AA O ?_))))
   obtain⟨F,G,E⟩:=bd E
   refine Bz O O (D.mono' A) CA G O λam ad=>A9 BY g.1 O ad A7 O λan=>AY O (AM O (kp [7,6,15,14,5,16] O) (FO (AF 7 (AA O (AA O ?_)))))
   obtain⟨ao,H,E⟩:=bd E
   refine BU g mh O O CA H O λap I=>?_
   obtain⟨J,K,E⟩:=bd E
   have ae:=g.epAt mh K GM.id I
   refine A9 BY (λ_ x=>x) O ae A7 O λaq=>AA O (Dk O ?_)
   obtain⟨ar,M,E⟩:=bd E
   refine BU g mh O O CA M O λau Q=>AG ?_
   obtain⟨af,U,E⟩:=bd E
   refine Fm (r:=AJ) (l:=p) (i:=m) (x:=af) O O (⟨_,O,O,(B1 _)⟩:Rd _ _ AJ _ (B0 (J-F))) Q U ML.id A7 (λ_=>rfl) g .head λav V ag=>AZ (kp [15,14,5,16] O) (B5 (CN (.inl O) (BB O (AA O (AN (kp [16,15,14,5] O) (WF.nil (λu y s t=>?_)))))))
   exact⟨(B0 (m+1)),(upd p m (B0 (J-F))),_,_,s.sub (kp [15,14,5,16] O),t,V,(A.trans ag),(B1 _),E⟩
  refine By O (λu y s t=>?_)
  exact⟨p,_,_,s.sub (kp [5] O),t,g,A,E⟩
 rintro u y ⟨z,aw,ax,s,t,W,ah,E⟩
 refine A6 ?_ s t
 clear s t y u
 rw[G6] at E
 refine AI (AA O (AM O (kp [4] O) (A5 (λu y s t=>?_))))
 cases E
 exact Ee s t O O (e6.trans (C.trans ah)) W
def Qq (hs:St S L h) {d:Value}{g:(List Int)}(m:Sl S h AJ d g) {c:Int}(n:AH c) {j:Int}(y:AH j) {r:(List Int)×(List Int)}(E:Ke N g c j=some r):
 C5 prog 84 #[d,vI c,vI j] S h (λv S' h'=>∃F G:Value,v= .tuple #[F,G]∧St S' (OS AJ 3 F r.1::OS AJ 3 G r.2::L) h'):=by
 refine Bv (l:=[d,vI c,vI j]) 27 func84 O ntmps84 O λB=>?_
 rw[Ke] at E
 refine AI (AY O (AM O (kp [0,1,2] O) (WF.sl (AF 2 (AA O (BC O m CA O λb1=>AG ?_))))))
 obtain⟨Z,E⟩:=Mc E
 refine Jk (r:=AJ) (zx:=0) GK O ⟨O,by unfold AH;omega⟩ O O Z O O hs λv3 h4 H e6=>AF 1 (AY O (AG (AZ (kp [6,0,1,2] O) (AE (AE (CX (.inl O) H (AA O (AA O (AA O ?_)))))))))
 obtain⟨y8,ab,E⟩:=bd E
 refine DF O O O aO O (λh' o=>OC (St.all h') ((m.mono' e6).mono' (o.all H.1)) n ab) λr9=>?_
 have ac:=r9
 refine Sh O O O (AY O (B3 (kp [8,6,0,1] O) λI t ad=>AI (AA O (CP O (AN (kp [18,8,6,0,1] O) (HN (λa w=>∃(D:List Int),IV B S I (27,[]) a w [(6,v3),(0,d)] (OS AJ 3 v3 D::L) λ_ _=>IT N g D=some r) ?_ ?_))))))
 ·refine AX O E (λae E=>?_) (λae E=>?_)
  ·refine FO (AF 4 (AA O (AA O (AA O ?_))))
   obtain⟨al,J,E⟩:=bd E
   refine BU t mh O O CA J O λam K=>AG ?_
   obtain⟨af,M,E⟩:=bd E
   refine Fm (r:=AJ) (l:=(List.replicate ((↑g.length:Int):Int).toNat (0:Int))) (i:=c) (x:=af) O O (⟨_,O,O,(Lx y ac)⟩:Rd _ _ AJ _ (min j y8)) K M ML.id A7 (λ_=>rfl) t .head λan Q ag=>AZ (kp [6,0] O) (WF.nil (λX Y u z=>?_))
   exact⟨(upd (List.replicate ((↑g.length:Int):Int).toNat (0:Int)) c (min j y8)),_,_,u.sub (kp [6,0] O),z,Q,ag,E⟩
  refine AT (WF.nil (λX Y u z=>?_))
  exact⟨(List.replicate ((↑g.length:Int):Int).toNat (0:Int)),_,_,u.sub (kp [6,0] O),z,t,(Cv.refl S I),E⟩
 rintro X Y ⟨D,ao,ap,u,z,s,ah,E⟩
 refine A6 ?_ u z
 clear u z Y X
 rw[IT] at E
 refine WF.sl (AF 3 (AA O (AA O (AA O (AG ?_)))))
 have A:=e6.trans (ad.trans ah)
 obtain⟨aq,U,E⟩:=bd E
 refine CJ O O O aI O s (Lu (St.all _) ((m.mono' A).mono (λb hb=>s.1 b hb) (λ_ _=>rfl)) (s.oslAll mh) U) λar au av ak ai aj p=>?_
 have V:=p
 have C:=s.join aj V ⟨OS.flat (λ{_ _ _ _ _ _} k=>k),trivial⟩
 simp only[oG,nX] at C
 refine AF 2 (AY O (AY O (AG (AZ (kp [7,6] O) (A5 (λX Y u z=>?_))))))
 have W:=C.sel [1,0] 0 O
 cases E
 exact Kn u O z (Ix (JP u (v:=_) O) (Ix (JP u (v:=_) O) Km)) O (A.trans ai) ⟨_,_,O,W⟩
end Go.Proofs.YtblcgjadhemlbaaGreat
