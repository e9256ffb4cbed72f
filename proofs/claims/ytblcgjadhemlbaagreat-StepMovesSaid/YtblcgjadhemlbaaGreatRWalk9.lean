import Derived.Test.YtblcgjadhemlbaaGreatRWalk8
namespace Go.Proofs.YtblcgjadhemlbaaGreat
open Go.RowKit
set_option linter.unusedVariables false
set_option linter.unusedSimpArgs false
set_option maxRecDepth 10000
set_option maxHeartbeats 2000000
variable {N:Nat}{S:Nat→Prop}{L:List HP}{h:Aw}
theorem Ox (hs:St S L h) {d:Value}{p:A7}(n:Rd S h Bu d p) {g:Value}{b:Ax}(o:Rd S h BJ g b) {i:Int}(W:AH i) {r:Ax}(E:HX N p b i=some r):
 CL Tryz.prog 23 #[d,g,vI i] S h (λv S' h'=>v= .agg #[vI r.Pos,vI r.Target,.bool r.Stuck,.bool r.Open]∧Ax.ok r∧St S' (L) h'):=by
 refine BG (l:=[d,g,vI i]) 24 Tryz.func23 O Tryz.ntmps23 O λB=>?_
 rw[HX] at E
 refine WF.sl (B4 O n (λe=>by cases e) O hs λq1 S2 h3 X Y k6=>?_)
 obtain⟨rfl,⟨r9,D⟩⟩:=BJ.ex (o.mono Y)
 refine P9 O O O X λF am G x=>Cp SA O G λH I c y=>AZ (kp [6,4,3,2] O) (AC (AI ?_))
 have z:=k6.mono (x.trans y)
 refine Ae O z A7.f_Kind GK O λan Z=>Af A9 c.1 O Z Ag O λao=>Bt O (AN (kp [9,6,4,3,2] O) (AW O E (λab E=>?_) (λab E=>?_)))
 ·refine WF.sl (AG 1 (Db (vs:=[vI b.Pos,vI b.Target,.bool b.Stuck,.bool b.Open]) A9 c O (mt mh) O O Gt O O (AF (Du (vs:=[vI b.Pos,vI b.Target,.bool b.Stuck,.bool b.Open]) O O O O Gt O c .head O λap J ac=>AZ (kp [6] O) (Ad (λA C j k=>?_))))))
  have s:=J.drop (.tail .head)
  have K:=s.drop .head
  cases E
  exact KH j O k (IK (XX j k s O mh Gt O) KG) O (Y.trans (x.trans (y.trans ac))) ⟨O,⟨r9,D⟩,K⟩
 refine AQ (AC (Am (λa w=>∃(m:Bool),IV B S2 I (24,[]) a w [(6,vP H 0),(4,vP F 0)] (Bx H 69 [vI 0,vI 0,.bool false,.bool false]::Bx F 69 [vI b.Pos,vI b.Target,.bool b.Stuck,.bool m]::L) λ_ _=>Hm N b m=some r) ?_ ?_))
 ·refine AI (AA O (Ae O z J2 Ny O λaq ad=>Af A9 c.1 O ad Ag O λar=>Gf O (AK O (kp [11,6,4,3,2] O) (AW O E (λae E=>?_) (λae E=>?_)))))
  ·refine D3 (AG 1 (AD Nv O (AF (H6 (vs:=[.bool true]) (cs':=[vI b.Pos,vI b.Target,.bool b.Stuck,.bool true]) O O O O Oo O c (.tail .head) O O λau M af=>AZ (kp [6,4] O) (WF.nil (λA C j k=>?_))))))
   exact⟨true,_,_,j.sub (kp [6,4] O),k,M,af,E⟩
  refine AI (AA O (Ae O z J3 Nx O λav ag=>Af A9 c.1 O ag Ag O λaw=>GQ O (AK O (kp [17,6,4] O) (AW O E (λah E=>?_) (λah E=>?_)))))
  ·refine D3 (AG 1 (AD Nv O (AF (H6 (vs:=[.bool false]) (cs':=[vI b.Pos,vI b.Target,.bool b.Stuck,.bool false]) O O O O Oo O c (.tail .head) O O λax Q ai=>AZ (kp [6,4] O) (WF.nil (λA C j k=>?_))))))
   exact⟨false,_,_,j.sub (kp [6,4] O),k,Q,ai,E⟩
  refine AQ (WF.nil (λA C j k=>?_))
  exact⟨b.Open,_,_,j.sub (kp [6,4] O),k,c,(CA.refl S2 I),E⟩
 rintro A C ⟨m,ay,az,j,k,t,aj,E⟩
 refine Ac ?_ j k
 clear j k C A
 rw[Hm] at E
 refine WF.sl (AG 1 (Db (vs:=[vI b.Pos,vI b.Target,.bool b.Stuck,.bool m]) A9 t O (mt mh) O O Gt O O (AF (Du (vs:=[vI b.Pos,vI b.Target,.bool b.Stuck,.bool m]) O O O O Gt O t .head O λa0 U ak=>AZ (kp [6] O) (Ad (λA C j k=>?_))))))
 have u:=U.drop (.tail .head)
 have V:=u.drop .head
 cases E
 exact KH j O k (IK (XX j k u O mh Gt O) KG) O (Y.trans (x.trans (y.trans (aj.trans ak)))) ⟨O,⟨r9,D⟩,V⟩
theorem Ld {c:Nat}{p0_w:Aq}{V:Value}{W:Value}{H:Value}{Y:Value}{Z:Value}{ab:Value}{ac:Value}{ad:Value}{I:Value}{J:Value}{K:Value}{M:Value}{Q:Value}{g:Value}{t:Value}{an:Value}{C:Value}{u:Value}{y:Value}{z:Value}{D:Value}{A:Value}(hs:St S (Bx c 84 [.string p0_w.b.Name,V,vI p0_w.b.Cells,W,H,Y,Z,ab,ac,ad,vI p0_w.b.Err,I,J,K,M,Q,vI p0_w.s.Hour,g,t,an,C,u,y,z,D,A]::OO AM.int 3 29 g p0_w.s.Own::OS AM.int 3 t p0_w.s.Rem::OS BJ 69 C p0_w.s.Gates::OS AM.int 3 u p0_w.s.In::OS AM.int 3 y p0_w.s.Out::OS BH 50 z p0_w.moves::OS AM.int 3 D p0_w.peaks::OS Ap 60 A p0_w.sent::L) h) (ew:p0_w.b.Name.size≤maxLen) (ba:Sl S h AM.str V p0_w.b.Owners) (ey:AH p0_w.b.Cells) (aq:Sl S h B0 W p0_w.b.Places) (bb:Sl S h Bu H p0_w.b.Links) (ez:Sl S h GT Y p0_w.b.Towns) (e0:Sl S h Ed Z p0_w.b.Gauges) (e1:Sl S h Fv ab p0_w.b.Roads) (e2:Sl S h Cz ac p0_w.b.Shelters) (e3:Sl S h AM.int ad p0_w.b.Room) (cq:AH p0_w.b.Err) (cr:Sl S h AM.int I p0_w.in_.Rain) (cs:Sl S h FT J p0_w.in_.Faults) (ct:Sl S h Ik K p0_w.in_.Cmds) (cu:Sl S h Fd M p0_w.in_.Takes) (cv:Sl S h GH Q p0_w.in_.Swaps) (a2:AH p0_w.s.Hour) (a3:Sl S h Ap an p0_w.s.Queue) {r:(List (List Int))×(List Al)×(List Ax)×(List Int)}(E:GE N p0_w=some r):
 CL Tryz.prog 33 #[vP c 0] S h (λv S' h'=>∃w_0_17 w_0_19 w_0_20 w_0_24:Value,v= .tuple #[]∧St S' (Bx c 84 [.string p0_w.b.Name,V,vI p0_w.b.Cells,W,H,Y,Z,ab,ac,ad,vI p0_w.b.Err,I,J,K,M,Q,vI p0_w.s.Hour,w_0_17,t,w_0_19,w_0_20,u,y,z,w_0_24,A]::OS (AM.sl AM.int) 29 w_0_17 r.1::OS AM.int 3 t p0_w.s.Rem::OS Ap 60 w_0_19 r.2.1::OS BJ 69 w_0_20 r.2.2.1::OS AM.int 3 u p0_w.s.In::OS AM.int 3 y p0_w.s.Out::OS BH 50 z p0_w.moves::OS AM.int 3 w_0_24 r.2.2.2::OS Ap 60 A p0_w.sent::L) h'):=by
 refine BG (l:=[vP c 0]) 123 Tryz.func33 O Tryz.ntmps33 O λB=>?_
 rw[GE] at E
 have ha:=hs.pick (.tail .head)
 obtain⟨S2,G,e4⟩:=ha.ooPub
 refine AC ?_
 obtain⟨ah,e5,E⟩:=bd E
 refine Rs (m:=[(0,vP c 0)]) [] [] [(23,[22]),(24,[23]),(25,[23]),(26,[24]),(27,[25])] (by kernel_rfl) (λgv X F i v hh=>match i with|0=>v=vP c 0|1=>v=vP c 0|2=>v=vP c 16|3=>v=vP c 19|4=>Sl S2 hh Ap v p0_w.s.Queue|5=>v=vP c 0|6=>v=vP c 0|7=>v=vP c 16|8=>v=vP c 16|9=>v=vI p0_w.s.Hour∧AH p0_w.s.Hour|10=>v=vP c 0|11=>v=vP c 0|12=>v=vP c 0|13=>v=vP c 3|14=>Sl S2 hh B0 v p0_w.b.Places|15=>v=vI (↑p0_w.b.Places.length:Int)∧AH (↑p0_w.b.Places.length:Int)|16=>v=vP c 0|17=>v=vP c 0|18=>v=vP c 0|19=>v=vP c 1|20=>Sl S2 hh AM.str v p0_w.b.Owners|21=>v=vI (↑p0_w.b.Owners.length:Int)∧AH (↑p0_w.b.Owners.length:Int)|22=>∃w0 w1:Value,v= .tuple #[w0,w1]∧OW S2 h X F [OS (AM.sl AM.int) 29 w0 ah.1,OS Ap 60 w1 ah.2] hh|23=>v=gv 22∧∃w0 w1:Value,v= .tuple #[w0,w1]|24=>v=Ys (gv 23) 0|25=>v=Ys (gv 23) 1|26=>v=gv 24|27=>v=gv 25|_=>False) [[],[(0,8)],[(1,9)],[(2,10)],[(3,11)],[],[(5,13)],[(6,14)],[(7,15)],[(8,16)],[],[(10,18)],[(11,19)],[(12,20)],[(13,21)],[(14,22)],[],[(16,24)],[(17,25)],[(18,26)],[(19,27)],[(20,28)],[(4,12),(9,17),(15,23),(21,29)],[(22,30)],[(23,7)],[(23,7)],[(24,31)],[(25,32)]] [(22,30),(23,7),(24,31),(25,32),(26,2),(27,3)] mo (by kernel_rfl) [0] O (by kernel_rfl) (by kernel_rfl) (by kernel_rfl) O (kp [0] O) (λgv i v h1 h2 X X' F o1 o2 hF u1 u2 hr=>?_) (λgv gv' X F i v h1 hz hr=>?_) ?_ ?_ ?_
 ·match i,hr with
   |0,hr|1,hr|2,hr|3,hr|5,hr|6,hr|7,hr|8,hr|9,hr|10,hr|11,hr|12,hr|13,hr|15,hr|16,hr|17,hr|18,hr|19,hr|21,hr|23,hr|24,hr|25,hr|26,hr|27,hr=>exact hr
   |4,hr|14,hr|20,hr=>exact Sl.mono' hr (o2.ext λb hb=>Nat.lt_of_lt_of_le (G.1 b hb) o1.siz)
   |22,hr=>obtain⟨w0,w1,ev,q⟩:=hr;exact⟨w0,w1,ev,OW.mono G.1 o1 o2 hF u1 u2 q⟩
   |_+28,hr=>exact hr.elim
 ·match i,hr with
   |0,hr|1,hr|2,hr|3,hr|4,hr|5,hr|6,hr|7,hr|8,hr|9,hr|10,hr|11,hr|12,hr|13,hr|14,hr|15,hr|16,hr|17,hr|18,hr|19,hr|20,hr|21,hr|22,hr=>exact hr
   |23,hr=>rw[hz _ List.mem_cons_self O 22 (by decide)] at hr;exact hr
   |24,hr=>rw[hz _ (List.mem_cons_of_mem _ List.mem_cons_self) O 23 (by decide)] at hr;exact hr
   |25,hr=>rw[hz _ (List.mem_cons_of_mem _ (List.mem_cons_of_mem _ List.mem_cons_self)) O 23 (by decide)] at hr;exact hr
   |26,hr=>rw[hz _ (List.mem_cons_of_mem _ (List.mem_cons_of_mem _ (List.mem_cons_of_mem _ List.mem_cons_self))) O 24 (by decide)] at hr;exact hr
   |27,hr=>rw[hz _ (List.mem_cons_of_mem _ (List.mem_cons_of_mem _ (List.mem_cons_of_mem _ (List.mem_cons_of_mem _ List.mem_cons_self)))) O 25 (by decide)] at hr;exact hr
   |_+28,hr=>exact hr.elim
 ·exact trivial
 ·refine CC.cons O O ?_ ?_
  ·intro gv X mq hh o hX
   have hsN:=o.st G
   exact AG 1 (AA O (AO O))
  refine CC.cons O O ?_ ?_
  ·intro gv X mq hh o hX
   have hsN:=o.st G
   intro kn cw
   obtain⟨ht,_,_,cw⟩:=cw
   cases cw
   exact AG 1 (CP O O (AO O))
  refine CC.cons O O ?_ ?_
  ·intro gv X mq hh o hX
   have hsN:=o.st G
   intro ko cx
   obtain⟨hu,_,_,cx⟩:=cx
   cases cx
   exact AG 1 (AD Cb O (AO O))
  refine CC.cons O O ?_ ?_
  ·intro gv X mq hh o hX
   have hsN:=o.st G
   intro kq cy
   obtain⟨hv,_,_,cy⟩:=cy
   cases cy
   exact AG 1 (AD G2 O (AO O))
  refine CC.cons O O ?_ ?_
  ·intro gv X mq hh o hX
   have hsN:=o.st G
   intro kr cz
   obtain⟨hx,_,_,cz⟩:=cz
   cases cz
   exact AG 1 (AS A9 hsN O (mt mh) O I3 O (AO (a3.mono' (e4.trans (o.ext G.1)))))
  refine CC.cons O O ?_ ?_
  ·intro gv X mq hh o hX
   have hsN:=o.st G
   exact AG 1 (AA O (AO O))
  refine CC.cons O O ?_ ?_
  ·intro gv X mq hh o hX
   have hsN:=o.st G
   intro ks c0
   obtain⟨hy,_,_,c0⟩:=c0
   cases c0
   exact AG 1 (CP O O (AO O))
  refine CC.cons O O ?_ ?_
  ·intro gv X mq hh o hX
   have hsN:=o.st G
   intro kt c1
   obtain⟨h0,_,_,c1⟩:=c1
   cases c1
   exact AG 1 (AD Cb O (AO O))
  refine CC.cons O O ?_ ?_
  ·intro gv X mq hh o hX
   have hsN:=o.st G
   intro ku c2
   obtain⟨h3,_,_,c2⟩:=c2
   cases c2
   exact AG 1 (AD HK O (AO O))
  refine CC.cons O O ?_ ?_
  ·intro gv X mq hh o hX
   have hsN:=o.st G
   intro kv c3
   obtain⟨h4,_,_,c3⟩:=c3
   cases c3
   exact AG 1 (AS A9 hsN O (mt mh) O Ag O (AO ⟨O,a2⟩))
  refine CC.cons O O ?_ ?_
  ·intro gv X mq hh o hX
   have hsN:=o.st G
   exact AG 1 (AA O (AO O))
  refine CC.cons O O ?_ ?_
  ·intro gv X mq hh o hX
   have hsN:=o.st G
   intro kw c4
   obtain⟨h5,_,_,c4⟩:=c4
   cases c4
   exact AG 1 (CP O O (AO O))
  refine CC.cons O O ?_ ?_
  ·intro gv X mq hh o hX
   have hsN:=o.st G
   intro kx c5
   obtain⟨h6,_,_,c5⟩:=c5
   cases c5
   exact AG 1 (AD GJ O (AO O))
  refine CC.cons O O ?_ ?_
  ·intro gv X mq hh o hX
   have hsN:=o.st G
   intro ky c6
   obtain⟨h7,_,_,c6⟩:=c6
   cases c6
   exact AG 1 (AD C1 O (AO O))
  refine CC.cons O O ?_ ?_
  ·intro gv X mq hh o hX
   have hsN:=o.st G
   intro kz c7
   obtain⟨h8,_,_,c7⟩:=c7
   cases c7
   exact AG 1 (AS A9 hsN O (mt mh) O F7 O (AO (aq.mono' (e4.trans (o.ext G.1)))))
  refine CC.cons O O ?_ ?_
  ·intro gv X mq hh o hX
   have hsN:=o.st G
   intro hc bc
   obtain⟨h9,_,_,bc⟩:=bc
   have bc:Sl _ _ B0 hc p0_w.b.Places:=bc
   exact AG 1 (An O bc FA O λhd=>AO ⟨O,(Jl hd)⟩)
  refine CC.cons O O ?_ ?_
  ·intro gv X mq hh o hX
   have hsN:=o.st G
   exact AG 1 (AA O (AO O))
  refine CC.cons O O ?_ ?_
  ·intro gv X mq hh o hX
   have hsN:=o.st G
   intro k0 c8
   obtain⟨ia,_,_,c8⟩:=c8
   cases c8
   exact AG 1 (CP O O (AO O))
  refine CC.cons O O ?_ ?_
  ·intro gv X mq hh o hX
   have hsN:=o.st G
   intro k1 c9
   obtain⟨ib,_,_,c9⟩:=c9
   cases c9
   exact AG 1 (AD GJ O (AO O))
  refine CC.cons O O ?_ ?_
  ·intro gv X mq hh o hX
   have hsN:=o.st G
   intro k2 da
   obtain⟨ic,_,_,da⟩:=da
   cases da
   exact AG 1 (AD H1 O (AO O))
  refine CC.cons O O ?_ ?_
  ·intro gv X mq hh o hX
   have hsN:=o.st G
   intro k3 db
   obtain⟨ie,_,_,db⟩:=db
   cases db
   exact AG 1 (AS A9 hsN O (mt mh) O Kj O (AO (ba.mono' (e4.trans (o.ext G.1)))))
  refine CC.cons O O ?_ ?_
  ·intro gv X mq hh o hX
   have hsN:=o.st G
   intro he be
   obtain⟨ig,_,_,be⟩:=be
   have be:Sl _ _ AM.str he p0_w.b.Owners:=be
   exact AG 1 (An O be KN O λhg=>AO ⟨O,(Jl hg)⟩)
  refine Ml O O ?_ ?_
  ·intro gv X mq hh o hX
   have hsN:=SX.fz (X:=X) G o
   intro hi a4 k4 dc k5 dd k6 de
   obtain⟨ih,_,_,a4⟩:=a4
   have a4:=Sl.mono' (S':=(SX S2 h hh X)) a4 ⟨λb hb=>(SX.ext G.1 o hX).sub b hb,λ_ _=>rfl,Nat.le_refl _⟩
   have a4:Sl _ _ Ap hi p0_w.s.Queue:=a4
   obtain⟨ii,_,_,dc⟩:=dc
   obtain⟨rfl,hj⟩:=dc
   obtain⟨ij,_,_,dd⟩:=dd
   obtain⟨rfl,hk⟩:=dd
   obtain⟨ik,_,_,de⟩:=de
   obtain⟨rfl,hl⟩:=de
   refine Cv O O O eU O (QJ hsN a4 hj hk hl e5) λk7 k8 k9 hm p=>?_
   obtain⟨la,lb,rfl,df⟩:=p
   have hsG:=df.pick (.tail (.tail .head))
   obtain⟨F101,hF102,e6,il,e7⟩:=OW.done G.1 o hX hm hsG
   exact Cm e6 ⟨F101,hF102,⟨_,_,O,e7⟩⟩
  refine CC.cons O O ?_ ?_
  ·intro gv X mq hh o hX
   have hsN:=o.st G
   intro im bf
   obtain⟨dg,_,_,bf⟩:=bf
   obtain⟨io,ip,rfl,ir⟩:=bf
   exact AG 1 (AA O (AO ⟨dg,_,_,O⟩))
  refine CC.cons O O ?_ ?_
  ·intro gv X mq hh o hX
   have hsN:=o.st G
   intro it bg
   obtain⟨dh,_,_,bg⟩:=bg
   obtain⟨_,iu,iv,rfl⟩:=bg
   exact AG 1 (Bo O (AO (by rw[←dh];rfl)))
  refine CC.cons O O ?_ ?_
  ·intro gv X mq hh o hX
   have hsN:=o.st G
   intro iw bh
   obtain⟨di,_,_,bh⟩:=bh
   obtain⟨_,iy,iz,rfl⟩:=bh
   exact AG 1 (Bo O (AO (by rw[←di];rfl)))
  refine CC.cons O O ?_ ?_
  ·intro gv X mq hh o hX
   have hsN:=o.st G
   intro i0 b6
   obtain⟨dj,_,_,b6⟩:=b6
   exact AG 1 (AY O (AO dj))
  refine CC.cons O O ?_ ?_
  ·intro gv X mq hh o hX
   have hsN:=o.st G
   intro i1 b7
   obtain⟨dk,_,_,b7⟩:=b7
   exact AG 1 (AY O (AO dk))
  exact trivial
 intro bi a5 hn a8 ax dl i2 bj b8 bk b9 bl ca bm cb bn cc bo
 obtain⟨dm,bj⟩:=bj
 obtain⟨bp,bk⟩:=bk
 obtain⟨dn,bl⟩:=bl
 obtain⟨dp,bm⟩:=bm
 obtain⟨ho,bn⟩:=bn
 obtain⟨hp,bo⟩:=bo
 obtain⟨aj,ar,rfl,e8⟩:=bj
 have a6:=(Tq.cons (Tq.nil G a8 ax) dl (j:=22) O e8).st
 simp only[List.cons_append,List.nil_append] at a6
 obtain rfl: .tuple #[aj,ar]=b8:=((by rw[bk.1,←dm];try rfl:b8= .tuple #[aj,ar])).symm
 obtain rfl:aj=b9:=((by rw[bl,←bp];try rfl:b9=aj)).symm
 obtain rfl:ar=ca:=((by rw[bm,←bp];try rfl:ca=ar)).symm
 obtain rfl:aj=cb:=((by rw[bn,←dn];try rfl:cb=aj)).symm
 obtain rfl:ar=cc:=((by rw[bo,←dp];try rfl:cc=ar)).symm
 refine AZ (kp [3,2,0] O) (WF.sl (AG 5 (AA O (AA O (CP O O (AD Cb O (AD G2 O (AF ?_))))))))
 obtain⟨ai,ag,rfl,i3⟩:=a6.oslen (mt mh)
 refine H6 (vs:=[(.slice ai ah.2.length ag)]) (cs':=[.string p0_w.b.Name,V,vI p0_w.b.Cells,W,H,Y,Z,ab,ac,ad,vI p0_w.b.Err,I,J,K,M,Q,vI p0_w.s.Hour,g,t,(.slice ai ah.2.length ag),C,u,y,z,D,A]) O O O O I3 O a6 (.tail (.tail (.tail .head))) O O λbq br bs=>AZ (kp [2,0] O) (AC (AI (AA O (CP O O (AD GJ O (AD C1 O (AS A9 br O (mt (mt (mt mh))) O F7 O (An O (aq.mono' (e4.trans ((SX.ext G.1 a8 (Xd ax)).trans bs))) FA O λi4=>AA O (AN (kp [44,43,2,0] O) (Am (λa w=>∃(ao:List (List Int)) (ap:List Int),IV B (SX S2 h bi (UX a5)) bq (123,[]) a w [(0,vP c 0)] (OS Ap 60 (.slice ai ah.2.length ag) ah.2::OS (AM.sl AM.int) 29 g ao::Bx c 84 [.string p0_w.b.Name,V,vI p0_w.b.Cells,W,H,Y,Z,ab,ac,ad,vI p0_w.b.Err,I,J,K,M,Q,vI p0_w.s.Hour,g,t,(.slice ai ah.2.length ag),C,u,y,z,D,A]::OS AM.int 3 t p0_w.s.Rem::OS BJ 69 C p0_w.s.Gates::OS AM.int 3 u p0_w.s.In::OS AM.int 3 y p0_w.s.Out::OS BH 50 z p0_w.moves::OS AM.int 3 D ap::OS Ap 60 A p0_w.sent::L) λ_ _=>CX N p0_w ah ao ap=some r) ?_ ?_))))))))))
 ·refine A5 (λn1=>λa w=>∃(ae:Int) (au:List (List Int)) (av:List Int),IV B (SX S2 h bi (UX a5)) bq (123,[]) a w [(43,vI (↑p0_w.b.Places.length:Int)),(2,aj),(0,vP c 0),(44,vI ae)] (OS (AM.sl AM.int) 29 aj ah.1::OS Ap 60 (.slice ai ah.2.length ag) ah.2::OS (AM.sl AM.int) 29 g au::Bx c 84 [.string p0_w.b.Name,V,vI p0_w.b.Cells,W,H,Y,Z,ab,ac,ad,vI p0_w.b.Err,I,J,K,M,Q,vI p0_w.s.Hour,g,t,(.slice ai ah.2.length ag),C,u,y,z,D,A]::OS AM.int 3 t p0_w.s.Rem::OS BJ 69 C p0_w.s.Gates::OS AM.int 3 u p0_w.s.In::OS AM.int 3 y p0_w.s.Out::OS BH 50 z p0_w.moves::OS AM.int 3 D av::OS Ap 60 A p0_w.sent::L) λ_ _=>AH ae∧CW N p0_w ah (CX N p0_w ah) n1 ae au av=some r) N ?_ ?_ ?_
  ·intro aa ww hf hw
   exact⟨0,p0_w.s.Own,p0_w.peaks,_,_,hf.sub (kp [43,2,0,44] O),hw,br,(CA.refl (SX S2 h bi (UX a5)) bq),(iq (n:=0) O),E⟩
  ·rintro aa ww ⟨_,_,_,_,_,_,_,_,_,_,E⟩
   rw[CW] at E;cases E
  rintro n1 aa ww ⟨ae,au,av,ay,bt,hf,hw,af,cd,bu,E⟩
  refine Ac ?_ hf hw
  clear hf hw ww aa
  rw[CW] at E
  refine AI (Ar O (AN (kp [45,43,2,0,44] O) (AC (AW O E (λe9 E=>?_) (λe9 E=>?_)))))
  ·refine AQ (AC (BB (AI (AA O (AK O (kp [4,43,2,0,44] O) (AC ?_))))))
   obtain⟨i5,dq,E⟩:=bd E
   obtain⟨ce,dr,E⟩:=bd E
   obtain⟨i6,ds,E⟩:=bd E
   obtain⟨cf,dt,E⟩:=bd E
   obtain⟨bv,du,E⟩:=bd E
   obtain⟨i7,dv,E⟩:=bd E
   refine Mk (m:=[(4,vI ae),(43,vI (↑p0_w.b.Places.length:Int)),(2,aj),(0,vP c 0),(44,vI ae)]) 20 (λi v hh=>match i with|0=>v=vP c 0|1=>v=vP c 0|2=>v=vP c 16|3=>v=vP c 17|4=>v=g|5=>v=vI ae∧AH ae|6=>v=vP c 0|7=>v=vP c 0|8=>v=vP c 16|9=>v=vP c 17|10=>v=g|11=>v=vI ae∧AH ae|12=>EP g (ae.toNat*((AM.sl AM.int)).sz+0) v|13=>Sl ay hh AM.int v ce|14=>v=aj|15=>v=vI ae∧AH ae|16=>EP aj (ae.toNat*((AM.sl AM.int)).sz+0) v|17=>Sl ay hh AM.int v cf|18=>Sl (SN ay bt hh) hh AM.int v bv|19=>EP g (ae.toNat*((AM.sl AM.int)).sz+0) v|_=>False) [[],[(0,47)],[(1,48)],[(2,49)],[(3,50)],[],[],[(6,53)],[(7,54)],[(8,55)],[(9,56)],[],[(10,57),(11,58)],[(12,59)],[],[],[(14,61),(15,62)],[(16,63)],[(13,60),(17,64)],[(4,51),(5,52)]] [(18,65),(19,66)] mo (by kernel_rfl) [4,43,2,0,44] O (by kernel_rfl) (by kernel_rfl) (by kernel_rfl) (kp [4,43,2,0,44] O) (λi v h1 h2 o1 o2 hr=>?_) ?_ ?_
   ·match i,hr with
     |0,hr|1,hr|2,hr|3,hr|4,hr|5,hr|6,hr|7,hr|8,hr|9,hr|10,hr|11,hr|12,hr|14,hr|15,hr|16,hr|19,hr=>exact hr
     |13,hr|17,hr=>exact Sl.mono' hr (o2.ext λb hb=>Nat.lt_of_lt_of_le (af.1 b hb) o1.siz)
     |18,hr=>exact Sl.mono' hr (SN.mono af.1 o1 o2)
     |_+20,hr=>exact hr.elim
   ·refine A3.cons O (λ_ _ _=>AG 1 (AA O (AO O))) (A3.cons O (λ_ _ _ _ fa=>by cases fa;exact AG 1 (CP O O (AO O))) (A3.cons O (λ_ _ _ _ fb=>by cases fb;exact AG 1 (AD Cb O (AO O))) (A3.cons O (λ_ _ _ _ fc=>by cases fc;exact AG 1 (AD Dm O (AO O))) (A3.cons O (λ_ _ o _ fd=>by cases fd;exact AG 1 (AS A9 (o.st af) O (mt (mt (mt mh))) O Gu O (AO O))) (A3.cons O (λ_ _ _=>AG 1 (AA O (AO ⟨O,bu⟩))) (A3.cons O (λ_ _ _=>AG 1 (AA O (AO O))) (A3.cons O (λ_ _ _ _ fe=>by cases fe;exact AG 1 (CP O O (AO O))) (A3.cons O (λ_ _ _ _ ff=>by cases ff;exact AG 1 (AD Cb O (AO O))) (A3.cons O (λ_ _ _ _ fg=>by cases fg;exact AG 1 (AD Dm O (AO O))) (A3.cons O (λ_ _ o _ fh=>by cases fh;exact AG 1 (AS A9 (o.st af) O (mt (mt (mt mh))) O Gu O (AO O))) (A3.cons O (λ_ _ _=>AG 1 (AA O (AO ⟨O,bu⟩))) ?_)))))))))))
    refine A3.cons O (λ_ _ o=>by intro i8 fi i9 fj;cases fi;obtain ⟨rfl,ja⟩:=fj;exact AG 1 (A8 (o.st af) (mt (mt mh)) O O Ev dq O λjb dw=>AO dw)) ?_
    refine A3.cons O ?_ ?_
    ·intro mq hh o
     intro jc fk
     have hsN:=o.st af
     refine AG 1 ?_
     have fl:=hsN.epAt (mt (mt mh)) dr E9.id fk
     exact Ao A9 (λ_ x=>x) O fl BW O λjd fm=>AO fm
    refine A3.cons O (λ_ _ _=>AG 1 (AA O (AO O))) (A3.cons O (λ_ _ _=>AG 1 (AA O (AO ⟨O,bu⟩))) (A3.cons O (λ_ _ o=>by intro je fn jf fo;cases fn;obtain ⟨rfl,jg⟩:=fo;exact AG 1 (A8 (o.st af) mh O O Ev ds O λjh dx=>AO dx)) ?_))
    refine A3.cons O ?_ ?_
    ·intro mq hh o
     intro ji fp
     have hsN:=o.st af
     refine AG 1 ?_
     have fq:=hsN.epAt mh dt E9.id fp
     exact Ao A9 (λ_ x=>x) O fq BW O λjj fr=>AO fr
    refine A3.cons O ?_ ?_
    ·intro mq hh o
     intro fs az ft a0
     have hsN:=SN.st af o
     have az:=Sl.mono' (S':=(SN ay bt hh)) az ⟨λb hb=> .inl hb,λ_ _=>rfl,Nat.le_refl _⟩
     have az:Sl _ _ AM.int fs ce:=az
     have a0:=Sl.mono' (S':=(SN ay bt hh)) a0 ⟨λb hb=> .inl hb,λ_ _=>rfl,Nat.le_refl _⟩
     have a0:Sl _ _ AM.int ft cf:=a0
     have hsF:=hsN.fz
     refine BX O O O Qt O hsF (Ip (St.all _) (az.mono (λb hb=>hsF.1 b hb) (λ_ _=>rfl)) (a0.mono (λb hb=>hsF.1 b hb) (λ_ _=>rfl)) du) λjk jl jm hq fu fv p=>?_
     have dy:=p
     have bw:=hsF.join fv dy ⟨OS.flat (λ{_ _ _ _ _ _} k=>k),trivial⟩
     simp only[List.cons_append,List.nil_append] at bw
     obtain⟨jn,dz,fw,fx⟩:=bw.pubs .head
     have bx:=Fz.done o (fu.trans fw) dz
     exact Cm bx.1 (Sl.mono' fx bx.2)
    exact A3.cons O (λ_ _ o=>by intro jo fy jp f0;cases fy;obtain ⟨rfl,jq⟩:=f0;exact AG 1 (A8 (o.st af) (mt (mt mh)) O O Ev dv O λjr d0=>AO d0)) trivial
   intro js cg f1 bz jt f2
   have d1:=SN.st af cg
   have bz:Sl _ _ AM.int f1 bv:=bz
   obtain⟨f3,d2,E⟩:=bd E
   refine E3 (r:=(AM.sl AM.int)) (l:=au) (i:=ae) (x:=f3) O O (M7 bz) f2 d2 Lv.id BW (λ_=>rfl) d1 (.tail (.tail .head)) λju ak f4=>AZ (kp [4,43,2,0,44] O) (LE 15 mo (by kernel_rfl) O ak (AA O (CP O O (AD Jx O (AS Bd ak O (mt (mt (mt mh))) O BW O (AA O (AA O (CP O O (AD Cb O (AD Dm O (AS Bd ak O (mt (mt (mt mh))) O Gu O (AA O ?_))))))))))))
   obtain⟨jv,d3,E⟩:=bd E
   refine A8 ak (mt (mt mh)) O O Ev d3 O λjw d4=>?_
   obtain⟨jx,d5,E⟩:=bd E
   have f5:=ak.epAt (mt (mt mh)) d5 E9.id d4
   refine Ao Bd (λ_ x=>x) O f5 BW O λjy f6=>?_
   obtain⟨ch,d6,E⟩:=bd E
   refine CY O O O NO O (λh' o=>Ew (St.all h') (f6.mono' (o.all ak.1)) d6) λf7=>?_
   have f8:=f7
   obtain⟨jz,d7,E⟩:=bd E
   refine A8 ak (mt (mt (mt (mt (mt (mt (mt (mt (mt mh))))))))) O O BQ d7 O λj0 d8=>J1 λj1 d9 f9=>?_
   obtain⟨ga,ea,E⟩:=bd E
   refine E3 (r:=AM.int) (l:=av) (i:=ae) (x:=ga) O O (⟨_,O,O,f8⟩:Rd _ _ AM.int _ ch) d8 ea Lv.id Ag (λ_=>rfl) d9 (.tail (.tail (.tail (.tail (.tail (.tail (.tail (.tail (.tail .head))))))))) λj2 eb gb=>AZ (kp [43,2,0,44] O) (BO (BZ (.inl O) (Ai O (AA O (AN (kp [44,43,2,0] O) (WF.nil (λaa ww hf hw=>?_)))))))
   exact⟨(BD (ae+1)),(upd au ae bv),(upd av ae ch),_,_,hf.sub (kp [43,2,0,44] O),hw,eb,(cd.trans ((SN.ext af.1 cg).trans (f4.trans (f9.trans gb)))),(BK _),E⟩
  refine BC O (λaa ww hf hw=>?_)
  have ec:=af.sel [1,1,1,1,1,1,1,1,1,1] 1 O
  exact⟨au,av,_,_,hf.sub (kp [0] O),hw,ec,cd,E⟩
 rintro aa ww ⟨ao,ap,ci,cj,hf,hw,b0,ck,E⟩
 refine Ac ?_ hf hw
 clear hf hw ww aa
 rw[CX] at E
 refine AI (AA O (CP O O (AD GJ O (AD Gc O (AS A9 b0 O (mt (mt mh)) O JR O ?_)))))
 have cl:=bb.mono' (e4.trans ((SX.ext G.1 a8 (Xd ax)).trans (bs.trans ck)))
 refine An O cl Hf O λj3=>AA O (AN (kp [89,88,87,0] O) (BB (A5 (λn2=>λa w=>∃(am:Int) (aw:List Ax),IV B ci cj (123,[]) a w [(88,vI (↑p0_w.b.Links.length:Int)),(87,H),(0,vP c 0),(89,vI am)] (OS Ap 60 (.slice ai ah.2.length ag) ah.2::OS (AM.sl AM.int) 29 g ao::Bx c 84 [.string p0_w.b.Name,V,vI p0_w.b.Cells,W,H,Y,Z,ab,ac,ad,vI p0_w.b.Err,I,J,K,M,Q,vI p0_w.s.Hour,g,t,(.slice ai ah.2.length ag),C,u,y,z,D,A]::OS AM.int 3 t p0_w.s.Rem::OS BJ 69 C aw::OS AM.int 3 u p0_w.s.In::OS AM.int 3 y p0_w.s.Out::OS BH 50 z p0_w.moves::OS AM.int 3 D ap::OS Ap 60 A p0_w.sent::L) λ_ _=>AH am∧CN N p0_w ah ao ap n2 am aw=some r) N ?_ ?_ ?_)))
 ·intro aa ww hf hw
  exact⟨0,p0_w.s.Gates,_,_,hf.sub (kp [88,87,0,89] O),hw,b0,(CA.refl ci cj),(iq (n:=0) O),E⟩
 ·rintro aa ww ⟨_,_,_,_,_,_,_,_,_,E⟩
  rw[CN] at E;cases E
 rintro n2 aa ww ⟨am,aw,gc,gd,hf,hw,a7,b1,j4,E⟩
 refine Ac ?_ hf hw
 clear hf hw ww aa
 rw[CN] at E
 refine AI (Ar O (AN (kp [90,88,87,0,89] O) (AC (AW O E (λge E=>?_) (λge E=>?_)))))
 ·refine AQ (AC (Am (λa w=>∃(a9:List Ax),IV B gc gd (123,[]) a w [(88,vI (↑p0_w.b.Links.length:Int)),(87,H),(0,vP c 0),(89,vI am)] (OS Ap 60 (.slice ai ah.2.length ag) ah.2::OS (AM.sl AM.int) 29 g ao::Bx c 84 [.string p0_w.b.Name,V,vI p0_w.b.Cells,W,H,Y,Z,ab,ac,ad,vI p0_w.b.Err,I,J,K,M,Q,vI p0_w.s.Hour,g,t,(.slice ai ah.2.length ag),C,u,y,z,D,A]::OS AM.int 3 t p0_w.s.Rem::OS BJ 69 C a9::OS AM.int 3 u p0_w.s.In::OS AM.int 3 y p0_w.s.Out::OS BH 50 z p0_w.moves::OS AM.int 3 D ap::OS Ap 60 A p0_w.sent::L) λ_ _=>FG N am (CN N p0_w ah ao ap n2) a9=some r) ?_ ?_))
  ·refine WF.sl (AG 3 (AA O ?_))
   obtain⟨d,ed,E⟩:=bd E
   refine BE O O (cl.mono' b1) Hf ed O λj5 gf=>B8 A9 a7.1 O gf Hd (λe=>by cases e) O λj6 gg=>AF (Cp OY O a7 λj7 j8 ee b2=>AG 1 (AY O (AF ?_)))
   obtain⟨b3,b4,b5,rfl,gh,gi,gj,gk,cm,cn,co,gl,gm,gn,gp,gq,gr,gs,gt,gu,gw,gx⟩:=Bu.ex (gg.mono b2)
   refine G7 (vs:=[.string d.Name,vI d.Kind,vI d.From,vI d.To,b3,b4,b5,vI d.Positions,vI d.Speed,vI d.Leak,vI d.Crest,vI d.Num,vI d.Den,vI d.Prime,vI d.Break,vI d.BackNum,vI d.BackDen,vI d.Delay]) (cs':=[.string d.Name,vI d.Kind,vI d.From,vI d.To,b3,b4,b5,vI d.Positions,vI d.Speed,vI d.Leak,vI d.Crest,vI d.Num,vI d.Den,vI d.Prime,vI d.Break,vI d.BackNum,vI d.BackDen,vI d.Delay]) O O O (AE O (AE O (AE O (AE O (AE cm.one (AE cn.one (AE co.one (AE O (AE O (AE O (AE O (AE O (AE O (AE O (AE O (AE O (AE O (AE O EH)))))))))))))))))) Hd O ee .head O O λj9 U a1=>AZ (kp [5,6,88,87,0,89] O) (AI (AD GK O (AS A9 U O mh O Ag O (BL O (AN (kp [96,5,6,88,87,0,89] O) (AW O E (λgy E=>?_) (λgy E=>?_)))))))
   ·refine LE 25 mo (by kernel_rfl) O U (AA O (CP O O (AD Cb O (AD H0 O (AS Bd U O (mt (mt (mt mh))) O Ki O (AA O (Db (vs:=[.string d.Name,vI d.Kind,vI d.From,vI d.To,b3,b4,b5,vI d.Positions,vI d.Speed,vI d.Leak,vI d.Crest,vI d.Num,vI d.Den,vI d.Prime,vI d.Break,vI d.BackNum,vI d.BackDen,vI d.Delay]) Bd U O mh O O Hd O O (AA O (CP O O (AD Cb O (AD H0 O (AS Bd U O (mt (mt (mt mh))) O Ki O (AA O ?_)))))))))))))
    obtain⟨ka,ef,E⟩:=bd E
    refine A8 U (mt (mt (mt (mt (mt mh))))) O O KM ef O λkb eg=>?_
    obtain⟨kc,eh,E⟩:=bd E
    have gz:=U.epAt (mt (mt (mt (mt (mt mh))))) eh E9.id eg
    refine B8 Bd (λ_ x=>x) O gz Gt (λe=>by cases e) O λkd g0=>AA O (CP O O (AD Jx O (AS Bd U O (mt (mt (mt mh))) O BW O (AD JW O (AS Bd U O mh O Ag O ?_)))))
    obtain⟨ke,ei,E⟩:=bd E
    refine A8 U (mt (mt (mt (mt (mt (mt (mt (mt (mt mh))))))))) O O BQ ei O λkf ej=>?_
    obtain⟨kg,ek,E⟩:=bd E
    have g1:=U.epAt (mt (mt (mt (mt (mt (mt (mt (mt (mt mh))))))))) ek E9.id ej
    refine Af Bd (λ_ x=>x) O g1 Ag O λg2=>?_
    obtain⟨cp,el,E⟩:=bd E
    refine CY O O O fU O (λh' o=>Ox (St.all h') (Bu.mk (x:=d) gh gi gj gk ((cm.mono' a1).mono' (o.all U.1)) ((cn.mono' a1).mono' (o.all U.1)) ((co.mono' a1).mono' (o.all U.1)) gl gm gn gp gq gr gs gt gu gw gx) (g0.mono (o.all U.1)) g2 el) λg3=>?_
    obtain⟨g4,g5⟩:=g3
    obtain⟨kh,em,E⟩:=bd E
    refine A8 U (mt (mt (mt (mt (mt mh))))) O O KM em O λki en=>J1 λkj eo g6=>?_
    obtain⟨g7,ep,E⟩:=bd E
    refine E3 (r:=BJ) (l:=aw) (i:=am) (x:=g7) O O (BJ.mk (x:=cp) ⟨g4,g5⟩) en ep Lv.id Gt (λe=>by cases e) eo (.tail (.tail (.tail (.tail (.tail .head))))) λkk eq g8=>AZ (kp [88,87,0,89] O) (WF.nil (λaa ww hf hw=>?_))
    have er:=eq.sel [1,1,1,1,1,1,1,1,1,1] 1 O
    exact⟨(upd aw am cp),_,_,hf.sub (kp [88,87,0,89] O),hw,er,(b2.trans (a1.trans (g6.trans g8))),E⟩
   refine AQ (WF.nil (λaa ww hf hw=>?_))
   have es:=U.sel [1,1,1,1,1,1,1,1,1,1] 1 O
   exact⟨aw,_,_,hf.sub (kp [88,87,0,89] O),hw,es,(b2.trans a1),E⟩
  rintro aa ww ⟨a9,kl,km,hf,hw,et,g9,E⟩
  refine Ac ?_ hf hw
  clear hf hw ww aa
  rw[FG] at E
  refine BZ (.inl O) (Ai O (AA O (AN (kp [89,88,87,0] O) (WF.nil (λaa ww hf hw=>?_)))))
  exact⟨(BD (am+1)),a9,_,_,hf.sub (kp [88,87,0,89] O),hw,et,(b1.trans g9),(BK _),E⟩
 refine Kw O (WF.nil (λaa ww hf hw=>?_))
 have eu:=a7.sel [2,1,1,0,0,0,0,0,0,0] 0 O
 cases E
 exact KH hf O hw KG O (e4.trans ((SX.ext G.1 a8 (Xd ax)).trans (bs.trans (ck.trans b1)))) ⟨_,_,_,_,O,eu⟩
theorem LO (hs:St S L h) {j:Value}{d:(List Int)}(o:Sl S h AM.int j d) {b:Value}{c:(List Int)}(k:Sl S h AM.int b c) {r:(List Int)}(E:Gx N d c=some r):
 CL Tryz.prog 96 #[j,b] S h (λv S' h'=>St S' (OS AM.int 3 v r::L) h'):=by
 refine BG (l:=[j,b]) 30 Tryz.func96 O Tryz.ntmps96 O λB=>?_
 rw[Gx] at E
 refine AI (AK O (kp [0,1] O) (WF.sl (AG 2 (AA O (An O o BQ O λb1=>AF ?_)))))
 obtain⟨Y,E⟩:=Lr E
 refine JO (r:=AM.int) (zx:=0) Ef O ⟨O,by unfold AH;omega⟩ O O Y O O hs λX h4 Z e6=>AG 1 (AY O (AF (AZ (kp [5,0,1] O) (WF.sl (AG 2 (AA O (AA O (AF (R3 (r:=AM.int) (l:=(List.replicate ((↑d.length:Int):Int).toNat (0:Int))) (xs:=d) O O BQ (Sl.src (o.mono' e6)) O Z .head λh8 ab C=>AZ (kp [5,1] O) (AC (AI (AA O ?_))))))))))))
 have D:=k.mono' (e6.trans C)
 refine An O D BQ O λai=>AA O (AN (kp [16,15,14,5] O) (Am (λa w=>∃(z:List Int),IV B S h8 (30,[]) a w [(5,X)] (OS AM.int 3 X z::L) λ_ _=>GM N z=some r) ?_ ?_))
 ·refine A5 (λn1=>λa w=>∃(m:Int) (p:List Int),IV B S h8 (30,[]) a w [(15,vI (↑c.length:Int)),(14,b),(5,X),(16,vI m)] (OS AM.int 3 X p::L) λ_ _=>AH m∧En N c (GM N) n1 m p=some r) N ?_ ?_ ?_
  ·intro u y s t
   exact⟨0,(M3 (List.replicate ((↑d.length:Int):Int).toNat (0:Int)) d),_,_,s.sub (kp [15,14,5,16] O),t,ab,(CA.refl S h8),(iq (n:=0) O),E⟩
  ·rintro u y ⟨_,_,_,_,_,_,_,_,_,E⟩
   rw[En] at E;cases E
  rintro n1 u y ⟨m,p,aj,ak,s,t,g,A,al,E⟩
  refine Ac ?_ s t
  clear s t y u
  rw[En] at E
  refine AI (Ar O (AN (kp [17,15,14,5,16] O) (AC (AW O E (λac E=>?_) (λac E=>?_)))))
  ·refine AQ (AC (BB (AI (AA O ?_))))
   obtain⟨F,G,E⟩:=bd E
   refine BE O O (D.mono' A) BQ G O λam ad=>Af A9 g.1 O ad Ag O λan=>AY O (AK O (kp [7,6,15,14,5,16] O) (D3 (AG 7 (AA O (AA O ?_)))))
   obtain⟨ao,H,E⟩:=bd E
   refine A8 g mh O O BQ H O λap I=>?_
   obtain⟨J,K,E⟩:=bd E
   have ae:=g.epAt mh K E9.id I
   refine Af A9 (λ_ x=>x) O ae Ag O λaq=>AA O (Ck O ?_)
   obtain⟨ar,M,E⟩:=bd E
   refine A8 g mh O O BQ M O λau Q=>AF ?_
   obtain⟨af,U,E⟩:=bd E
   refine E3 (r:=AM.int) (l:=p) (i:=m) (x:=af) O O (⟨_,O,O,(BK _)⟩:Rd _ _ AM.int _ (BD (J-F))) Q U Lv.id Ag (λ_=>rfl) g .head λav V ag=>AZ (kp [15,14,5,16] O) (BO (BZ (.inl O) (Ai O (AA O (AN (kp [16,15,14,5] O) (WF.nil (λu y s t=>?_)))))))
   exact⟨(BD (m+1)),(upd p m (BD (J-F))),_,_,s.sub (kp [15,14,5,16] O),t,V,(A.trans ag),(BK _),E⟩
  refine BC O (λu y s t=>?_)
  exact⟨p,_,_,s.sub (kp [5] O),t,g,A,E⟩
 rintro u y ⟨z,aw,ax,s,t,W,ah,E⟩
 refine Ac ?_ s t
 clear s t y u
 rw[GM] at E
 refine AI (AA O (AK O (kp [4] O) (Ad (λu y s t=>?_))))
 cases E
 exact Dx s t O O (e6.trans (C.trans ah)) W
theorem QN (hs:St S L h) {d:Value}{g:(List Int)}(m:Sl S h AM.int d g) {c:Int}(n:AH c) {j:Int}(y:AH j) {r:(List Int)×(List Int)}(E:J9 N g c j=some r):
 CL Tryz.prog 84 #[d,vI c,vI j] S h (λv S' h'=>∃F G:Value,v= .tuple #[F,G]∧St S' (OS AM.int 3 F r.1::OS AM.int 3 G r.2::L) h'):=by
 refine BG (l:=[d,vI c,vI j]) 27 Tryz.func84 O Tryz.ntmps84 O λB=>?_
 rw[J9] at E
 refine AI (AY O (AK O (kp [0,1,2] O) (WF.sl (AG 2 (AA O (An O m BQ O λb1=>AF ?_))))))
 obtain⟨Z,E⟩:=Lr E
 refine JO (r:=AM.int) (zx:=0) Ef O ⟨O,by unfold AH;omega⟩ O O Z O O hs λv3 h4 H e6=>AG 1 (AY O (AF (AZ (kp [6,0,1,2] O) (AC (AC (Bq (.inl O) H (AA O (AA O (AA O ?_)))))))))
 obtain⟨y8,ab,E⟩:=bd E
 refine CY O O O ZC O (λh' o=>No (St.all h') ((m.mono' e6).mono' (o.all H.1)) n ab) λr9=>?_
 have ac:=r9
 refine Ry O O O (AY O (BM (kp [8,6,0,1] O) λI t ad=>AI (AA O (Bf O (AN (kp [18,8,6,0,1] O) (Ge (λa w=>∃(D:List Int),IV B S I (27,[]) a w [(6,v3),(0,d)] (OS AM.int 3 v3 D::L) λ_ _=>Ho N g D=some r) ?_ ?_))))))
 ·refine AW O E (λae E=>?_) (λae E=>?_)
  ·refine D3 (AG 4 (AA O (AA O (AA O ?_))))
   obtain⟨al,J,E⟩:=bd E
   refine A8 t mh O O BQ J O λam K=>AF ?_
   obtain⟨af,M,E⟩:=bd E
   refine E3 (r:=AM.int) (l:=(List.replicate ((↑g.length:Int):Int).toNat (0:Int))) (i:=c) (x:=af) O O (⟨_,O,O,(LR y ac)⟩:Rd _ _ AM.int _ (min j y8)) K M Lv.id Ag (λ_=>rfl) t .head λan Q ag=>AZ (kp [6,0] O) (WF.nil (λX Y u z=>?_))
   exact⟨(upd (List.replicate ((↑g.length:Int):Int).toNat (0:Int)) c (min j y8)),_,_,u.sub (kp [6,0] O),z,Q,ag,E⟩
  refine AQ (WF.nil (λX Y u z=>?_))
  exact⟨(List.replicate ((↑g.length:Int):Int).toNat (0:Int)),_,_,u.sub (kp [6,0] O),z,t,(CA.refl S I),E⟩
 rintro X Y ⟨D,ao,ap,u,z,s,ah,E⟩
 refine Ac ?_ u z
 clear u z Y X
 rw[Ho] at E
 refine WF.sl (AG 3 (AA O (AA O (AA O (AF ?_)))))
 have A:=e6.trans (ad.trans ah)
 obtain⟨aq,U,E⟩:=bd E
 refine BX O O O Y5 O s (LO (St.all _) ((m.mono' A).mono (λb hb=>s.1 b hb) (λ_ _=>rfl)) (s.oslAll mh) U) λar au av ak ai aj p=>?_
 have V:=p
 have C:=s.join aj V ⟨OS.flat (λ{_ _ _ _ _ _} k=>k),trivial⟩
 simp only[List.cons_append,List.nil_append] at C
 refine AG 2 (AY O (AY O (AF (AZ (kp [7,6] O) (Ad (λX Y u z=>?_))))))
 have W:=C.sel [1,0] 0 O
 cases E
 exact KH u O z (IK (I1 u (v:=_) O) (IK (I1 u (v:=_) O) KG)) O (A.trans ai) ⟨_,_,O,W⟩
end Go.Proofs.YtblcgjadhemlbaaGreat
