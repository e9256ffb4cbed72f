import Derived.Test.YtblcgjadhemlbaaGreatTWalk8
namespace Go.Proofs.YtblcgjadhemlbaaGreat
open Go.RowKit
set_option linter.unusedVariables false
set_option linter.unusedSimpArgs false
set_option maxRecDepth 10000
set_option maxHeartbeats 2000000
variable {N:Nat}{S:Nat→Prop}{L:List HP}{h:Aw}
theorem Ou (hs:St S L h) {d:Value}{p:A4}(n:Rd S h Bv d p) {g:Value}{b:Ax}(o:Rd S h BE g b) {i:Int}(W:AE i) {r:Ax}(E:HO N p b i=some r):
 CL Tryz.prog 23 #[d,g,vI i] S h (λv S' h'=>v= .agg #[vI r.Pos,vI r.Target,.bool r.Stuck,.bool r.Open]∧Ax.ok r∧St S' (L) h'):=by
 refine BF (l:=[d,g,vI i]) 24 Tryz.func23 O Tryz.ntmps23 O λB=>?_
 rw[HO] at E
 refine WF.sl (B3 O n (λe=>by cases e) O hs λq1 S2 h3 X Y k6=>?_)
 obtain⟨rfl,⟨r9,D⟩⟩:=BE.ex (o.mono Y)
 refine P9 O O O X λF am G x=>Cn SH O G λH I c y=>AZ (kp [6,4,3,2] O) (AC (AH ?_))
 have z:=k6.mono (x.trans y)
 refine Af O z A4.f_Kind GF O λan Z=>Ag A6 c.1 O Z Ae O λao=>Bl O (AM (kp [9,6,4,3,2] O) (AX O E (λab E=>?_) (λab E=>?_)))
 ·refine WF.sl (AI 1 (Dk (vs:=[vI b.Pos,vI b.Target,.bool b.Stuck,.bool b.Open]) A6 c O (mt mh) O O Gn O O (AG (DW (vs:=[vI b.Pos,vI b.Target,.bool b.Stuck,.bool b.Open]) O O O O Gn O c .head O λap J ac=>AZ (kp [6] O) (Ad (λA C j k=>?_))))))
  have s:=J.drop (.tail .head)
  have K:=s.drop .head
  cases E
  exact KD j O k (IF (Xq j k s O mh Gn O) KC) O (Y.trans (x.trans (y.trans ac))) ⟨O,⟨r9,D⟩,K⟩
 refine AO (AC (Aj (λa w=>∃(m:Bool),IV B S2 I (24,[]) a w [(6,vP H 0),(4,vP F 0)] (Bx H 69 [vI 0,vI 0,.bool false,.bool false]::Bx F 69 [vI b.Pos,vI b.Target,.bool b.Stuck,.bool m]::L) λ_ _=>He N b m=some r) ?_ ?_))
 ·refine AH (AA O (Af O z Jq Nu O λaq ad=>Ag A6 c.1 O ad Ae O λar=>Gb O (AL O (kp [11,6,4,3,2] O) (AX O E (λae E=>?_) (λae E=>?_)))))
  ·refine EX (AI 1 (AD Nq O (AG (H2 (vs:=[.bool true]) (cs':=[vI b.Pos,vI b.Target,.bool b.Stuck,.bool true]) O O O O Ol O c (.tail .head) O O λau M af=>AZ (kp [6,4] O) (WF.nil (λA C j k=>?_))))))
   exact⟨true,_,_,j.sub (kp [6,4] O),k,M,af,E⟩
  refine AH (AA O (Af O z Jr Nt O λav ag=>Ag A6 c.1 O ag Ae O λaw=>Fv O (AL O (kp [17,6,4] O) (AX O E (λah E=>?_) (λah E=>?_)))))
  ·refine EX (AI 1 (AD Nq O (AG (H2 (vs:=[.bool false]) (cs':=[vI b.Pos,vI b.Target,.bool b.Stuck,.bool false]) O O O O Ol O c (.tail .head) O O λax Q ai=>AZ (kp [6,4] O) (WF.nil (λA C j k=>?_))))))
   exact⟨false,_,_,j.sub (kp [6,4] O),k,Q,ai,E⟩
  refine AO (WF.nil (λA C j k=>?_))
  exact⟨b.Open,_,_,j.sub (kp [6,4] O),k,c,(B9.refl S2 I),E⟩
 rintro A C ⟨m,ay,az,j,k,t,aj,E⟩
 refine Ac ?_ j k
 clear j k C A
 rw[He] at E
 refine WF.sl (AI 1 (Dk (vs:=[vI b.Pos,vI b.Target,.bool b.Stuck,.bool m]) A6 t O (mt mh) O O Gn O O (AG (DW (vs:=[vI b.Pos,vI b.Target,.bool b.Stuck,.bool m]) O O O O Gn O t .head O λa0 U ak=>AZ (kp [6] O) (Ad (λA C j k=>?_))))))
 have u:=U.drop (.tail .head)
 have V:=u.drop .head
 cases E
 exact KD j O k (IF (Xq j k u O mh Gn O) KC) O (Y.trans (x.trans (y.trans (aj.trans ak)))) ⟨O,⟨r9,D⟩,V⟩
theorem Lb {c:Nat}{p0_w:An}{V:Value}{W:Value}{H:Value}{Y:Value}{Z:Value}{ab:Value}{ac:Value}{ad:Value}{I:Value}{J:Value}{K:Value}{M:Value}{Q:Value}{g:Value}{t:Value}{an:Value}{C:Value}{u:Value}{y:Value}{z:Value}{D:Value}{A:Value}(hs:St S (Bx c 84 [.string p0_w.b.Name,V,vI p0_w.b.Cells,W,H,Y,Z,ab,ac,ad,vI p0_w.b.Err,I,J,K,M,Q,vI p0_w.s.Hour,g,t,an,C,u,y,z,D,A]::OO AN.int 3 29 g p0_w.s.Own::OS AN.int 3 t p0_w.s.Rem::OS BE 69 C p0_w.s.Gates::OS AN.int 3 u p0_w.s.In::OS AN.int 3 y p0_w.s.Out::OS BJ 50 z p0_w.moves::OS AN.int 3 D p0_w.peaks::OS Ar 60 A p0_w.sent::L) h) (ew:p0_w.b.Name.size≤maxLen) (ba:Sl S h AN.str V p0_w.b.Owners) (ey:AE p0_w.b.Cells) (aq:Sl S h B1 W p0_w.b.Places) (bb:Sl S h Bv H p0_w.b.Links) (ez:Sl S h GQ Y p0_w.b.Towns) (e0:Sl S h EV Z p0_w.b.Gauges) (e1:Sl S h Fp ab p0_w.b.Roads) (e2:Sl S h Cx ac p0_w.b.Shelters) (e3:Sl S h AN.int ad p0_w.b.Room) (cq:AE p0_w.b.Err) (cr:Sl S h AN.int I p0_w.in_.Rain) (cs:Sl S h FM J p0_w.in_.Faults) (ct:Sl S h Ic K p0_w.in_.Cmds) (cu:Sl S h FO M p0_w.in_.Takes) (cv:Sl S h GC Q p0_w.in_.Swaps) (a2:AE p0_w.s.Hour) (a3:Sl S h Ar an p0_w.s.Queue) {r:(List (List Int))×(List Av)×(List Ax)×(List Int)}(E:F9 N p0_w=some r):
 CL Tryz.prog 33 #[vP c 0] S h (λv S' h'=>∃w_0_17 w_0_19 w_0_20 w_0_24:Value,v= .tuple #[]∧St S' (Bx c 84 [.string p0_w.b.Name,V,vI p0_w.b.Cells,W,H,Y,Z,ab,ac,ad,vI p0_w.b.Err,I,J,K,M,Q,vI p0_w.s.Hour,w_0_17,t,w_0_19,w_0_20,u,y,z,w_0_24,A]::OS (AN.sl AN.int) 29 w_0_17 r.1::OS AN.int 3 t p0_w.s.Rem::OS Ar 60 w_0_19 r.2.1::OS BE 69 w_0_20 r.2.2.1::OS AN.int 3 u p0_w.s.In::OS AN.int 3 y p0_w.s.Out::OS BJ 50 z p0_w.moves::OS AN.int 3 w_0_24 r.2.2.2::OS Ar 60 A p0_w.sent::L) h'):=by
 refine BF (l:=[vP c 0]) 123 Tryz.func33 O Tryz.ntmps33 O λB=>?_
 rw[F9] at E
 have ha:=hs.pick (.tail .head)
 obtain⟨S2,G,e4⟩:=ha.ooPub
 refine AC ?_
 obtain⟨ah,e5,E⟩:=bd E
 refine R3 (m:=[(0,vP c 0)]) [] [] [(23,[22]),(24,[23]),(25,[23]),(26,[24]),(27,[25])] (by kernel_rfl) (λgv X F i v hh=>match i with|0=>v=vP c 0|1=>v=vP c 0|2=>v=vP c 16|3=>v=vP c 19|4=>Sl S2 hh Ar v p0_w.s.Queue|5=>v=vP c 0|6=>v=vP c 0|7=>v=vP c 16|8=>v=vP c 16|9=>v=vI p0_w.s.Hour∧AE p0_w.s.Hour|10=>v=vP c 0|11=>v=vP c 0|12=>v=vP c 0|13=>v=vP c 3|14=>Sl S2 hh B1 v p0_w.b.Places|15=>v=vI (↑p0_w.b.Places.length:Int)∧AE (↑p0_w.b.Places.length:Int)|16=>v=vP c 0|17=>v=vP c 0|18=>v=vP c 0|19=>v=vP c 1|20=>Sl S2 hh AN.str v p0_w.b.Owners|21=>v=vI (↑p0_w.b.Owners.length:Int)∧AE (↑p0_w.b.Owners.length:Int)|22=>∃w0 w1:Value,v= .tuple #[w0,w1]∧OW S2 h X F [OS (AN.sl AN.int) 29 w0 ah.1,OS Ar 60 w1 ah.2] hh|23=>v=gv 22∧∃w0 w1:Value,v= .tuple #[w0,w1]|24=>v=ZA (gv 23) 0|25=>v=ZA (gv 23) 1|26=>v=gv 24|27=>v=gv 25|_=>False) [[],[(0,8)],[(1,9)],[(2,10)],[(3,11)],[],[(5,13)],[(6,14)],[(7,15)],[(8,16)],[],[(10,18)],[(11,19)],[(12,20)],[(13,21)],[(14,22)],[],[(16,24)],[(17,25)],[(18,26)],[(19,27)],[(20,28)],[(4,12),(9,17),(15,23),(21,29)],[(22,30)],[(23,7)],[(23,7)],[(24,31)],[(25,32)]] [(22,30),(23,7),(24,31),(25,32),(26,2),(27,3)] mo (by kernel_rfl) [0] O (by kernel_rfl) (by kernel_rfl) (by kernel_rfl) O (kp [0] O) (λgv i v h1 h2 X X' F o1 o2 hF u1 u2 hr=>?_) (λgv gv' X F i v h1 hz hr=>?_) ?_ ?_ ?_
 ·match i,hr with
   |0,hr|1,hr|2,hr|3,hr|5,hr|6,hr|7,hr|8,hr|9,hr|10,hr|11,hr|12,hr|13,hr|15,hr|16,hr|17,hr|18,hr|19,hr|21,hr|23,hr|24,hr|25,hr|26,hr|27,hr=>exact hr
   |4,hr|14,hr|20,hr=>exact Sl.mono' hr (o2.ext λb hb=>Nat.lt_of_lt_of_le (G.1 b hb) o1.siz)
   |22,hr=>obtain⟨w0,w1,ev,q⟩:=hr;exact⟨w0,w1,ev,OW.mono G.1 o1 o2 hF u1 u2 q⟩
   |_+28,hr=>exact hr.elim
 ·match i,hr with
   |0,hr|1,hr|2,hr|3,hr|4,hr|5,hr|6,hr|7,hr|8,hr|9,hr|10,hr|11,hr|12,hr|13,hr|14,hr|15,hr|16,hr|17,hr|18,hr|19,hr|20,hr|21,hr|22,hr=>exact hr
   |23,hr=>rw[hz _ List.mem_cons_self O 22 (by decide)] at hr;exact hr
   |24,hr=>rw[hz _ (List.mem_cons_of_mem _ List.mem_cons_self) O 23 (by decide)] at hr;exact hr
   |25,hr=>rw[hz _ (List.mem_cons_of_mem _ (List.mem_cons_of_mem _ List.mem_cons_self)) O 23 (by decide)] at hr;exact hr
   |26,hr=>rw[hz _ (List.mem_cons_of_mem _ (List.mem_cons_of_mem _ (List.mem_cons_of_mem _ List.mem_cons_self))) O 24 (by decide)] at hr;exact hr
   |27,hr=>rw[hz _ (List.mem_cons_of_mem _ (List.mem_cons_of_mem _ (List.mem_cons_of_mem _ (List.mem_cons_of_mem _ List.mem_cons_self)))) O 25 (by decide)] at hr;exact hr
   |_+28,hr=>exact hr.elim
 ·exact trivial
 ·refine CC.cons O O ?_ ?_
  ·intro gv X mq hh o hX
   have hsN:=o.st G
   exact AI 1 (AA O (AQ O))
  refine CC.cons O O ?_ ?_
  ·intro gv X mq hh o hX
   have hsN:=o.st G
   intro kn cw
   obtain⟨ht,_,_,cw⟩:=cw
   cases cw
   exact AI 1 (CN O O (AQ O))
  refine CC.cons O O ?_ ?_
  ·intro gv X mq hh o hX
   have hsN:=o.st G
   intro ko cx
   obtain⟨hu,_,_,cx⟩:=cx
   cases cx
   exact AI 1 (AD CZ O (AQ O))
  refine CC.cons O O ?_ ?_
  ·intro gv X mq hh o hX
   have hsN:=o.st G
   intro kq cy
   obtain⟨hv,_,_,cy⟩:=cy
   cases cy
   exact AI 1 (AD IL O (AQ O))
  refine CC.cons O O ?_ ?_
  ·intro gv X mq hh o hX
   have hsN:=o.st G
   intro kr cz
   obtain⟨hx,_,_,cz⟩:=cz
   cases cz
   exact AI 1 (AT A6 hsN O (mt mh) O Ju O (AQ (a3.mono' (e4.trans (o.ext G.1)))))
  refine CC.cons O O ?_ ?_
  ·intro gv X mq hh o hX
   have hsN:=o.st G
   exact AI 1 (AA O (AQ O))
  refine CC.cons O O ?_ ?_
  ·intro gv X mq hh o hX
   have hsN:=o.st G
   intro ks c0
   obtain⟨hy,_,_,c0⟩:=c0
   cases c0
   exact AI 1 (CN O O (AQ O))
  refine CC.cons O O ?_ ?_
  ·intro gv X mq hh o hX
   have hsN:=o.st G
   intro kt c1
   obtain⟨h0,_,_,c1⟩:=c1
   cases c1
   exact AI 1 (AD CZ O (AQ O))
  refine CC.cons O O ?_ ?_
  ·intro gv X mq hh o hX
   have hsN:=o.st G
   intro ku c2
   obtain⟨h3,_,_,c2⟩:=c2
   cases c2
   exact AI 1 (AD IM O (AQ O))
  refine CC.cons O O ?_ ?_
  ·intro gv X mq hh o hX
   have hsN:=o.st G
   intro kv c3
   obtain⟨h4,_,_,c3⟩:=c3
   cases c3
   exact AI 1 (AT A6 hsN O (mt mh) O Ae O (AQ ⟨O,a2⟩))
  refine CC.cons O O ?_ ?_
  ·intro gv X mq hh o hX
   have hsN:=o.st G
   exact AI 1 (AA O (AQ O))
  refine CC.cons O O ?_ ?_
  ·intro gv X mq hh o hX
   have hsN:=o.st G
   intro kw c4
   obtain⟨h5,_,_,c4⟩:=c4
   cases c4
   exact AI 1 (CN O O (AQ O))
  refine CC.cons O O ?_ ?_
  ·intro gv X mq hh o hX
   have hsN:=o.st G
   intro kx c5
   obtain⟨h6,_,_,c5⟩:=c5
   cases c5
   exact AI 1 (AD GE O (AQ O))
  refine CC.cons O O ?_ ?_
  ·intro gv X mq hh o hX
   have hsN:=o.st G
   intro ky c6
   obtain⟨h7,_,_,c6⟩:=c6
   cases c6
   exact AI 1 (AD C0 O (AQ O))
  refine CC.cons O O ?_ ?_
  ·intro gv X mq hh o hX
   have hsN:=o.st G
   intro kz c7
   obtain⟨h8,_,_,c7⟩:=c7
   cases c7
   exact AI 1 (AT A6 hsN O (mt mh) O Fq O (AQ (aq.mono' (e4.trans (o.ext G.1)))))
  refine CC.cons O O ?_ ?_
  ·intro gv X mq hh o hX
   have hsN:=o.st G
   intro hc bc
   obtain⟨h9,_,_,bc⟩:=bc
   have bc:Sl _ _ B1 hc p0_w.b.Places:=bc
   exact AI 1 (Ak O bc Ez O λhd=>AQ ⟨O,(JY hd)⟩)
  refine CC.cons O O ?_ ?_
  ·intro gv X mq hh o hX
   have hsN:=o.st G
   exact AI 1 (AA O (AQ O))
  refine CC.cons O O ?_ ?_
  ·intro gv X mq hh o hX
   have hsN:=o.st G
   intro k0 c8
   obtain⟨ia,_,_,c8⟩:=c8
   cases c8
   exact AI 1 (CN O O (AQ O))
  refine CC.cons O O ?_ ?_
  ·intro gv X mq hh o hX
   have hsN:=o.st G
   intro k1 c9
   obtain⟨ib,_,_,c9⟩:=c9
   cases c9
   exact AI 1 (AD GE O (AQ O))
  refine CC.cons O O ?_ ?_
  ·intro gv X mq hh o hX
   have hsN:=o.st G
   intro k2 da
   obtain⟨ic,_,_,da⟩:=da
   cases da
   exact AI 1 (AD HT O (AQ O))
  refine CC.cons O O ?_ ?_
  ·intro gv X mq hh o hX
   have hsN:=o.st G
   intro k3 db
   obtain⟨ie,_,_,db⟩:=db
   cases db
   exact AI 1 (AT A6 hsN O (mt mh) O KI O (AQ (ba.mono' (e4.trans (o.ext G.1)))))
  refine CC.cons O O ?_ ?_
  ·intro gv X mq hh o hX
   have hsN:=o.st G
   intro he be
   obtain⟨ig,_,_,be⟩:=be
   have be:Sl _ _ AN.str he p0_w.b.Owners:=be
   exact AI 1 (Ak O be Jx O λhg=>AQ ⟨O,(JY hg)⟩)
  refine Md O O ?_ ?_
  ·intro gv X mq hh o hX
   have hsN:=SX.fz (X:=X) G o
   intro hi a4 k4 dc k5 dd k6 de
   obtain⟨ih,_,_,a4⟩:=a4
   have a4:=Sl.mono' (S':=(SX S2 h hh X)) a4 ⟨λb hb=>(SX.ext G.1 o hX).sub b hb,λ_ _=>rfl,Nat.le_refl _⟩
   have a4:Sl _ _ Ar hi p0_w.s.Queue:=a4
   obtain⟨ii,_,_,dc⟩:=dc
   obtain⟨rfl,hj⟩:=dc
   obtain⟨ij,_,_,dd⟩:=dd
   obtain⟨rfl,hk⟩:=dd
   obtain⟨ik,_,_,de⟩:=de
   obtain⟨rfl,hl⟩:=de
   refine Ct O O O fK O (QI hsN a4 hj hk hl e5) λk7 k8 k9 hm p=>?_
   obtain⟨la,lb,rfl,df⟩:=p
   have hsG:=df.pick (.tail (.tail .head))
   obtain⟨F101,hF102,e6,il,e7⟩:=OW.done G.1 o hX hm hsG
   exact C1 e6 ⟨F101,hF102,⟨_,_,O,e7⟩⟩
  refine CC.cons O O ?_ ?_
  ·intro gv X mq hh o hX
   have hsN:=o.st G
   intro im bf
   obtain⟨dg,_,_,bf⟩:=bf
   obtain⟨io,ip,rfl,ir⟩:=bf
   exact AI 1 (AA O (AQ ⟨dg,_,_,O⟩))
  refine CC.cons O O ?_ ?_
  ·intro gv X mq hh o hX
   have hsN:=o.st G
   intro it bg
   obtain⟨dh,_,_,bg⟩:=bg
   obtain⟨_,iu,iv,rfl⟩:=bg
   exact AI 1 (Bo O (AQ (by rw[←dh];rfl)))
  refine CC.cons O O ?_ ?_
  ·intro gv X mq hh o hX
   have hsN:=o.st G
   intro iw bh
   obtain⟨di,_,_,bh⟩:=bh
   obtain⟨_,iy,iz,rfl⟩:=bh
   exact AI 1 (Bo O (AQ (by rw[←di];rfl)))
  refine CC.cons O O ?_ ?_
  ·intro gv X mq hh o hX
   have hsN:=o.st G
   intro i0 b6
   obtain⟨dj,_,_,b6⟩:=b6
   exact AI 1 (AY O (AQ dj))
  refine CC.cons O O ?_ ?_
  ·intro gv X mq hh o hX
   have hsN:=o.st G
   intro i1 b7
   obtain⟨dk,_,_,b7⟩:=b7
   exact AI 1 (AY O (AQ dk))
  exact trivial
 intro bi a5 hn a8 ax dl i2 bj b8 bk b9 bl ca bm cb bn cc bo
 obtain⟨dm,bj⟩:=bj
 obtain⟨bp,bk⟩:=bk
 obtain⟨dn,bl⟩:=bl
 obtain⟨dp,bm⟩:=bm
 obtain⟨ho,bn⟩:=bn
 obtain⟨hp,bo⟩:=bo
 obtain⟨aj,ar,rfl,e8⟩:=bj
 have a6:=(T3.cons (T3.nil G a8 ax) dl (j:=22) O e8).st
 simp only[List.cons_append,List.nil_append] at a6
 obtain rfl: .tuple #[aj,ar]=b8:=((by rw[bk.1,←dm];try rfl:b8= .tuple #[aj,ar])).symm
 obtain rfl:aj=b9:=((by rw[bl,←bp];try rfl:b9=aj)).symm
 obtain rfl:ar=ca:=((by rw[bm,←bp];try rfl:ca=ar)).symm
 obtain rfl:aj=cb:=((by rw[bn,←dn];try rfl:cb=aj)).symm
 obtain rfl:ar=cc:=((by rw[bo,←dp];try rfl:cc=ar)).symm
 refine AZ (kp [3,2,0] O) (WF.sl (AI 5 (AA O (AA O (CN O O (AD CZ O (AD IL O (AG ?_))))))))
 obtain⟨ai,ag,rfl,i3⟩:=a6.oslen (mt mh)
 refine H2 (vs:=[(.slice ai ah.2.length ag)]) (cs':=[.string p0_w.b.Name,V,vI p0_w.b.Cells,W,H,Y,Z,ab,ac,ad,vI p0_w.b.Err,I,J,K,M,Q,vI p0_w.s.Hour,g,t,(.slice ai ah.2.length ag),C,u,y,z,D,A]) O O O O Ju O a6 (.tail (.tail (.tail .head))) O O λbq br bs=>AZ (kp [2,0] O) (AC (AH (AA O (CN O O (AD GE O (AD C0 O (AT A6 br O (mt (mt (mt mh))) O Fq O (Ak O (aq.mono' (e4.trans ((SX.ext G.1 a8 (Xw ax)).trans bs))) Ez O λi4=>AA O (AM (kp [44,43,2,0] O) (Aj (λa w=>∃(ao:List (List Int)) (ap:List Int),IV B (SX S2 h bi (UX a5)) bq (123,[]) a w [(0,vP c 0)] (OS Ar 60 (.slice ai ah.2.length ag) ah.2::OS (AN.sl AN.int) 29 g ao::Bx c 84 [.string p0_w.b.Name,V,vI p0_w.b.Cells,W,H,Y,Z,ab,ac,ad,vI p0_w.b.Err,I,J,K,M,Q,vI p0_w.s.Hour,g,t,(.slice ai ah.2.length ag),C,u,y,z,D,A]::OS AN.int 3 t p0_w.s.Rem::OS BE 69 C p0_w.s.Gates::OS AN.int 3 u p0_w.s.In::OS AN.int 3 y p0_w.s.Out::OS BJ 50 z p0_w.moves::OS AN.int 3 D ap::OS Ar 60 A p0_w.sent::L) λ_ _=>CV N p0_w ah ao ap=some r) ?_ ?_))))))))))
 ·refine A3 (λn1=>λa w=>∃(ae:Int) (au:List (List Int)) (av:List Int),IV B (SX S2 h bi (UX a5)) bq (123,[]) a w [(43,vI (↑p0_w.b.Places.length:Int)),(2,aj),(0,vP c 0),(44,vI ae)] (OS (AN.sl AN.int) 29 aj ah.1::OS Ar 60 (.slice ai ah.2.length ag) ah.2::OS (AN.sl AN.int) 29 g au::Bx c 84 [.string p0_w.b.Name,V,vI p0_w.b.Cells,W,H,Y,Z,ab,ac,ad,vI p0_w.b.Err,I,J,K,M,Q,vI p0_w.s.Hour,g,t,(.slice ai ah.2.length ag),C,u,y,z,D,A]::OS AN.int 3 t p0_w.s.Rem::OS BE 69 C p0_w.s.Gates::OS AN.int 3 u p0_w.s.In::OS AN.int 3 y p0_w.s.Out::OS BJ 50 z p0_w.moves::OS AN.int 3 D av::OS Ar 60 A p0_w.sent::L) λ_ _=>AE ae∧CU N p0_w ah (CV N p0_w ah) n1 ae au av=some r) N ?_ ?_ ?_
  ·intro aa ww hf hw
   exact⟨0,p0_w.s.Own,p0_w.peaks,_,_,hf.sub (kp [43,2,0,44] O),hw,br,(B9.refl (SX S2 h bi (UX a5)) bq),(iq (n:=0) O),E⟩
  ·rintro aa ww ⟨_,_,_,_,_,_,_,_,_,_,E⟩
   rw[CU] at E;cases E
  rintro n1 aa ww ⟨ae,au,av,ay,bt,hf,hw,af,cd,bu,E⟩
  refine Ac ?_ hf hw
  clear hf hw ww aa
  rw[CU] at E
  refine AH (Ao O (AM (kp [45,43,2,0,44] O) (AC (AX O E (λe9 E=>?_) (λe9 E=>?_)))))
  ·refine AO (AC (A8 (AH (AA O (AL O (kp [4,43,2,0,44] O) (AC ?_))))))
   obtain⟨i5,dq,E⟩:=bd E
   obtain⟨ce,dr,E⟩:=bd E
   obtain⟨i6,ds,E⟩:=bd E
   obtain⟨cf,dt,E⟩:=bd E
   obtain⟨bv,du,E⟩:=bd E
   obtain⟨i7,dv,E⟩:=bd E
   refine NH (m:=[(4,vI ae),(43,vI (↑p0_w.b.Places.length:Int)),(2,aj),(0,vP c 0),(44,vI ae)]) 20 (λi v hh=>match i with|0=>v=vP c 0|1=>v=vP c 0|2=>v=vP c 16|3=>v=vP c 17|4=>v=g|5=>v=vI ae∧AE ae|6=>v=vP c 0|7=>v=vP c 0|8=>v=vP c 16|9=>v=vP c 17|10=>v=g|11=>v=vI ae∧AE ae|12=>EP g (ae.toNat*((AN.sl AN.int)).sz+0) v|13=>Sl ay hh AN.int v ce|14=>v=aj|15=>v=vI ae∧AE ae|16=>EP aj (ae.toNat*((AN.sl AN.int)).sz+0) v|17=>Sl ay hh AN.int v cf|18=>Sl (SN ay bt hh) hh AN.int v bv|19=>EP g (ae.toNat*((AN.sl AN.int)).sz+0) v|_=>False) [[],[(0,47)],[(1,48)],[(2,49)],[(3,50)],[],[],[(6,53)],[(7,54)],[(8,55)],[(9,56)],[],[(10,57),(11,58)],[(12,59)],[],[],[(14,61),(15,62)],[(16,63)],[(13,60),(17,64)],[(4,51),(5,52)]] [(18,65),(19,66)] mo (by kernel_rfl) [4,43,2,0,44] O (by kernel_rfl) (by kernel_rfl) (by kernel_rfl) (kp [4,43,2,0,44] O) (λi v h1 h2 o1 o2 hr=>?_) ?_ ?_
   ·match i,hr with
     |0,hr|1,hr|2,hr|3,hr|4,hr|5,hr|6,hr|7,hr|8,hr|9,hr|10,hr|11,hr|12,hr|14,hr|15,hr|16,hr|19,hr=>exact hr
     |13,hr|17,hr=>exact Sl.mono' hr (o2.ext λb hb=>Nat.lt_of_lt_of_le (af.1 b hb) o1.siz)
     |18,hr=>exact Sl.mono' hr (SN.mono af.1 o1 o2)
     |_+20,hr=>exact hr.elim
   ·refine A7.cons O (λ_ _ _=>AI 1 (AA O (AQ O))) (A7.cons O (λ_ _ _ _ fa=>by cases fa;exact AI 1 (CN O O (AQ O))) (A7.cons O (λ_ _ _ _ fb=>by cases fb;exact AI 1 (AD CZ O (AQ O))) (A7.cons O (λ_ _ _ _ fc=>by cases fc;exact AI 1 (AD D2 O (AQ O))) (A7.cons O (λ_ _ o _ fd=>by cases fd;exact AI 1 (AT A6 (o.st af) O (mt (mt (mt mh))) O G9 O (AQ O))) (A7.cons O (λ_ _ _=>AI 1 (AA O (AQ ⟨O,bu⟩))) (A7.cons O (λ_ _ _=>AI 1 (AA O (AQ O))) (A7.cons O (λ_ _ _ _ fe=>by cases fe;exact AI 1 (CN O O (AQ O))) (A7.cons O (λ_ _ _ _ ff=>by cases ff;exact AI 1 (AD CZ O (AQ O))) (A7.cons O (λ_ _ _ _ fg=>by cases fg;exact AI 1 (AD D2 O (AQ O))) (A7.cons O (λ_ _ o _ fh=>by cases fh;exact AI 1 (AT A6 (o.st af) O (mt (mt (mt mh))) O G9 O (AQ O))) (A7.cons O (λ_ _ _=>AI 1 (AA O (AQ ⟨O,bu⟩))) ?_)))))))))))
    refine A7.cons O (λ_ _ o=>by intro i8 fi i9 fj;cases fi;obtain ⟨rfl,ja⟩:=fj;exact AI 1 (A0 (o.st af) (mt (mt mh)) O O E3 dq O λjb dw=>AQ dw)) ?_
    refine A7.cons O ?_ ?_
    ·intro mq hh o
     intro jc fk
     have hsN:=o.st af
     refine AI 1 ?_
     have fl:=hsN.epAt (mt (mt mh)) dr FL.id fk
     exact Al A6 (λ_ x=>x) O fl BX O λjd fm=>AQ fm
    refine A7.cons O (λ_ _ _=>AI 1 (AA O (AQ O))) (A7.cons O (λ_ _ _=>AI 1 (AA O (AQ ⟨O,bu⟩))) (A7.cons O (λ_ _ o=>by intro je fn jf fo;cases fn;obtain ⟨rfl,jg⟩:=fo;exact AI 1 (A0 (o.st af) mh O O E3 ds O λjh dx=>AQ dx)) ?_))
    refine A7.cons O ?_ ?_
    ·intro mq hh o
     intro ji fp
     have hsN:=o.st af
     refine AI 1 ?_
     have fq:=hsN.epAt mh dt FL.id fp
     exact Al A6 (λ_ x=>x) O fq BX O λjj fr=>AQ fr
    refine A7.cons O ?_ ?_
    ·intro mq hh o
     intro fs az ft a0
     have hsN:=SN.st af o
     have az:=Sl.mono' (S':=(SN ay bt hh)) az ⟨λb hb=> .inl hb,λ_ _=>rfl,Nat.le_refl _⟩
     have az:Sl _ _ AN.int fs ce:=az
     have a0:=Sl.mono' (S':=(SN ay bt hh)) a0 ⟨λb hb=> .inl hb,λ_ _=>rfl,Nat.le_refl _⟩
     have a0:Sl _ _ AN.int ft cf:=a0
     have hsF:=hsN.fz
     refine Bf O O O XQ O hsF (Lf (St.all _) (az.mono (λb hb=>hsF.1 b hb) (λ_ _=>rfl)) (a0.mono (λb hb=>hsF.1 b hb) (λ_ _=>rfl)) du) λjk jl jm hq fu fv p=>?_
     have dy:=p
     have bw:=hsF.join fv dy ⟨OS.flat (λ{_ _ _ _ _ _} k=>k),trivial⟩
     simp only[List.cons_append,List.nil_append] at bw
     obtain⟨jn,dz,fw,fx⟩:=bw.pubs .head
     have bx:=Fz.done o (fu.trans fw) dz
     exact C1 bx.1 (Sl.mono' fx bx.2)
    exact A7.cons O (λ_ _ o=>by intro jo fy jp f0;cases fy;obtain ⟨rfl,jq⟩:=f0;exact AI 1 (A0 (o.st af) (mt (mt mh)) O O E3 dv O λjr d0=>AQ d0)) trivial
   intro js cg f1 bz jt f2
   have d1:=SN.st af cg
   have bz:Sl _ _ AN.int f1 bv:=bz
   obtain⟨f3,d2,E⟩:=bd E
   refine Er (r:=(AN.sl AN.int)) (l:=au) (i:=ae) (x:=f3) O O (M0 bz) f2 d2 Lr.id BX (λ_=>rfl) d1 (.tail (.tail .head)) λju ak f4=>AZ (kp [4,43,2,0,44] O) (LD 15 mo (by kernel_rfl) O ak (AA O (CN O O (AD Jl O (AT Bg ak O (mt (mt (mt mh))) O BX O (AA O (AA O (CN O O (AD CZ O (AD D2 O (AT Bg ak O (mt (mt (mt mh))) O G9 O (AA O ?_))))))))))))
   obtain⟨jv,d3,E⟩:=bd E
   refine A0 ak (mt (mt mh)) O O E3 d3 O λjw d4=>?_
   obtain⟨jx,d5,E⟩:=bd E
   have f5:=ak.epAt (mt (mt mh)) d5 FL.id d4
   refine Al Bg (λ_ x=>x) O f5 BX O λjy f6=>?_
   obtain⟨ch,d6,E⟩:=bd E
   refine CX O O O NG O (λh' o=>Ek (St.all h') (f6.mono' (o.all ak.1)) d6) λf7=>?_
   have f8:=f7
   obtain⟨jz,d7,E⟩:=bd E
   refine A0 ak (mt (mt (mt (mt (mt (mt (mt (mt (mt mh))))))))) O O BR d7 O λj0 d8=>Jp λj1 d9 f9=>?_
   obtain⟨ga,ea,E⟩:=bd E
   refine Er (r:=AN.int) (l:=av) (i:=ae) (x:=ga) O O (⟨_,O,O,f8⟩:Rd _ _ AN.int _ ch) d8 ea Lr.id Ae (λ_=>rfl) d9 (.tail (.tail (.tail (.tail (.tail (.tail (.tail (.tail (.tail .head))))))))) λj2 eb gb=>AZ (kp [43,2,0,44] O) (BP (BY (.inl O) (Ai O (AA O (AM (kp [44,43,2,0] O) (WF.nil (λaa ww hf hw=>?_)))))))
   exact⟨(BM (ae+1)),(upd au ae bv),(upd av ae ch),_,_,hf.sub (kp [43,2,0,44] O),hw,eb,(cd.trans ((SN.ext af.1 cg).trans (f4.trans (f9.trans gb)))),(BG _),E⟩
  refine BA O (λaa ww hf hw=>?_)
  have ec:=af.sel [1,1,1,1,1,1,1,1,1,1] 1 O
  exact⟨au,av,_,_,hf.sub (kp [0] O),hw,ec,cd,E⟩
 rintro aa ww ⟨ao,ap,ci,cj,hf,hw,b0,ck,E⟩
 refine Ac ?_ hf hw
 clear hf hw ww aa
 rw[CV] at E
 refine AH (AA O (CN O O (AD GE O (AD HA O (AT A6 b0 O (mt (mt mh)) O Jv O ?_)))))
 have cl:=bb.mono' (e4.trans ((SX.ext G.1 a8 (Xw ax)).trans (bs.trans ck)))
 refine Ak O cl H6 O λj3=>AA O (AM (kp [89,88,87,0] O) (A8 (A3 (λn2=>λa w=>∃(am:Int) (aw:List Ax),IV B ci cj (123,[]) a w [(88,vI (↑p0_w.b.Links.length:Int)),(87,H),(0,vP c 0),(89,vI am)] (OS Ar 60 (.slice ai ah.2.length ag) ah.2::OS (AN.sl AN.int) 29 g ao::Bx c 84 [.string p0_w.b.Name,V,vI p0_w.b.Cells,W,H,Y,Z,ab,ac,ad,vI p0_w.b.Err,I,J,K,M,Q,vI p0_w.s.Hour,g,t,(.slice ai ah.2.length ag),C,u,y,z,D,A]::OS AN.int 3 t p0_w.s.Rem::OS BE 69 C aw::OS AN.int 3 u p0_w.s.In::OS AN.int 3 y p0_w.s.Out::OS BJ 50 z p0_w.moves::OS AN.int 3 D ap::OS Ar 60 A p0_w.sent::L) λ_ _=>AE am∧CM N p0_w ah ao ap n2 am aw=some r) N ?_ ?_ ?_)))
 ·intro aa ww hf hw
  exact⟨0,p0_w.s.Gates,_,_,hf.sub (kp [88,87,0,89] O),hw,b0,(B9.refl ci cj),(iq (n:=0) O),E⟩
 ·rintro aa ww ⟨_,_,_,_,_,_,_,_,_,E⟩
  rw[CM] at E;cases E
 rintro n2 aa ww ⟨am,aw,gc,gd,hf,hw,a7,b1,j4,E⟩
 refine Ac ?_ hf hw
 clear hf hw ww aa
 rw[CM] at E
 refine AH (Ao O (AM (kp [90,88,87,0,89] O) (AC (AX O E (λge E=>?_) (λge E=>?_)))))
 ·refine AO (AC (Aj (λa w=>∃(a9:List Ax),IV B gc gd (123,[]) a w [(88,vI (↑p0_w.b.Links.length:Int)),(87,H),(0,vP c 0),(89,vI am)] (OS Ar 60 (.slice ai ah.2.length ag) ah.2::OS (AN.sl AN.int) 29 g ao::Bx c 84 [.string p0_w.b.Name,V,vI p0_w.b.Cells,W,H,Y,Z,ab,ac,ad,vI p0_w.b.Err,I,J,K,M,Q,vI p0_w.s.Hour,g,t,(.slice ai ah.2.length ag),C,u,y,z,D,A]::OS AN.int 3 t p0_w.s.Rem::OS BE 69 C a9::OS AN.int 3 u p0_w.s.In::OS AN.int 3 y p0_w.s.Out::OS BJ 50 z p0_w.moves::OS AN.int 3 D ap::OS Ar 60 A p0_w.sent::L) λ_ _=>E8 N am (CM N p0_w ah ao ap n2) a9=some r) ?_ ?_))
  ·refine WF.sl (AI 3 (AA O ?_))
   obtain⟨d,ed,E⟩:=bd E
   refine A9 O O (cl.mono' b1) H6 ed O λj5 gf=>B6 A6 a7.1 O gf HW (λe=>by cases e) O λj6 gg=>AG (Cn OQ O a7 λj7 j8 ee b2=>AI 1 (AY O (AG ?_)))
   obtain⟨b3,b4,b5,rfl,gh,gi,gj,gk,cm,cn,co,gl,gm,gn,gp,gq,gr,gs,gt,gu,gw,gx⟩:=Bv.ex (gg.mono b2)
   refine HM (vs:=[.string d.Name,vI d.Kind,vI d.From,vI d.To,b3,b4,b5,vI d.Positions,vI d.Speed,vI d.Leak,vI d.Crest,vI d.Num,vI d.Den,vI d.Prime,vI d.Break,vI d.BackNum,vI d.BackDen,vI d.Delay]) (cs':=[.string d.Name,vI d.Kind,vI d.From,vI d.To,b3,b4,b5,vI d.Positions,vI d.Speed,vI d.Leak,vI d.Crest,vI d.Num,vI d.Den,vI d.Prime,vI d.Break,vI d.BackNum,vI d.BackDen,vI d.Delay]) O O O (AF O (AF O (AF O (AF O (AF cm.one (AF cn.one (AF co.one (AF O (AF O (AF O (AF O (AF O (AF O (AF O (AF O (AF O (AF O (AF O EG)))))))))))))))))) HW O ee .head O O λj9 U a1=>AZ (kp [5,6,88,87,0,89] O) (AH (AD GF O (AT A6 U O mh O Ae O (BK O (AM (kp [96,5,6,88,87,0,89] O) (AX O E (λgy E=>?_) (λgy E=>?_)))))))
   ·refine LD 25 mo (by kernel_rfl) O U (AA O (CN O O (AD CZ O (AD Hw O (AT Bg U O (mt (mt (mt mh))) O Ke O (AA O (Dk (vs:=[.string d.Name,vI d.Kind,vI d.From,vI d.To,b3,b4,b5,vI d.Positions,vI d.Speed,vI d.Leak,vI d.Crest,vI d.Num,vI d.Den,vI d.Prime,vI d.Break,vI d.BackNum,vI d.BackDen,vI d.Delay]) Bg U O mh O O HW O O (AA O (CN O O (AD CZ O (AD Hw O (AT Bg U O (mt (mt (mt mh))) O Ke O (AA O ?_)))))))))))))
    obtain⟨ka,ef,E⟩:=bd E
    refine A0 U (mt (mt (mt (mt (mt mh))))) O O KJ ef O λkb eg=>?_
    obtain⟨kc,eh,E⟩:=bd E
    have gz:=U.epAt (mt (mt (mt (mt (mt mh))))) eh FL.id eg
    refine B6 Bg (λ_ x=>x) O gz Gn (λe=>by cases e) O λkd g0=>AA O (CN O O (AD Jl O (AT Bg U O (mt (mt (mt mh))) O BX O (AD JJ O (AT Bg U O mh O Ae O ?_)))))
    obtain⟨ke,ei,E⟩:=bd E
    refine A0 U (mt (mt (mt (mt (mt (mt (mt (mt (mt mh))))))))) O O BR ei O λkf ej=>?_
    obtain⟨kg,ek,E⟩:=bd E
    have g1:=U.epAt (mt (mt (mt (mt (mt (mt (mt (mt (mt mh))))))))) ek FL.id ej
    refine Ag Bg (λ_ x=>x) O g1 Ae O λg2=>?_
    obtain⟨cp,el,E⟩:=bd E
    refine CX O O O gP O (λh' o=>Ou (St.all h') (Bv.mk (x:=d) gh gi gj gk ((cm.mono' a1).mono' (o.all U.1)) ((cn.mono' a1).mono' (o.all U.1)) ((co.mono' a1).mono' (o.all U.1)) gl gm gn gp gq gr gs gt gu gw gx) (g0.mono (o.all U.1)) g2 el) λg3=>?_
    obtain⟨g4,g5⟩:=g3
    obtain⟨kh,em,E⟩:=bd E
    refine A0 U (mt (mt (mt (mt (mt mh))))) O O KJ em O λki en=>Jp λkj eo g6=>?_
    obtain⟨g7,ep,E⟩:=bd E
    refine Er (r:=BE) (l:=aw) (i:=am) (x:=g7) O O (BE.mk (x:=cp) ⟨g4,g5⟩) en ep Lr.id Gn (λe=>by cases e) eo (.tail (.tail (.tail (.tail (.tail .head))))) λkk eq g8=>AZ (kp [88,87,0,89] O) (WF.nil (λaa ww hf hw=>?_))
    have er:=eq.sel [1,1,1,1,1,1,1,1,1,1] 1 O
    exact⟨(upd aw am cp),_,_,hf.sub (kp [88,87,0,89] O),hw,er,(b2.trans (a1.trans (g6.trans g8))),E⟩
   refine AO (WF.nil (λaa ww hf hw=>?_))
   have es:=U.sel [1,1,1,1,1,1,1,1,1,1] 1 O
   exact⟨aw,_,_,hf.sub (kp [88,87,0,89] O),hw,es,(b2.trans a1),E⟩
  rintro aa ww ⟨a9,kl,km,hf,hw,et,g9,E⟩
  refine Ac ?_ hf hw
  clear hf hw ww aa
  rw[E8] at E
  refine BY (.inl O) (Ai O (AA O (AM (kp [89,88,87,0] O) (WF.nil (λaa ww hf hw=>?_)))))
  exact⟨(BM (am+1)),a9,_,_,hf.sub (kp [88,87,0,89] O),hw,et,(b1.trans g9),(BG _),E⟩
 refine J8 O (WF.nil (λaa ww hf hw=>?_))
 have eu:=a7.sel [2,1,1,0,0,0,0,0,0,0] 0 O
 cases E
 exact KD hf O hw KC O (e4.trans ((SX.ext G.1 a8 (Xw ax)).trans (bs.trans (ck.trans b1)))) ⟨_,_,_,_,O,eu⟩
theorem LN (hs:St S L h) {j:Value}{d:(List Int)}(o:Sl S h AN.int j d) {b:Value}{c:(List Int)}(k:Sl S h AN.int b c) {r:(List Int)}(E:Gs N d c=some r):
 CL Tryz.prog 96 #[j,b] S h (λv S' h'=>St S' (OS AN.int 3 v r::L) h'):=by
 refine BF (l:=[j,b]) 30 Tryz.func96 O Tryz.ntmps96 O λB=>?_
 rw[Gs] at E
 refine AH (AL O (kp [0,1] O) (WF.sl (AI 2 (AA O (Ak O o BR O λb1=>AG ?_)))))
 obtain⟨Y,E⟩:=MU E
 refine JD (r:=AN.int) (zx:=0) FJ O ⟨O,by unfold AE;omega⟩ O O Y O O hs λX h4 Z e6=>AI 1 (AY O (AG (AZ (kp [5,0,1] O) (WF.sl (AI 2 (AA O (AA O (AG (SB (r:=AN.int) (l:=(List.replicate ((↑d.length:Int):Int).toNat (0:Int))) (xs:=d) O O BR (Sl.src (o.mono' e6)) O Z .head λh8 ab C=>AZ (kp [5,1] O) (AC (AH (AA O ?_))))))))))))
 have D:=k.mono' (e6.trans C)
 refine Ak O D BR O λai=>AA O (AM (kp [16,15,14,5] O) (Aj (λa w=>∃(z:List Int),IV B S h8 (30,[]) a w [(5,X)] (OS AN.int 3 X z::L) λ_ _=>GI N z=some r) ?_ ?_))
 ·refine A3 (λn1=>λa w=>∃(m:Int) (p:List Int),IV B S h8 (30,[]) a w [(15,vI (↑c.length:Int)),(14,b),(5,X),(16,vI m)] (OS AN.int 3 X p::L) λ_ _=>AE m∧Ed N c (GI N) n1 m p=some r) N ?_ ?_ ?_
  ·intro u y s t
   exact⟨0,(Mw (List.replicate ((↑d.length:Int):Int).toNat (0:Int)) d),_,_,s.sub (kp [15,14,5,16] O),t,ab,(B9.refl S h8),(iq (n:=0) O),E⟩
  ·rintro u y ⟨_,_,_,_,_,_,_,_,_,E⟩
   rw[Ed] at E;cases E
  rintro n1 u y ⟨m,p,aj,ak,s,t,g,A,al,E⟩
  refine Ac ?_ s t
  clear s t y u
  rw[Ed] at E
  refine AH (Ao O (AM (kp [17,15,14,5,16] O) (AC (AX O E (λac E=>?_) (λac E=>?_)))))
  ·refine AO (AC (A8 (AH (AA O ?_))))
   obtain⟨F,G,E⟩:=bd E
   refine A9 O O (D.mono' A) BR G O λam ad=>Ag A6 g.1 O ad Ae O λan=>AY O (AL O (kp [7,6,15,14,5,16] O) (EX (AI 7 (AA O (AA O ?_)))))
   obtain⟨ao,H,E⟩:=bd E
   refine A0 g mh O O BR H O λap I=>?_
   obtain⟨J,K,E⟩:=bd E
   have ae:=g.epAt mh K FL.id I
   refine Ag A6 (λ_ x=>x) O ae Ae O λaq=>AA O (Cz O ?_)
   obtain⟨ar,M,E⟩:=bd E
   refine A0 g mh O O BR M O λau Q=>AG ?_
   obtain⟨af,U,E⟩:=bd E
   refine Er (r:=AN.int) (l:=p) (i:=m) (x:=af) O O (⟨_,O,O,(BG _)⟩:Rd _ _ AN.int _ (BM (J-F))) Q U Lr.id Ae (λ_=>rfl) g .head λav V ag=>AZ (kp [15,14,5,16] O) (BP (BY (.inl O) (Ai O (AA O (AM (kp [16,15,14,5] O) (WF.nil (λu y s t=>?_)))))))
   exact⟨(BM (m+1)),(upd p m (BM (J-F))),_,_,s.sub (kp [15,14,5,16] O),t,V,(A.trans ag),(BG _),E⟩
  refine BA O (λu y s t=>?_)
  exact⟨p,_,_,s.sub (kp [5] O),t,g,A,E⟩
 rintro u y ⟨z,aw,ax,s,t,W,ah,E⟩
 refine Ac ?_ s t
 clear s t y u
 rw[GI] at E
 refine AH (AA O (AL O (kp [4] O) (Ad (λu y s t=>?_))))
 cases E
 exact Dr s t O O (e6.trans (C.trans ah)) W
theorem QM (hs:St S L h) {d:Value}{g:(List Int)}(m:Sl S h AN.int d g) {c:Int}(n:AE c) {j:Int}(y:AE j) {r:(List Int)×(List Int)}(E:J4 N g c j=some r):
 CL Tryz.prog 84 #[d,vI c,vI j] S h (λv S' h'=>∃F G:Value,v= .tuple #[F,G]∧St S' (OS AN.int 3 F r.1::OS AN.int 3 G r.2::L) h'):=by
 refine BF (l:=[d,vI c,vI j]) 27 Tryz.func84 O Tryz.ntmps84 O λB=>?_
 rw[J4] at E
 refine AH (AY O (AL O (kp [0,1,2] O) (WF.sl (AI 2 (AA O (Ak O m BR O λb1=>AG ?_))))))
 obtain⟨Z,E⟩:=MU E
 refine JD (r:=AN.int) (zx:=0) FJ O ⟨O,by unfold AE;omega⟩ O O Z O O hs λv3 h4 H e6=>AI 1 (AY O (AG (AZ (kp [6,0,1,2] O) (AC (AC (Bt (.inl O) H (AA O (AA O (AA O ?_)))))))))
 obtain⟨y8,ab,E⟩:=bd E
 refine CX O O O ZV O (λh' o=>Nj (St.all h') ((m.mono' e6).mono' (o.all H.1)) n ab) λr9=>?_
 have ac:=r9
 refine NT O O O (AY O (BQ (kp [8,6,0,1] O) λI t ad=>AH (AA O (Bk O (AM (kp [18,8,6,0,1] O) (Ga (λa w=>∃(D:List Int),IV B S I (27,[]) a w [(6,v3),(0,d)] (OS AN.int 3 v3 D::L) λ_ _=>Hg N g D=some r) ?_ ?_))))))
 ·refine AX O E (λae E=>?_) (λae E=>?_)
  ·refine EX (AI 4 (AA O (AA O (AA O ?_))))
   obtain⟨al,J,E⟩:=bd E
   refine A0 t mh O O BR J O λam K=>AG ?_
   obtain⟨af,M,E⟩:=bd E
   refine Er (r:=AN.int) (l:=(List.replicate ((↑g.length:Int):Int).toNat (0:Int))) (i:=c) (x:=af) O O (⟨_,O,O,(Kb y ac)⟩:Rd _ _ AN.int _ (min j y8)) K M Lr.id Ae (λ_=>rfl) t .head λan Q ag=>AZ (kp [6,0] O) (WF.nil (λX Y u z=>?_))
   exact⟨(upd (List.replicate ((↑g.length:Int):Int).toNat (0:Int)) c (min j y8)),_,_,u.sub (kp [6,0] O),z,Q,ag,E⟩
  refine AO (WF.nil (λX Y u z=>?_))
  exact⟨(List.replicate ((↑g.length:Int):Int).toNat (0:Int)),_,_,u.sub (kp [6,0] O),z,t,(B9.refl S I),E⟩
 rintro X Y ⟨D,ao,ap,u,z,s,ah,E⟩
 refine Ac ?_ u z
 clear u z Y X
 rw[Hg] at E
 refine WF.sl (AI 3 (AA O (AA O (AA O (AG ?_)))))
 have A:=e6.trans (ad.trans ah)
 obtain⟨aq,U,E⟩:=bd E
 refine Bf O O O ZP O s (LN (St.all _) ((m.mono' A).mono (λb hb=>s.1 b hb) (λ_ _=>rfl)) (s.oslAll mh) U) λar au av ak ai aj p=>?_
 have V:=p
 have C:=s.join aj V ⟨OS.flat (λ{_ _ _ _ _ _} k=>k),trivial⟩
 simp only[List.cons_append,List.nil_append] at C
 refine AI 2 (AY O (AY O (AG (AZ (kp [7,6] O) (Ad (λX Y u z=>?_))))))
 have W:=C.sel [1,0] 0 O
 cases E
 exact KD u O z (IF (Ir u (v:=_) O) (IF (Ir u (v:=_) O) KC)) O (A.trans ai) ⟨_,_,O,W⟩
end Go.Proofs.YtblcgjadhemlbaaGreat
