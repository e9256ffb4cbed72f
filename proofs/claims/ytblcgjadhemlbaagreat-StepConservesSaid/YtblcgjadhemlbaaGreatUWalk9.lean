import Derived.Test.YtblcgjadhemlbaaGreatUWalk8
namespace Go.Proofs.YtblcgjadhemlbaaGreat
open Go.RowKit
set_option linter.unusedVariables false
set_option linter.unusedSimpArgs false
set_option maxRecDepth 10000
set_option maxHeartbeats 2000000
variable {N:Nat}{S:Nat→Prop}{L:List HP}{h:Av}
theorem Ot (hs:St S L h) {d:Value}{p:Ay}(n:Rd S h Bu d p) {g:Value}{b:Au}(o:Rd S h A8 g b) {i:Int}(W:AG i) {r:Au}(E:HK N p b i=some r):
 CG Tryz.prog 23 #[d,g,vI i] S h (λv S' h'=>v= .agg #[vI r.Pos,vI r.Target,.bool r.Stuck,.bool r.Open]∧Au.ok r∧St S' (L) h'):=by
 refine BB (l:=[d,g,vI i]) 24 Tryz.func23 O Tryz.ntmps23 O λB=>?_
 rw[HK] at E
 refine WF.sl (B5 O n (λe=>by cases e) O hs λq1 S2 h3 X Y k6=>?_)
 obtain⟨rfl,⟨r9,D⟩⟩:=A8.ex (o.mono Y)
 refine P4 O O O X λF am G x=>Cs SC O G λH I c y=>AZ (kp [6,4,3,2] O) (AD (AI ?_))
 have z:=k6.mono (x.trans y)
 refine Ai O z Ay.f_Kind GD O λan Z=>Ah A6 c.1 O Z Ag O λao=>Bc O (AN (kp [9,6,4,3,2] O) (AX O E (λab E=>?_) (λab E=>?_)))
 ·refine WF.sl (AH 1 (DT (vs:=[vI b.Pos,vI b.Target,.bool b.Stuck,.bool b.Open]) A6 c O (mt mh) O O Gi O O (AF (Dh (vs:=[vI b.Pos,vI b.Target,.bool b.Stuck,.bool b.Open]) O O O O Gi O c .head O λap J ac=>AZ (kp [6] O) (Ac (λA C j k=>?_))))))
  have s:=J.drop (.tail .head)
  have K:=s.drop .head
  cases E
  exact J9 j O k (IC (Xt j k s O mh Gi O) J8) O (Y.trans (x.trans (y.trans ac))) ⟨O,⟨r9,D⟩,K⟩
 refine AT (AD (Am (λa w=>∃(m:Bool),IV B S2 I (24,[]) a w [(6,vP H 0),(4,vP F 0)] (Bx H 69 [vI 0,vI 0,.bool false,.bool false]::Bx F 69 [vI b.Pos,vI b.Target,.bool b.Stuck,.bool m]::L) λ_ _=>He N b m=some r) ?_ ?_))
 ·refine AI (AA O (Ai O z Jq Ns O λaq ad=>Ah A6 c.1 O ad Ag O λar=>Gv O (AL O (kp [11,6,4,3,2] O) (AX O E (λae E=>?_) (λae E=>?_)))))
  ·refine EQ (AH 1 (AC No O (AF (Hz (vs:=[.bool true]) (cs':=[vI b.Pos,vI b.Target,.bool b.Stuck,.bool true]) O O O O Ol O c (.tail .head) O O λau M af=>AZ (kp [6,4] O) (WF.nil (λA C j k=>?_))))))
   exact⟨true,_,_,j.sub (kp [6,4] O),k,M,af,E⟩
  refine AI (AA O (Ai O z Jr Nr O λav ag=>Ah A6 c.1 O ag Ag O λaw=>Ft O (AL O (kp [17,6,4] O) (AX O E (λah E=>?_) (λah E=>?_)))))
  ·refine EQ (AH 1 (AC No O (AF (Hz (vs:=[.bool false]) (cs':=[vI b.Pos,vI b.Target,.bool b.Stuck,.bool false]) O O O O Ol O c (.tail .head) O O λax Q ai=>AZ (kp [6,4] O) (WF.nil (λA C j k=>?_))))))
   exact⟨false,_,_,j.sub (kp [6,4] O),k,Q,ai,E⟩
  refine AT (WF.nil (λA C j k=>?_))
  exact⟨b.Open,_,_,j.sub (kp [6,4] O),k,c,(B9.refl S2 I),E⟩
 rintro A C ⟨m,ay,az,j,k,t,aj,E⟩
 refine Ad ?_ j k
 clear j k C A
 rw[He] at E
 refine WF.sl (AH 1 (DT (vs:=[vI b.Pos,vI b.Target,.bool b.Stuck,.bool m]) A6 t O (mt mh) O O Gi O O (AF (Dh (vs:=[vI b.Pos,vI b.Target,.bool b.Stuck,.bool m]) O O O O Gi O t .head O λa0 U ak=>AZ (kp [6] O) (Ac (λA C j k=>?_))))))
 have u:=U.drop (.tail .head)
 have V:=u.drop .head
 cases E
 exact J9 j O k (IC (Xt j k u O mh Gi O) J8) O (Y.trans (x.trans (y.trans (aj.trans ak)))) ⟨O,⟨r9,D⟩,V⟩
theorem Lc {c:Nat}{p0_w:Aj}{V:Value}{W:Value}{H:Value}{Y:Value}{Z:Value}{ab:Value}{ac:Value}{ad:Value}{I:Value}{J:Value}{K:Value}{M:Value}{Q:Value}{g:Value}{t:Value}{an:Value}{C:Value}{u:Value}{y:Value}{z:Value}{D:Value}{A:Value}(hs:St S (Bx c 84 [.string p0_w.b.Name,V,vI p0_w.b.Cells,W,H,Y,Z,ab,ac,ad,vI p0_w.b.Err,I,J,K,M,Q,vI p0_w.s.Hour,g,t,an,C,u,y,z,D,A]::OO AM.int 3 29 g p0_w.s.Own::OS AM.int 3 t p0_w.s.Rem::OS A8 69 C p0_w.s.Gates::OS AM.int 3 u p0_w.s.In::OS AM.int 3 y p0_w.s.Out::OS BT 50 z p0_w.moves::OS AM.int 3 D p0_w.peaks::OS Ap 60 A p0_w.sent::L) h) (ew:p0_w.b.Name.size≤maxLen) (ba:Sl S h AM.str V p0_w.b.Owners) (ey:AG p0_w.b.Cells) (aq:Sl S h Bw W p0_w.b.Places) (bb:Sl S h Bu H p0_w.b.Links) (ez:Sl S h GL Y p0_w.b.Towns) (e0:Sl S h EN Z p0_w.b.Gauges) (e1:Sl S h F8 ab p0_w.b.Roads) (e2:Sl S h Cr ac p0_w.b.Shelters) (e3:Sl S h AM.int ad p0_w.b.Room) (cq:AG p0_w.b.Err) (cr:Sl S h AM.int I p0_w.in_.Rain) (cs:Sl S h FL J p0_w.in_.Faults) (ct:Sl S h IX K p0_w.in_.Cmds) (cu:Sl S h FX M p0_w.in_.Takes) (cv:Sl S h GM Q p0_w.in_.Swaps) (a2:AG p0_w.s.Hour) (a3:Sl S h Ap an p0_w.s.Queue) {r:(List (List Int))×(List Ao)×(List Au)×(List Int)}(E:E8 N p0_w=some r):
 CG Tryz.prog 33 #[vP c 0] S h (λv S' h'=>∃w_0_17 w_0_19 w_0_20 w_0_24:Value,v= .tuple #[]∧St S' (Bx c 84 [.string p0_w.b.Name,V,vI p0_w.b.Cells,W,H,Y,Z,ab,ac,ad,vI p0_w.b.Err,I,J,K,M,Q,vI p0_w.s.Hour,w_0_17,t,w_0_19,w_0_20,u,y,z,w_0_24,A]::OS (AM.sl AM.int) 29 w_0_17 r.1::OS AM.int 3 t p0_w.s.Rem::OS Ap 60 w_0_19 r.2.1::OS A8 69 w_0_20 r.2.2.1::OS AM.int 3 u p0_w.s.In::OS AM.int 3 y p0_w.s.Out::OS BT 50 z p0_w.moves::OS AM.int 3 w_0_24 r.2.2.2::OS Ap 60 A p0_w.sent::L) h'):=by
 refine BB (l:=[vP c 0]) 123 Tryz.func33 O Tryz.ntmps33 O λB=>?_
 rw[E8] at E
 have hc:=hs.pick (.tail .head)
 obtain⟨S2,G,e4⟩:=hc.ooPub
 refine AD ?_
 obtain⟨ah,e5,E⟩:=bd E
 refine Rw (m:=[(0,vP c 0)]) [] [] [(23,[22]),(24,[23]),(25,[23]),(26,[24]),(27,[25])] (by kernel_rfl) (λgv X F i v hh=>match i with|0=>v=vP c 0|1=>v=vP c 0|2=>v=vP c 16|3=>v=vP c 19|4=>Sl S2 hh Ap v p0_w.s.Queue|5=>v=vP c 0|6=>v=vP c 0|7=>v=vP c 16|8=>v=vP c 16|9=>v=vI p0_w.s.Hour∧AG p0_w.s.Hour|10=>v=vP c 0|11=>v=vP c 0|12=>v=vP c 0|13=>v=vP c 3|14=>Sl S2 hh Bw v p0_w.b.Places|15=>v=vI (↑p0_w.b.Places.length:Int)∧AG (↑p0_w.b.Places.length:Int)|16=>v=vP c 0|17=>v=vP c 0|18=>v=vP c 0|19=>v=vP c 1|20=>Sl S2 hh AM.str v p0_w.b.Owners|21=>v=vI (↑p0_w.b.Owners.length:Int)∧AG (↑p0_w.b.Owners.length:Int)|22=>∃w0 w1:Value,v= .tuple #[w0,w1]∧OW S2 h X F [OS (AM.sl AM.int) 29 w0 ah.1,OS Ap 60 w1 ah.2] hh|23=>v=gv 22∧∃w0 w1:Value,v= .tuple #[w0,w1]|24=>v=ZG (gv 23) 0|25=>v=ZG (gv 23) 1|26=>v=gv 24|27=>v=gv 25|_=>False) [[],[(0,8)],[(1,9)],[(2,10)],[(3,11)],[],[(5,13)],[(6,14)],[(7,15)],[(8,16)],[],[(10,18)],[(11,19)],[(12,20)],[(13,21)],[(14,22)],[],[(16,24)],[(17,25)],[(18,26)],[(19,27)],[(20,28)],[(4,12),(9,17),(15,23),(21,29)],[(22,30)],[(23,7)],[(23,7)],[(24,31)],[(25,32)]] [(22,30),(23,7),(24,31),(25,32),(26,2),(27,3)] mo (by kernel_rfl) [0] O (by kernel_rfl) (by kernel_rfl) (by kernel_rfl) O (kp [0] O) (λgv i v h1 h2 X X' F o1 o2 hF u1 u2 hr=>?_) (λgv gv' X F i v h1 hz hr=>?_) ?_ ?_ ?_
 ·match i,hr with
   |0,hr|1,hr|2,hr|3,hr|5,hr|6,hr|7,hr|8,hr|9,hr|10,hr|11,hr|12,hr|13,hr|15,hr|16,hr|17,hr|18,hr|19,hr|21,hr|23,hr|24,hr|25,hr|26,hr|27,hr=>exact hr
   |4,hr|14,hr|20,hr=>exact Sl.mono' hr (o2.ext λb hb=>Nat.lt_of_lt_of_le (G.1 b hb) o1.siz)
   |22,hr=>obtain⟨w0,w1,ev,q⟩:=hr;exact⟨w0,w1,ev,OW.mono G.1 o1 o2 hF u1 u2 q⟩
   |_+28,hr=>exact hr.elim
 ·match i,hr with
   |0,hr|1,hr|2,hr|3,hr|4,hr|5,hr|6,hr|7,hr|8,hr|9,hr|10,hr|11,hr|12,hr|13,hr|14,hr|15,hr|16,hr|17,hr|18,hr|19,hr|20,hr|21,hr|22,hr=>exact hr
   |23,hr=>rw[hz _ List.mem_cons_self O 22 (by decide)] at hr;exact hr
   |24,hr=>rw[hz _ (List.mem_cons_of_mem _ List.mem_cons_self) O 23 (by decide)] at hr;exact hr
   |25,hr=>rw[hz _ (List.mem_cons_of_mem _ (List.mem_cons_of_mem _ List.mem_cons_self)) O 23 (by decide)] at hr;exact hr
   |26,hr=>rw[hz _ (List.mem_cons_of_mem _ (List.mem_cons_of_mem _ (List.mem_cons_of_mem _ List.mem_cons_self))) O 24 (by decide)] at hr;exact hr
   |27,hr=>rw[hz _ (List.mem_cons_of_mem _ (List.mem_cons_of_mem _ (List.mem_cons_of_mem _ (List.mem_cons_of_mem _ List.mem_cons_self)))) O 25 (by decide)] at hr;exact hr
   |_+28,hr=>exact hr.elim
 ·exact trivial
 ·refine B7.cons O O ?_ ?_
  ·intro gv X mq hh o hX
   have hsN:=o.st G
   exact AH 1 (AA O (AO O))
  refine B7.cons O O ?_ ?_
  ·intro gv X mq hh o hX
   have hsN:=o.st G
   intro ko cw
   obtain⟨hu,_,_,cw⟩:=cw
   cases cw
   exact AH 1 (CI O O (AO O))
  refine B7.cons O O ?_ ?_
  ·intro gv X mq hh o hX
   have hsN:=o.st G
   intro kq cx
   obtain⟨hv,_,_,cx⟩:=cx
   cases cx
   exact AH 1 (AC CU O (AO O))
  refine B7.cons O O ?_ ?_
  ·intro gv X mq hh o hX
   have hsN:=o.st G
   intro kr cy
   obtain⟨hx,_,_,cy⟩:=cy
   cases cy
   exact AH 1 (AC Jl O (AO O))
  refine B7.cons O O ?_ ?_
  ·intro gv X mq hh o hX
   have hsN:=o.st G
   intro ks cz
   obtain⟨hy,_,_,cz⟩:=cz
   cases cz
   exact AH 1 (AS A6 hsN O (mt mh) O LG O (AO (a3.mono' (e4.trans (o.ext G.1)))))
  refine B7.cons O O ?_ ?_
  ·intro gv X mq hh o hX
   have hsN:=o.st G
   exact AH 1 (AA O (AO O))
  refine B7.cons O O ?_ ?_
  ·intro gv X mq hh o hX
   have hsN:=o.st G
   intro kt c0
   obtain⟨h0,_,_,c0⟩:=c0
   cases c0
   exact AH 1 (CI O O (AO O))
  refine B7.cons O O ?_ ?_
  ·intro gv X mq hh o hX
   have hsN:=o.st G
   intro ku c1
   obtain⟨h3,_,_,c1⟩:=c1
   cases c1
   exact AH 1 (AC CU O (AO O))
  refine B7.cons O O ?_ ?_
  ·intro gv X mq hh o hX
   have hsN:=o.st G
   intro kv c2
   obtain⟨h4,_,_,c2⟩:=c2
   cases c2
   exact AH 1 (AC Id O (AO O))
  refine B7.cons O O ?_ ?_
  ·intro gv X mq hh o hX
   have hsN:=o.st G
   intro kw c3
   obtain⟨h5,_,_,c3⟩:=c3
   cases c3
   exact AH 1 (AS A6 hsN O (mt mh) O Ag O (AO ⟨O,a2⟩))
  refine B7.cons O O ?_ ?_
  ·intro gv X mq hh o hX
   have hsN:=o.st G
   exact AH 1 (AA O (AO O))
  refine B7.cons O O ?_ ?_
  ·intro gv X mq hh o hX
   have hsN:=o.st G
   intro kx c4
   obtain⟨h6,_,_,c4⟩:=c4
   cases c4
   exact AH 1 (CI O O (AO O))
  refine B7.cons O O ?_ ?_
  ·intro gv X mq hh o hX
   have hsN:=o.st G
   intro ky c5
   obtain⟨h7,_,_,c5⟩:=c5
   cases c5
   exact AH 1 (AC GC O (AO O))
  refine B7.cons O O ?_ ?_
  ·intro gv X mq hh o hX
   have hsN:=o.st G
   intro kz c6
   obtain⟨h8,_,_,c6⟩:=c6
   cases c6
   exact AH 1 (AC DI O (AO O))
  refine B7.cons O O ?_ ?_
  ·intro gv X mq hh o hX
   have hsN:=o.st G
   intro k0 c7
   obtain⟨h9,_,_,c7⟩:=c7
   cases c7
   exact AH 1 (AS A6 hsN O (mt mh) O GO O (AO (aq.mono' (e4.trans (o.ext G.1)))))
  refine B7.cons O O ?_ ?_
  ·intro gv X mq hh o hX
   have hsN:=o.st G
   intro hd bc
   obtain⟨ia,_,_,bc⟩:=bc
   have bc:Sl _ _ Bw hd p0_w.b.Places:=bc
   exact AH 1 (Al O bc qZ O λhe=>AO ⟨O,(JW he)⟩)
  refine B7.cons O O ?_ ?_
  ·intro gv X mq hh o hX
   have hsN:=o.st G
   exact AH 1 (AA O (AO O))
  refine B7.cons O O ?_ ?_
  ·intro gv X mq hh o hX
   have hsN:=o.st G
   intro k1 c8
   obtain⟨ib,_,_,c8⟩:=c8
   cases c8
   exact AH 1 (CI O O (AO O))
  refine B7.cons O O ?_ ?_
  ·intro gv X mq hh o hX
   have hsN:=o.st G
   intro k2 c9
   obtain⟨ic,_,_,c9⟩:=c9
   cases c9
   exact AH 1 (AC GC O (AO O))
  refine B7.cons O O ?_ ?_
  ·intro gv X mq hh o hX
   have hsN:=o.st G
   intro k3 da
   obtain⟨ie,_,_,da⟩:=da
   cases da
   exact AH 1 (AC HS O (AO O))
  refine B7.cons O O ?_ ?_
  ·intro gv X mq hh o hX
   have hsN:=o.st G
   intro k4 db
   obtain⟨ig,_,_,db⟩:=db
   cases db
   exact AH 1 (AS A6 hsN O (mt mh) O KE O (AO (ba.mono' (e4.trans (o.ext G.1)))))
  refine B7.cons O O ?_ ?_
  ·intro gv X mq hh o hX
   have hsN:=o.st G
   intro hg be
   obtain⟨ih,_,_,be⟩:=be
   have be:Sl _ _ AM.str hg p0_w.b.Owners:=be
   exact AH 1 (Al O be Jv O λhi=>AO ⟨O,(JW hi)⟩)
  refine Ma O O ?_ ?_
  ·intro gv X mq hh o hX
   have hsN:=SX.fz (X:=X) G o
   intro hj a4 k5 dc k6 dd k7 de
   obtain⟨ii,_,_,a4⟩:=a4
   have a4:=Sl.mono' (S':=(SX S2 h hh X)) a4 ⟨λb hb=>(SX.ext G.1 o hX).sub b hb,λ_ _=>rfl,Nat.le_refl _⟩
   have a4:Sl _ _ Ap hj p0_w.s.Queue:=a4
   obtain⟨ij,_,_,dc⟩:=dc
   obtain⟨rfl,hk⟩:=dc
   obtain⟨ik,_,_,dd⟩:=dd
   obtain⟨rfl,hl⟩:=dd
   obtain⟨il,_,_,de⟩:=de
   obtain⟨rfl,hm⟩:=de
   refine Cn O O O fU O (QE hsN a4 hk hl hm e5) λk8 k9 la hn p=>?_
   obtain⟨lb,lc,rfl,df⟩:=p
   have hsG:=df.pick (.tail (.tail .head))
   obtain⟨F101,hF102,e6,im,e7⟩:=OW.done G.1 o hX hn hsG
   exact Cv e6 ⟨F101,hF102,⟨_,_,O,e7⟩⟩
  refine B7.cons O O ?_ ?_
  ·intro gv X mq hh o hX
   have hsN:=o.st G
   intro io bf
   obtain⟨dg,_,_,bf⟩:=bf
   obtain⟨ip,ir,rfl,it⟩:=bf
   exact AH 1 (AA O (AO ⟨dg,_,_,O⟩))
  refine B7.cons O O ?_ ?_
  ·intro gv X mq hh o hX
   have hsN:=o.st G
   intro iu bg
   obtain⟨dh,_,_,bg⟩:=bg
   obtain⟨_,iv,iw,rfl⟩:=bg
   exact AH 1 (Bi O (AO (by rw[←dh];rfl)))
  refine B7.cons O O ?_ ?_
  ·intro gv X mq hh o hX
   have hsN:=o.st G
   intro iy bh
   obtain⟨di,_,_,bh⟩:=bh
   obtain⟨_,iz,i0,rfl⟩:=bh
   exact AH 1 (Bi O (AO (by rw[←di];rfl)))
  refine B7.cons O O ?_ ?_
  ·intro gv X mq hh o hX
   have hsN:=o.st G
   intro i1 b6
   obtain⟨dj,_,_,b6⟩:=b6
   exact AH 1 (AY O (AO dj))
  refine B7.cons O O ?_ ?_
  ·intro gv X mq hh o hX
   have hsN:=o.st G
   intro i2 b7
   obtain⟨dk,_,_,b7⟩:=b7
   exact AH 1 (AY O (AO dk))
  exact trivial
 intro bi a5 ho a8 ax dl i3 bj b8 bk b9 bl ca bm cb bn cc bo
 obtain⟨dm,bj⟩:=bj
 obtain⟨bp,bk⟩:=bk
 obtain⟨dn,bl⟩:=bl
 obtain⟨dp,bm⟩:=bm
 obtain⟨hp,bn⟩:=bn
 obtain⟨hq,bo⟩:=bo
 obtain⟨aj,ar,rfl,e8⟩:=bj
 have a6:=(Ty.cons (Ty.nil G a8 ax) dl (j:=22) O e8).st
 simp only[List.cons_append,List.nil_append] at a6
 obtain rfl: .tuple #[aj,ar]=b8:=((by rw[bk.1,←dm];try rfl:b8= .tuple #[aj,ar])).symm
 obtain rfl:aj=b9:=((by rw[bl,←bp];try rfl:b9=aj)).symm
 obtain rfl:ar=ca:=((by rw[bm,←bp];try rfl:ca=ar)).symm
 obtain rfl:aj=cb:=((by rw[bn,←dn];try rfl:cb=aj)).symm
 obtain rfl:ar=cc:=((by rw[bo,←dp];try rfl:cc=ar)).symm
 refine AZ (kp [3,2,0] O) (WF.sl (AH 5 (AA O (AA O (CI O O (AC CU O (AC Jl O (AF ?_))))))))
 obtain⟨ai,ag,rfl,i4⟩:=a6.oslen (mt mh)
 refine Hz (vs:=[(.slice ai ah.2.length ag)]) (cs':=[.string p0_w.b.Name,V,vI p0_w.b.Cells,W,H,Y,Z,ab,ac,ad,vI p0_w.b.Err,I,J,K,M,Q,vI p0_w.s.Hour,g,t,(.slice ai ah.2.length ag),C,u,y,z,D,A]) O O O O LG O a6 (.tail (.tail (.tail .head))) O O λbq br bs=>AZ (kp [2,0] O) (AD (AI (AA O (CI O O (AC GC O (AC DI O (AS A6 br O (mt (mt (mt mh))) O GO O (Al O (aq.mono' (e4.trans ((SX.ext G.1 a8 (Xz ax)).trans bs))) qZ O λi5=>AA O (AN (kp [44,43,2,0] O) (Am (λa w=>∃(ao:List (List Int)) (ap:List Int),IV B (SX S2 h bi (UX a5)) bq (123,[]) a w [(0,vP c 0)] (OS Ap 60 (.slice ai ah.2.length ag) ah.2::OS (AM.sl AM.int) 29 g ao::Bx c 84 [.string p0_w.b.Name,V,vI p0_w.b.Cells,W,H,Y,Z,ab,ac,ad,vI p0_w.b.Err,I,J,K,M,Q,vI p0_w.s.Hour,g,t,(.slice ai ah.2.length ag),C,u,y,z,D,A]::OS AM.int 3 t p0_w.s.Rem::OS A8 69 C p0_w.s.Gates::OS AM.int 3 u p0_w.s.In::OS AM.int 3 y p0_w.s.Out::OS BT 50 z p0_w.moves::OS AM.int 3 D ap::OS Ap 60 A p0_w.sent::L) λ_ _=>CR N p0_w ah ao ap=some r) ?_ ?_))))))))))
 ·refine A3 (λn1=>λa w=>∃(ae:Int) (au:List (List Int)) (av:List Int),IV B (SX S2 h bi (UX a5)) bq (123,[]) a w [(43,vI (↑p0_w.b.Places.length:Int)),(2,aj),(0,vP c 0),(44,vI ae)] (OS (AM.sl AM.int) 29 aj ah.1::OS Ap 60 (.slice ai ah.2.length ag) ah.2::OS (AM.sl AM.int) 29 g au::Bx c 84 [.string p0_w.b.Name,V,vI p0_w.b.Cells,W,H,Y,Z,ab,ac,ad,vI p0_w.b.Err,I,J,K,M,Q,vI p0_w.s.Hour,g,t,(.slice ai ah.2.length ag),C,u,y,z,D,A]::OS AM.int 3 t p0_w.s.Rem::OS A8 69 C p0_w.s.Gates::OS AM.int 3 u p0_w.s.In::OS AM.int 3 y p0_w.s.Out::OS BT 50 z p0_w.moves::OS AM.int 3 D av::OS Ap 60 A p0_w.sent::L) λ_ _=>AG ae∧CQ N p0_w ah (CR N p0_w ah) n1 ae au av=some r) N ?_ ?_ ?_
  ·intro aa ww hf hw
   exact⟨0,p0_w.s.Own,p0_w.peaks,_,_,hf.sub (kp [43,2,0,44] O),hw,br,(B9.refl (SX S2 h bi (UX a5)) bq),(iq (n:=0) O),E⟩
  ·rintro aa ww ⟨_,_,_,_,_,_,_,_,_,_,E⟩
   rw[CQ] at E;cases E
  rintro n1 aa ww ⟨ae,au,av,ay,bt,hf,hw,af,cd,bu,E⟩
  refine Ad ?_ hf hw
  clear hf hw ww aa
  rw[CQ] at E
  refine AI (Aq O (AN (kp [45,43,2,0,44] O) (AD (AX O E (λe9 E=>?_) (λe9 E=>?_)))))
  ·refine AT (AD (A5 (AI (AA O (AL O (kp [4,43,2,0,44] O) (AD ?_))))))
   obtain⟨i6,dq,E⟩:=bd E
   obtain⟨ce,dr,E⟩:=bd E
   obtain⟨i7,ds,E⟩:=bd E
   obtain⟨cf,dt,E⟩:=bd E
   obtain⟨bv,du,E⟩:=bd E
   obtain⟨i8,dv,E⟩:=bd E
   refine ND (m:=[(4,vI ae),(43,vI (↑p0_w.b.Places.length:Int)),(2,aj),(0,vP c 0),(44,vI ae)]) 20 (λi v hh=>match i with|0=>v=vP c 0|1=>v=vP c 0|2=>v=vP c 16|3=>v=vP c 17|4=>v=g|5=>v=vI ae∧AG ae|6=>v=vP c 0|7=>v=vP c 0|8=>v=vP c 16|9=>v=vP c 17|10=>v=g|11=>v=vI ae∧AG ae|12=>EP g (ae.toNat*((AM.sl AM.int)).sz+0) v|13=>Sl ay hh AM.int v ce|14=>v=aj|15=>v=vI ae∧AG ae|16=>EP aj (ae.toNat*((AM.sl AM.int)).sz+0) v|17=>Sl ay hh AM.int v cf|18=>Sl (SN ay bt hh) hh AM.int v bv|19=>EP g (ae.toNat*((AM.sl AM.int)).sz+0) v|_=>False) [[],[(0,47)],[(1,48)],[(2,49)],[(3,50)],[],[],[(6,53)],[(7,54)],[(8,55)],[(9,56)],[],[(10,57),(11,58)],[(12,59)],[],[],[(14,61),(15,62)],[(16,63)],[(13,60),(17,64)],[(4,51),(5,52)]] [(18,65),(19,66)] mo (by kernel_rfl) [4,43,2,0,44] O (by kernel_rfl) (by kernel_rfl) (by kernel_rfl) (kp [4,43,2,0,44] O) (λi v h1 h2 o1 o2 hr=>?_) ?_ ?_
   ·match i,hr with
     |0,hr|1,hr|2,hr|3,hr|4,hr|5,hr|6,hr|7,hr|8,hr|9,hr|10,hr|11,hr|12,hr|14,hr|15,hr|16,hr|19,hr=>exact hr
     |13,hr|17,hr=>exact Sl.mono' hr (o2.ext λb hb=>Nat.lt_of_lt_of_le (af.1 b hb) o1.siz)
     |18,hr=>exact Sl.mono' hr (SN.mono af.1 o1 o2)
     |_+20,hr=>exact hr.elim
   ·refine A0.cons O (λ_ _ _=>AH 1 (AA O (AO O))) (A0.cons O (λ_ _ _ _ fa=>by cases fa;exact AH 1 (CI O O (AO O))) (A0.cons O (λ_ _ _ _ fb=>by cases fb;exact AH 1 (AC CU O (AO O))) (A0.cons O (λ_ _ _ _ fc=>by cases fc;exact AH 1 (AC D4 O (AO O))) (A0.cons O (λ_ _ o _ fd=>by cases fd;exact AH 1 (AS A6 (o.st af) O (mt (mt (mt mh))) O HN O (AO O))) (A0.cons O (λ_ _ _=>AH 1 (AA O (AO ⟨O,bu⟩))) (A0.cons O (λ_ _ _=>AH 1 (AA O (AO O))) (A0.cons O (λ_ _ _ _ fe=>by cases fe;exact AH 1 (CI O O (AO O))) (A0.cons O (λ_ _ _ _ ff=>by cases ff;exact AH 1 (AC CU O (AO O))) (A0.cons O (λ_ _ _ _ fg=>by cases fg;exact AH 1 (AC D4 O (AO O))) (A0.cons O (λ_ _ o _ fh=>by cases fh;exact AH 1 (AS A6 (o.st af) O (mt (mt (mt mh))) O HN O (AO O))) (A0.cons O (λ_ _ _=>AH 1 (AA O (AO ⟨O,bu⟩))) ?_)))))))))))
    refine A0.cons O (λ_ _ o=>by intro i9 fi ja fj;cases fi;obtain ⟨rfl,jb⟩:=fj;exact AH 1 (A4 (o.st af) (mt (mt mh)) O O FO dq O λjc dw=>AO dw)) ?_
    refine A0.cons O ?_ ?_
    ·intro mq hh o
     intro jd fk
     have hsN:=o.st af
     refine AH 1 ?_
     have fl:=hsN.epAt (mt (mt mh)) dr FM.id fk
     exact An A6 (λ_ x=>x) O fl BP O λje fm=>AO fm
    refine A0.cons O (λ_ _ _=>AH 1 (AA O (AO O))) (A0.cons O (λ_ _ _=>AH 1 (AA O (AO ⟨O,bu⟩))) (A0.cons O (λ_ _ o=>by intro jf fn jg fo;cases fn;obtain ⟨rfl,jh⟩:=fo;exact AH 1 (A4 (o.st af) mh O O FO ds O λji dx=>AO dx)) ?_))
    refine A0.cons O ?_ ?_
    ·intro mq hh o
     intro jj fp
     have hsN:=o.st af
     refine AH 1 ?_
     have fq:=hsN.epAt mh dt FM.id fp
     exact An A6 (λ_ x=>x) O fq BP O λjk fr=>AO fr
    refine A0.cons O ?_ ?_
    ·intro mq hh o
     intro fs az ft a0
     have hsN:=SN.st af o
     have az:=Sl.mono' (S':=(SN ay bt hh)) az ⟨λb hb=> .inl hb,λ_ _=>rfl,Nat.le_refl _⟩
     have az:Sl _ _ AM.int fs ce:=az
     have a0:=Sl.mono' (S':=(SN ay bt hh)) a0 ⟨λb hb=> .inl hb,λ_ _=>rfl,Nat.le_refl _⟩
     have a0:Sl _ _ AM.int ft cf:=a0
     have hsF:=hsN.fz
     refine BZ O O O XV O hsF (Lg (St.all _) (az.mono (λb hb=>hsF.1 b hb) (λ_ _=>rfl)) (a0.mono (λb hb=>hsF.1 b hb) (λ_ _=>rfl)) du) λjl jm jn ht fu fv p=>?_
     have dy:=p
     have bw:=hsF.join fv dy ⟨OS.flat (λ{_ _ _ _ _ _} k=>k),trivial⟩
     simp only[List.cons_append,List.nil_append] at bw
     obtain⟨jo,dz,fw,fx⟩:=bw.pubs .head
     have bx:=Fz.done o (fu.trans fw) dz
     exact Cv bx.1 (Sl.mono' fx bx.2)
    exact A0.cons O (λ_ _ o=>by intro jp fy jq f0;cases fy;obtain ⟨rfl,jr⟩:=f0;exact AH 1 (A4 (o.st af) (mt (mt mh)) O O FO dv O λjs d0=>AO d0)) trivial
   intro jt cg f1 bz ju f2
   have d1:=SN.st af cg
   have bz:Sl _ _ AM.int f1 bv:=bz
   obtain⟨f3,d2,E⟩:=bd E
   refine En (r:=(AM.sl AM.int)) (l:=au) (i:=ae) (x:=f3) O O (Mv bz) f2 d2 Lq.id BP (λ_=>rfl) d1 (.tail (.tail .head)) λjv ak f4=>AZ (kp [4,43,2,0,44] O) (LB 15 mo (by kernel_rfl) O ak (AA O (CI O O (AC Jk O (AS Bb ak O (mt (mt (mt mh))) O BP O (AA O (AA O (CI O O (AC CU O (AC D4 O (AS Bb ak O (mt (mt (mt mh))) O HN O (AA O ?_))))))))))))
   obtain⟨jw,d3,E⟩:=bd E
   refine A4 ak (mt (mt mh)) O O FO d3 O λjx d4=>?_
   obtain⟨jy,d5,E⟩:=bd E
   have f5:=ak.epAt (mt (mt mh)) d5 FM.id d4
   refine An Bb (λ_ x=>x) O f5 BP O λjz f6=>?_
   obtain⟨ch,d6,E⟩:=bd E
   refine CE O O O NC O (λh' o=>Ef (St.all h') (f6.mono' (o.all ak.1)) d6) λf7=>?_
   have f8:=f7
   obtain⟨j0,d7,E⟩:=bd E
   refine A4 ak (mt (mt (mt (mt (mt (mt (mt (mt (mt mh))))))))) O O BG d7 O λj1 d8=>Jp λj2 d9 f9=>?_
   obtain⟨ga,ea,E⟩:=bd E
   refine En (r:=AM.int) (l:=av) (i:=ae) (x:=ga) O O (⟨_,O,O,f8⟩:Rd _ _ AM.int _ ch) d8 ea Lq.id Ag (λ_=>rfl) d9 (.tail (.tail (.tail (.tail (.tail (.tail (.tail (.tail (.tail .head))))))))) λj3 eb gb=>AZ (kp [43,2,0,44] O) (BK (BY (.inl O) (Af O (AA O (AN (kp [44,43,2,0] O) (WF.nil (λaa ww hf hw=>?_)))))))
   exact⟨(BC (ae+1)),(upd au ae bv),(upd av ae ch),_,_,hf.sub (kp [43,2,0,44] O),hw,eb,(cd.trans ((SN.ext af.1 cg).trans (f4.trans (f9.trans gb)))),(BI _),E⟩
  refine A9 O (λaa ww hf hw=>?_)
  have ec:=af.sel [1,1,1,1,1,1,1,1,1,1] 1 O
  exact⟨au,av,_,_,hf.sub (kp [0] O),hw,ec,cd,E⟩
 rintro aa ww ⟨ao,ap,ci,cj,hf,hw,b0,ck,E⟩
 refine Ad ?_ hf hw
 clear hf hw ww aa
 rw[CR] at E
 refine AI (AA O (CI O O (AC GC O (AC HA O (AS A6 b0 O (mt (mt mh)) O Ju O ?_)))))
 have cl:=bb.mono' (e4.trans ((SX.ext G.1 a8 (Xz ax)).trans (bs.trans ck)))
 refine Al O cl H4 O λj4=>AA O (AN (kp [89,88,87,0] O) (A5 (A3 (λn2=>λa w=>∃(am:Int) (aw:List Au),IV B ci cj (123,[]) a w [(88,vI (↑p0_w.b.Links.length:Int)),(87,H),(0,vP c 0),(89,vI am)] (OS Ap 60 (.slice ai ah.2.length ag) ah.2::OS (AM.sl AM.int) 29 g ao::Bx c 84 [.string p0_w.b.Name,V,vI p0_w.b.Cells,W,H,Y,Z,ab,ac,ad,vI p0_w.b.Err,I,J,K,M,Q,vI p0_w.s.Hour,g,t,(.slice ai ah.2.length ag),C,u,y,z,D,A]::OS AM.int 3 t p0_w.s.Rem::OS A8 69 C aw::OS AM.int 3 u p0_w.s.In::OS AM.int 3 y p0_w.s.Out::OS BT 50 z p0_w.moves::OS AM.int 3 D ap::OS Ap 60 A p0_w.sent::L) λ_ _=>AG am∧CH N p0_w ah ao ap n2 am aw=some r) N ?_ ?_ ?_)))
 ·intro aa ww hf hw
  exact⟨0,p0_w.s.Gates,_,_,hf.sub (kp [88,87,0,89] O),hw,b0,(B9.refl ci cj),(iq (n:=0) O),E⟩
 ·rintro aa ww ⟨_,_,_,_,_,_,_,_,_,E⟩
  rw[CH] at E;cases E
 rintro n2 aa ww ⟨am,aw,gc,gd,hf,hw,a7,b1,j5,E⟩
 refine Ad ?_ hf hw
 clear hf hw ww aa
 rw[CH] at E
 refine AI (Aq O (AN (kp [90,88,87,0,89] O) (AD (AX O E (λge E=>?_) (λge E=>?_)))))
 ·refine AT (AD (Am (λa w=>∃(a9:List Au),IV B gc gd (123,[]) a w [(88,vI (↑p0_w.b.Links.length:Int)),(87,H),(0,vP c 0),(89,vI am)] (OS Ap 60 (.slice ai ah.2.length ag) ah.2::OS (AM.sl AM.int) 29 g ao::Bx c 84 [.string p0_w.b.Name,V,vI p0_w.b.Cells,W,H,Y,Z,ab,ac,ad,vI p0_w.b.Err,I,J,K,M,Q,vI p0_w.s.Hour,g,t,(.slice ai ah.2.length ag),C,u,y,z,D,A]::OS AM.int 3 t p0_w.s.Rem::OS A8 69 C a9::OS AM.int 3 u p0_w.s.In::OS AM.int 3 y p0_w.s.Out::OS BT 50 z p0_w.moves::OS AM.int 3 D ap::OS Ap 60 A p0_w.sent::L) λ_ _=>E7 N am (CH N p0_w ah ao ap n2) a9=some r) ?_ ?_))
  ·refine WF.sl (AH 3 (AA O ?_))
   obtain⟨d,ed,E⟩:=bd E
   refine BD O O (cl.mono' b1) H4 ed O λj6 gf=>B4 A6 a7.1 O gf HV (λe=>by cases e) O λj7 gg=>AF (Cs OQ O a7 λj8 j9 ee b2=>AH 1 (AY O (AF ?_)))
   obtain⟨b3,b4,b5,rfl,gh,gi,gj,gl,cm,cn,co,gm,gn,gp,gq,gr,gs,gt,gu,gw,gx,gy⟩:=Bu.ex (gg.mono b2)
   refine HJ (vs:=[.string d.Name,vI d.Kind,vI d.From,vI d.To,b3,b4,b5,vI d.Positions,vI d.Speed,vI d.Leak,vI d.Crest,vI d.Num,vI d.Den,vI d.Prime,vI d.Break,vI d.BackNum,vI d.BackDen,vI d.Delay]) (cs':=[.string d.Name,vI d.Kind,vI d.From,vI d.To,b3,b4,b5,vI d.Positions,vI d.Speed,vI d.Leak,vI d.Crest,vI d.Num,vI d.Den,vI d.Prime,vI d.Break,vI d.BackNum,vI d.BackDen,vI d.Delay]) O O O (AE O (AE O (AE O (AE O (AE cm.one (AE cn.one (AE co.one (AE O (AE O (AE O (AE O (AE O (AE O (AE O (AE O (AE O (AE O (AE O EA)))))))))))))))))) HV O ee .head O O λka U a1=>AZ (kp [5,6,88,87,0,89] O) (AI (AC GD O (AS A6 U O mh O Ag O (BH O (AN (kp [96,5,6,88,87,0,89] O) (AX O E (λgz E=>?_) (λgz E=>?_)))))))
   ·refine LB 25 mo (by kernel_rfl) O U (AA O (CI O O (AC CU O (AC Ht O (AS Bb U O (mt (mt (mt mh))) O KX O (AA O (DT (vs:=[.string d.Name,vI d.Kind,vI d.From,vI d.To,b3,b4,b5,vI d.Positions,vI d.Speed,vI d.Leak,vI d.Crest,vI d.Num,vI d.Den,vI d.Prime,vI d.Break,vI d.BackNum,vI d.BackDen,vI d.Delay]) Bb U O mh O O HV O O (AA O (CI O O (AC CU O (AC Ht O (AS Bb U O (mt (mt (mt mh))) O KX O (AA O ?_)))))))))))))
    obtain⟨kb,ef,E⟩:=bd E
    refine A4 U (mt (mt (mt (mt (mt mh))))) O O KF ef O λkc eg=>?_
    obtain⟨kd,eh,E⟩:=bd E
    have g0:=U.epAt (mt (mt (mt (mt (mt mh))))) eh FM.id eg
    refine B4 Bb (λ_ x=>x) O g0 Gi (λe=>by cases e) O λke g1=>AA O (CI O O (AC Jk O (AS Bb U O (mt (mt (mt mh))) O BP O (AC JG O (AS Bb U O mh O Ag O ?_)))))
    obtain⟨kf,ei,E⟩:=bd E
    refine A4 U (mt (mt (mt (mt (mt (mt (mt (mt (mt mh))))))))) O O BG ei O λkg ej=>?_
    obtain⟨kh,ek,E⟩:=bd E
    have g2:=U.epAt (mt (mt (mt (mt (mt (mt (mt (mt (mt mh))))))))) ek FM.id ej
    refine Ah Bb (λ_ x=>x) O g2 Ag O λg3=>?_
    obtain⟨cp,el,E⟩:=bd E
    refine CE O O O hE O (λh' o=>Ot (St.all h') (Bu.mk (x:=d) gh gi gj gl ((cm.mono' a1).mono' (o.all U.1)) ((cn.mono' a1).mono' (o.all U.1)) ((co.mono' a1).mono' (o.all U.1)) gm gn gp gq gr gs gt gu gw gx gy) (g1.mono (o.all U.1)) g3 el) λg4=>?_
    obtain⟨g5,g6⟩:=g4
    obtain⟨ki,em,E⟩:=bd E
    refine A4 U (mt (mt (mt (mt (mt mh))))) O O KF em O λkj en=>Jp λkk eo g7=>?_
    obtain⟨g8,ep,E⟩:=bd E
    refine En (r:=A8) (l:=aw) (i:=am) (x:=g8) O O (A8.mk (x:=cp) ⟨g5,g6⟩) en ep Lq.id Gi (λe=>by cases e) eo (.tail (.tail (.tail (.tail (.tail .head))))) λkl eq g9=>AZ (kp [88,87,0,89] O) (WF.nil (λaa ww hf hw=>?_))
    have er:=eq.sel [1,1,1,1,1,1,1,1,1,1] 1 O
    exact⟨(upd aw am cp),_,_,hf.sub (kp [88,87,0,89] O),hw,er,(b2.trans (a1.trans (g7.trans g9))),E⟩
   refine AT (WF.nil (λaa ww hf hw=>?_))
   have es:=U.sel [1,1,1,1,1,1,1,1,1,1] 1 O
   exact⟨aw,_,_,hf.sub (kp [88,87,0,89] O),hw,es,(b2.trans a1),E⟩
  rintro aa ww ⟨a9,km,kn,hf,hw,et,ha,E⟩
  refine Ad ?_ hf hw
  clear hf hw ww aa
  rw[E7] at E
  refine BY (.inl O) (Af O (AA O (AN (kp [89,88,87,0] O) (WF.nil (λaa ww hf hw=>?_)))))
  exact⟨(BC (am+1)),a9,_,_,hf.sub (kp [88,87,0,89] O),hw,et,(b1.trans ha),(BI _),E⟩
 refine Ko O (WF.nil (λaa ww hf hw=>?_))
 have eu:=a7.sel [2,1,1,0,0,0,0,0,0,0] 0 O
 cases E
 exact J9 hf O hw J8 O (e4.trans ((SX.ext G.1 a8 (Xz ax)).trans (bs.trans (ck.trans b1)))) ⟨_,_,_,_,O,eu⟩
theorem LN (hs:St S L h) {j:Value}{d:(List Int)}(o:Sl S h AM.int j d) {b:Value}{c:(List Int)}(k:Sl S h AM.int b c) {r:(List Int)}(E:Gn N d c=some r):
 CG Tryz.prog 96 #[j,b] S h (λv S' h'=>St S' (OS AM.int 3 v r::L) h'):=by
 refine BB (l:=[j,b]) 30 Tryz.func96 O Tryz.ntmps96 O λB=>?_
 rw[Gn] at E
 refine AI (AL O (kp [0,1] O) (WF.sl (AH 2 (AA O (Al O o BG O λb1=>AF ?_)))))
 obtain⟨Y,E⟩:=MR E
 refine I9 (r:=AM.int) (zx:=0) FJ O ⟨O,by unfold AG;omega⟩ O O Y O O hs λX h4 Z e6=>AH 1 (AY O (AF (AZ (kp [5,0,1] O) (WF.sl (AH 2 (AA O (AA O (AF (R6 (r:=AM.int) (l:=(List.replicate ((↑d.length:Int):Int).toNat (0:Int))) (xs:=d) O O BG (Sl.src (o.mono' e6)) O Z .head λh8 ab C=>AZ (kp [5,1] O) (AD (AI (AA O ?_))))))))))))
 have D:=k.mono' (e6.trans C)
 refine Al O D BG O λai=>AA O (AN (kp [16,15,14,5] O) (Am (λa w=>∃(z:List Int),IV B S h8 (30,[]) a w [(5,X)] (OS AM.int 3 X z::L) λ_ _=>GG N z=some r) ?_ ?_))
 ·refine A3 (λn1=>λa w=>∃(m:Int) (p:List Int),IV B S h8 (30,[]) a w [(15,vI (↑c.length:Int)),(14,b),(5,X),(16,vI m)] (OS AM.int 3 X p::L) λ_ _=>AG m∧EX N c (GG N) n1 m p=some r) N ?_ ?_ ?_
  ·intro u y s t
   exact⟨0,(Ms (List.replicate ((↑d.length:Int):Int).toNat (0:Int)) d),_,_,s.sub (kp [15,14,5,16] O),t,ab,(B9.refl S h8),(iq (n:=0) O),E⟩
  ·rintro u y ⟨_,_,_,_,_,_,_,_,_,E⟩
   rw[EX] at E;cases E
  rintro n1 u y ⟨m,p,aj,ak,s,t,g,A,al,E⟩
  refine Ad ?_ s t
  clear s t y u
  rw[EX] at E
  refine AI (Aq O (AN (kp [17,15,14,5,16] O) (AD (AX O E (λac E=>?_) (λac E=>?_)))))
  ·refine AT (AD (A5 (AI (AA O ?_))))
   obtain⟨F,G,E⟩:=bd E
   refine BD O O (D.mono' A) BG G O λam ad=>Ah A6 g.1 O ad Ag O λan=>AY O (AL O (kp [7,6,15,14,5,16] O) (EQ (AH 7 (AA O (AA O ?_)))))
   obtain⟨ao,H,E⟩:=bd E
   refine A4 g mh O O BG H O λap I=>?_
   obtain⟨J,K,E⟩:=bd E
   have ae:=g.epAt mh K FM.id I
   refine Ah A6 (λ_ x=>x) O ae Ag O λaq=>AA O (Cg O ?_)
   obtain⟨ar,M,E⟩:=bd E
   refine A4 g mh O O BG M O λau Q=>AF ?_
   obtain⟨af,U,E⟩:=bd E
   refine En (r:=AM.int) (l:=p) (i:=m) (x:=af) O O (⟨_,O,O,(BI _)⟩:Rd _ _ AM.int _ (BC (J-F))) Q U Lq.id Ag (λ_=>rfl) g .head λav V ag=>AZ (kp [15,14,5,16] O) (BK (BY (.inl O) (Af O (AA O (AN (kp [16,15,14,5] O) (WF.nil (λu y s t=>?_)))))))
   exact⟨(BC (m+1)),(upd p m (BC (J-F))),_,_,s.sub (kp [15,14,5,16] O),t,V,(A.trans ag),(BI _),E⟩
  refine A9 O (λu y s t=>?_)
  exact⟨p,_,_,s.sub (kp [5] O),t,g,A,E⟩
 rintro u y ⟨z,aw,ax,s,t,W,ah,E⟩
 refine Ad ?_ s t
 clear s t y u
 rw[GG] at E
 refine AI (AA O (AL O (kp [4] O) (Ac (λu y s t=>?_))))
 cases E
 exact Dm s t O O (e6.trans (C.trans ah)) W
theorem QJ (hs:St S L h) {d:Value}{g:(List Int)}(m:Sl S h AM.int d g) {c:Int}(n:AG c) {j:Int}(y:AG j) {r:(List Int)×(List Int)}(E:J1 N g c j=some r):
 CG Tryz.prog 84 #[d,vI c,vI j] S h (λv S' h'=>∃F G:Value,v= .tuple #[F,G]∧St S' (OS AM.int 3 F r.1::OS AM.int 3 G r.2::L) h'):=by
 refine BB (l:=[d,vI c,vI j]) 27 Tryz.func84 O Tryz.ntmps84 O λB=>?_
 rw[J1] at E
 refine AI (AY O (AL O (kp [0,1,2] O) (WF.sl (AH 2 (AA O (Al O m BG O λb1=>AF ?_))))))
 obtain⟨Z,E⟩:=MR E
 refine I9 (r:=AM.int) (zx:=0) FJ O ⟨O,by unfold AG;omega⟩ O O Z O O hs λv3 h4 H e6=>AH 1 (AY O (AF (AZ (kp [6,0,1,2] O) (AD (AD (Bl (.inl O) H (AA O (AA O (AA O ?_)))))))))
 obtain⟨y8,ab,E⟩:=bd E
 refine CE O O O Zb O (λh' o=>Nd (St.all h') ((m.mono' e6).mono' (o.all H.1)) n ab) λr9=>?_
 have ac:=r9
 refine P2 O O O (AY O (BJ (kp [8,6,0,1] O) λI t ad=>AI (AA O (Bh O (AN (kp [18,8,6,0,1] O) (Gs (λa w=>∃(D:List Int),IV B S I (27,[]) a w [(6,v3),(0,d)] (OS AM.int 3 v3 D::L) λ_ _=>Hg N g D=some r) ?_ ?_))))))
 ·refine AX O E (λae E=>?_) (λae E=>?_)
  ·refine EQ (AH 4 (AA O (AA O (AA O ?_))))
   obtain⟨al,J,E⟩:=bd E
   refine A4 t mh O O BG J O λam K=>AF ?_
   obtain⟨af,M,E⟩:=bd E
   refine En (r:=AM.int) (l:=(List.replicate ((↑g.length:Int):Int).toNat (0:Int))) (i:=c) (x:=af) O O (⟨_,O,O,(LQ y ac)⟩:Rd _ _ AM.int _ (min j y8)) K M Lq.id Ag (λ_=>rfl) t .head λan Q ag=>AZ (kp [6,0] O) (WF.nil (λX Y u z=>?_))
   exact⟨(upd (List.replicate ((↑g.length:Int):Int).toNat (0:Int)) c (min j y8)),_,_,u.sub (kp [6,0] O),z,Q,ag,E⟩
  refine AT (WF.nil (λX Y u z=>?_))
  exact⟨(List.replicate ((↑g.length:Int):Int).toNat (0:Int)),_,_,u.sub (kp [6,0] O),z,t,(B9.refl S I),E⟩
 rintro X Y ⟨D,ao,ap,u,z,s,ah,E⟩
 refine Ad ?_ u z
 clear u z Y X
 rw[Hg] at E
 refine WF.sl (AH 3 (AA O (AA O (AA O (AF ?_)))))
 have A:=e6.trans (ad.trans ah)
 obtain⟨aq,U,E⟩:=bd E
 refine BZ O O O ZV O s (LN (St.all _) ((m.mono' A).mono (λb hb=>s.1 b hb) (λ_ _=>rfl)) (s.oslAll mh) U) λar au av ak ai aj p=>?_
 have V:=p
 have C:=s.join aj V ⟨OS.flat (λ{_ _ _ _ _ _} k=>k),trivial⟩
 simp only[List.cons_append,List.nil_append] at C
 refine AH 2 (AY O (AY O (AF (AZ (kp [7,6] O) (Ac (λX Y u z=>?_))))))
 have W:=C.sel [1,0] 0 O
 cases E
 exact J9 u O z (IC (Im u (v:=_) O) (IC (Im u (v:=_) O) J8)) O (A.trans ai) ⟨_,_,O,W⟩
end Go.Proofs.YtblcgjadhemlbaaGreat
