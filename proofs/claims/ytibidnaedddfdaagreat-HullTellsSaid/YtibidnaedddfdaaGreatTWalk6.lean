import Derived.Test.YtibidnaedddfdaaGreatTFacts
import Derived.Test.YtibidnaedddfdaaGreatTForms
import Derived.Test.YtibidnaedddfdaaGreatTWalk0
import Derived.Test.YtibidnaedddfdaaGreatTWalk2
import Derived.Test.YtibidnaedddfdaaGreatTWalk4
namespace Go.Proofs.YtibidnaedddfdaaGreat
set_option linter.all false
open Go.RowKit
open Go.Proofs.Tryz
set_option maxRecDepth 10000
set_option maxHeartbeats 2000000
variable {N:Nat}{S:Nat→Prop}{L:List HP}{h:A4}
def RA (hs:St S L h) {a7:Value}{c:AH}(b2:Rd S h B5 a7 c) {a8:Value}{d:AX}(b3:Rd S h DD a8 d) {ax:Value}{a3:Cn}(bn:Rd S h Gr ax a3) {t:Value}{ay:(List Bool)}(a4:Sl S h BX.bool t ay) {u:Value}{az:(List AB)}(a5:Sl S h AC u az) {r:AX×(List AB)×(List AB)}(E:Ki N c d a3 ay az=some r):
 CA prog 12 #[a7,a8,ax,t,u] S h (λv S' h'=>∃em en eo:Value,v= .tuple #[em,en,eo]∧Rd S' h' DD em r.1∧St S' (OS AC 51 en r.2.1::OS AC 51 eo r.2.2::L) h'):=by
 refine A8 67 func12 O ntmps12 O λB=>?_;rw[Ki] at E;refine AU ?_;refine A6 O b2 CE O hs λq1 S2 h3 g7 e5 k6=>?_;have k7:=b3.mono e5;obtain⟨ko,ep,g8,rfl,r9,g9,ha,hc⟩:=DD.ex k7;refine OI O O O g7 λhd kq eq kr=>?_;have he:=bn.nw;refine A6 O he CE O eq λer b4 ks es kt hg=>BZ Q6 O es λbl ku a9 kv=>AU ?_;refine Es (AU ?_);have hj:=g9.nw;refine Ia E O O O sM O a9 (λad eu=>Jy (St.all _) (hj.mono a9.ea.1 a9.ea.2) eu) λad E kw kx ky hu kz hk p=>?_;have ev:=p;have bo:=a9.join hk ev ⟨OS.flat (λ{_ _ _ _ _ _} k=>k),trivial⟩;simp only[yY,yD] at bo;refine AU ?_;obtain⟨af,A,rfl,k0⟩:=bo.oslen mh;refine HH (cs':=[vI d.H,(.slice af ad.length A),ep,g8]) O O O O ty_32.1 O bo (.tail (.tail .head)) O O λk1 ba k2=>AU ?_;refine Es (AU ?_);have hl:=hc.nw;refine Ia E O O O sL O ba (λbm ew=>Jh (St.all _) (hl.mono ba.ea.1 ba.ea.2) ew) λbm E k3 k4 k5 hv k8 hm p=>?_;have ey:=p;have bp:=ba.join hm ey ⟨OS.flat (λ{_ _ _ _ _ _} k=>k),trivial⟩;simp only[yY,yD] at bp;refine AU ?_;obtain⟨bb,ak,rfl,k9⟩:=bp.oslen mh;refine HH (cs':=[vI d.H,(.slice af ad.length A),ep,(.slice bb bm.length ak)]) O O O O ty_34.1 O bp (.tail (.tail (.tail .head))) O O λez j la=>AU ?_;have e0:=ha.nw;obtain⟨bq,a6,rfl,lb⟩:=(e0).len;obtain⟨e1,E⟩:=Qw E;refine Vi (m:=[(10,vP bl 0),(7,er),(6,vP hd 0),(5,q1),(3,t),(4,u)]) [8] [] [5,7] ⟨[(6,[24,25,29])],λi l=>match i,l with|6,[some hn,some ho,some hp]=>some (.agg (hn.cells.toList++ho.cells.toList++[hp]).toArray)|_,_=>none⟩ (by kernel_rfl) (by kernel_rfl) (λi v hh=>match i with|0=>Rd b4 hh B5 v c|1=>v= .agg #[vI d.H,(.slice af ad.length A),(.slice bq d.E.length a6),(.slice bb bm.length ak)]∧AA d.H|2=>Pt b4 hh (BX.sl B3) v c.F|3=>Sl b4 hh B3 v c.F|4=>v=vI (↑c.F.length:Int)∧AA (↑c.F.length:Int)|5=>Yx b4 ez AC 51 (List.replicate ((↑c.F.length:Int):Int).toNat ((⟨0,0⟩:AB):AB)) v hh|6=>True|7=>TS ez 106 [.string ByteArray.empty,vN,vI 0,vN,vN,vN,vN,vN,vN,vN,vI 0,vI 0,vN,vN,vN,vN] v hh|_=>False) [[],[],[],[(2,26)],[(3,27)],[(4,28)],[(0,24),(1,25),(5,29)],[],[]] [(0,24),(1,25),(5,29),(6,30),(7,13)] mo (by kernel_rfl) [10,7,6,5,3,4] O (by kernel_rfl) (by kernel_rfl) (by kernel_rfl) O (kp [10,7,6,5,3,4] O) (λi v h1 h2 o1 o2 y=>?_) (by kernel_rfl) (Of O (NN (T:=106) O QT)) ?_ ?_ ?_
 ·match i,y with
   |0,y=>exact Rd.mono y (o2.ext λb hb=>wX (j.1 b hb) o1.siz)
   |1,y|4,y|6,y=>exact y
   |2,y=>exact Ny.mono y (o2.ext λb hb=>wX (j.1 b hb) o1.siz)
   |3,y=>exact Sl.mono' y (o2.ext λb hb=>wX (j.1 b hb) o1.siz)
   |5,y=>exact y.mono j.1 o2
   |7,y=>exact y.mono o2
   |_+8,y=>exact y.elim
 ·exact trivial
 ·refine BD.cons O O O ?_ ?_
  ·intro mq hh o;have b5:=o.st j;have e2:=k6.nw;obtain⟨hx,_,e3⟩:=e2.lv;refine AU ?_;exact BR e3
  refine BD.cons O O O DM (BD.cons O O O ?_ ?_)
  ·intro mq hh o;have b5:=o.st j;have e4:=k6.nw;have e6:=e4.fl CS;refine AU ?_;exact BR e6
  refine BD.cons O O O ?_ ?_
  ·intro mq hh o;intro e7 br;have b5:=o.st j;have br:Pt _ _ (BX.sl B3) e7 c.F:=br;obtain⟨hy,_,e8⟩:=br.ll;refine AU ?_;exact BR e8
  refine BD.cons O O O ?_ ?_
  ·intro mq hh o;intro e9 bs;have b5:=o.st j;have bs:Sl _ _ B3 e9 c.F:=bs;have fa:=bs.le;refine AU ?_;exact BR ⟨O,(MB fa)⟩
  refine BD.nw O O O (λ_ _ o _ fb=>by obtain⟨rfl,hz⟩:=fb;exact Sn (r:=AC) (zx:=(⟨0,0⟩:AB)) Ng O ⟨O,by unfold AB.ok AA;simp [IntKind.has,IntKind.min,IntKind.max,IntKind.bits,IntKind.signed]⟩ O O e1 O O o j.1 λv' h' o' r' f'=>B7 o' ⟨r',f'⟩) ?_;refine BD.z [24,25,29] O O O (by kernel_rfl) ?_ ?_
  ·intro mq hh o;intro fc bt h0 fd h4 cg;have b5:=o.st j;have bt:Rd _ _ B5 fc c:=bt;obtain⟨rfl,h5⟩:=fd;obtain⟨fe,b6,rfl,cg⟩:=cg;refine AU ?_;obtain⟨h6,h7,h8,h9,ia,ib,ic,ie,rfl,ig,ff,ih,fg,fh,fi,fj,fk,fm,fn,ii⟩:=B5.ex bt;obtain⟨di,b7,rfl,ij⟩:=(ff).len;obtain⟨dj,b8,rfl,ik⟩:=(fg).len;obtain⟨dk,b9,rfl,il⟩:=(fh).len;obtain⟨dl,ca,rfl,im⟩:=(fi).len;obtain⟨dm,cb,rfl,io⟩:=(fj).len;obtain⟨dn,cc,rfl,ip⟩:=(fk).len;obtain⟨dp,cd,rfl,ir⟩:=(fm).len;obtain⟨dq,ce,rfl,it⟩:=(fn).len;refine CT (cs:=[.string c.O,(.slice di c.Z.length b7),vI c.T,(.slice dj c.F.length b8),(.slice dk c.D.length b9),(.slice dl c.Ak.length ca),(.slice dm c.Ap.length cb),(.slice dn c.Aq.length cc),(.slice dp c.As.length cd),(.slice dq c.Ar.length ce),vI c.U,vI d.H,(.slice af ad.length A),(.slice bq d.E.length a6),(.slice bb bm.length ak),(.slice (some ⟨fe,0,none⟩) (List.replicate ((↑c.F.length:Int):Int).toNat ((⟨0,0⟩:AB):AB)).length b6)]) jS O O O (AU ?_);exact BR ⟨trivial,O,O⟩
  exact BD.al O jJ O O (BD.skip (by kernel_rfl) (trivial))
 intro iu fo fp bu iv fq iw fr fs iy iz ft dr ds;obtain⟨fu,cf,rfl,fv,fw,fx⟩:=fr;obtain⟨C,rfl,fy,fz,f0⟩:=ft;have dt:=(Q5.cons (NV (Q5.nil j fo) fv fw fx wY) fy fz f0 (Up (dr.of_ (s:=13) (s':=29) (by kernel_rfl) O O O O) wY)).st;have bu:Rd _ _ B5 fp c:=bu;obtain⟨rfl,bc⟩:=fq;obtain⟨i0,i1,i2,i3,i4,i5,i6,i7,rfl,be,ch,bf,ci,cj,ck,cl,cm,cn,co,bg⟩:=B5.ex bu;obtain⟨am,I,rfl,i8⟩:=(ch).len;obtain⟨an,J,rfl,i9⟩:=(ci).len;obtain⟨ao,K,rfl,ja⟩:=(cj).len;obtain⟨ap,M,rfl,jb⟩:=(ck).len;obtain⟨aq,Q,rfl,jc⟩:=(cl).len;obtain⟨ar,V,rfl,jd⟩:=(cm).len;obtain⟨au,W,rfl,je⟩:=(cn).len;obtain⟨av,X,rfl,jf⟩:=(co).len;obtain rfl:fs=Value.agg #[.string c.O,(.slice am c.Z.length I),vI c.T,(.slice an c.F.length J),(.slice ao c.D.length K),(.slice ap c.Ak.length M),(.slice aq c.Ap.length Q),(.slice ar c.Aq.length V),(.slice au c.As.length W),(.slice av c.Ar.length X),vI c.U,vI d.H,(.slice af ad.length A),(.slice bq d.E.length a6),(.slice bb bm.length ak),(.slice (some ⟨fu,0,none⟩) (List.replicate ((↑c.F.length:Int):Int).toNat ((⟨0,0⟩:AB):AB)).length cf)]:=(wP (ds _ xL 30 _ (by kernel_rfl) O O)).symm;refine BI O O O O ty_106.1 O dt .head O λjg du G=>AU ?_;refine Es ?_;have cp:=hg.nw;obtain⟨jh,_,f1⟩:=cp.lv;refine AU ?_;have dv:=du.sel [0,2,1,0,0,0] 0 O;have cq:=ch.mono' G;have cr:=ci.mono' G;have ct:=cj.mono' G;have cu:=ck.mono' G;have cv:=cl.mono' G;have cw:=cm.mono' G;have cx:=cn.mono' G;have cy:=co.mono' G;have cz:=e0.nw;have f2:=a4.nw;refine E4 E O O O sK O (λc0 dw=>Qt (p0_w:=(⟨c,(⟨d.H,ad,d.E,bm⟩:AX),(List.replicate ((↑c.F.length:Int):Int).toNat ((⟨0,0⟩:AB):AB))⟩:B0)) dv be cq bf cr ct cu cv cw cx cy bg bc cz f1 f2 dw) λc0 E ji jj jk q p=>?_;obtain⟨jl,rfl,dx⟩:=p;refine AU ?_;refine Es (AU ?_);have c1:=cq.mono' q;have c2:=cr.mono' q;have c3:=ct.mono' q;have c4:=cu.mono' q;have c5:=cv.mono' q;have c6:=cw.mono' q;have c7:=cx.mono' q;have c8:=cy.mono' q;have f3:=cz.mono' q;have f4:=a5.mono' ((e5.trans EX).trans q);refine E4 E O O O sJ O (λg dy=>Ox (p0_w:=(⟨c,(⟨d.H,ad,d.E,c0⟩:AX),(List.replicate ((↑c.F.length:Int):Int).toNat ((⟨0,0⟩:AB):AB))⟩:B0)) dx be c1 bf c2 c3 c4 c5 c6 c7 c8 bg bc f3 f4 dy) λg E jm bv jn jo p=>?_;obtain⟨f5,ag,Y,rfl,dz⟩:=p;have f6:=k6.nw;refine AU ?_;obtain⟨d0,E⟩:=Qw E;refine dZ (r:=AC) (zx:=(⟨0,0⟩:AB)) Ng O ⟨O,by unfold AB.ok AA;simp [IntKind.has,IntKind.min,IntKind.max,IntKind.bits,IntKind.signed]⟩ O O d0 O O dz λab bw d1 f7=>?_;have jp:=f6.mono f7;refine AU ?_;refine AN (λa w=>∃(bx:List AB) (a0:Value) (bh:List AB) (a1:Value) (bi:List AY),IV B bv bw (67,[]) a w [(14,ab),(13,vP C 0),(10,vP bl 0)] (OS AC 51 a0 bh::OS BU 93 a1 bi::OS AC 51 ab bx::Bx C 106 [.string c.O,(.slice am c.Z.length I),vI c.T,(.slice an c.F.length J),(.slice ao c.D.length K),(.slice ap c.Ak.length M),(.slice aq c.Ap.length Q),(.slice ar c.Aq.length V),(.slice au c.As.length W),(.slice av c.Ar.length X),vI c.U,vI d.H,a0,a1,ag,Y]::OS AJ 97 ag g.2.1::OS AC 51 Y g.2.2::Bx bl 36 [vI 0,vN,vN,vN]::L) λ_ _=>En N d g bx bh bi=some r) ?_ ?_
 ·refine BA (λn1=>λa w=>∃(ac:Int) (ah:List AB) (bj:Value) (ai:List AB) (bk:Value) (aj:List AY),IV B bv bw (67,[]) a w [(42,vI (↑c.F.length:Int)),(14,ab),(13,vP C 0),(10,vP bl 0),(7,er),(43,vI ac)] (OS AC 51 bj ai::OS BU 93 bk aj::OS AC 51 ab ah::Bx C 106 [.string c.O,(.slice am c.Z.length I),vI c.T,(.slice an c.F.length J),(.slice ao c.D.length K),(.slice ap c.Ak.length M),(.slice aq c.Ap.length Q),(.slice ar c.Aq.length V),(.slice au c.As.length W),(.slice av c.Ar.length X),vI c.U,vI d.H,bj,bk,ag,Y]::OS AJ 97 ag g.2.1::OS AC 51 Y g.2.2::Bx bl 36 [vI 0,vN,vN,vN]::L) λ_ _=>AA ac∧Em N c d a3 g (En N d g) n1 ac ah ai aj=some r) N ?_ ?_ ?_
  ·intro aa ww hf hw;have d2:=d1.sel [2,2,0,0,0,0,0] 1 O;exact⟨0,(List.replicate ((↑c.F.length:Int):Int).toNat ((⟨0,0⟩:AB):AB)),(.slice af ad.length A),ad,f5,g.1,_,_,hf.sub (kp [42,14,13,10,7,43] O),hw,d2,(CX.refl bv bw),(iq (n:=0) O),E⟩
  ·rintro aa ww ⟨_,_,_,_,_,_,_,_,_,_,_,_,_,E⟩;rw[Em] at E;cases E
  rintro n1 aa ww ⟨ac,ah,bj,ai,bk,aj,jq,jr,hf,hw,bz,f8,c9,E⟩;refine AI ?_ hf hw;clear hf hw ww aa;rw[Em] at E;refine AU ?_;refine AE O E (λf9 E=>?_) (λf9 E=>?_)
  ·refine AU ?_;refine BG (AU ?_);refine Es ?_;have ga:=cp.nw;have gb:=ga.fl LO;obtain⟨js,_,gc⟩:=gb.ll;refine AU ?_;have d3:=bz.sel [3,0,0,1,1,0,0] 0 O;have da:=c1.nw;have db:=c2.nw;have dc:=c3.nw;have dd:=c4.nw;have de:=c5.nw;have df:=c6.nw;have dg:=c7.nw;have dh:=c8.nw;refine E4 E O O O sH O (λge d4=>Qv (p0_w:=(⟨c,(⟨d.H,ai,aj,g.2.1⟩:AX),g.2.2⟩:B0)) d3 be da bf db dc dd de df dg dh bg bc c9 gc d4) λge E jt ju jv jw p=>?_;have d5:=p;obtain⟨jx,d6,jy,gf⟩:=d5.pubs .head;have gg:=da.nw;have gh:=db.nw;have gi:=dc.nw;have gj:=dd.nw;have gk:=de.nw;have gl:=df.nw;have gm:=dg.nw;have gn:=dh.nw;refine E4 E O O O sI O (λa2 d7=>Qu (p0_w:=(⟨c,(⟨d.H,ai,aj,g.2.1⟩:AX),g.2.2⟩:B0)) d6 be gg bf gh gi gj gk gl gm gn bg bc c9 gf d7) λa2 E jz j0 j1 j2 p=>?_;obtain⟨gp,gq,rfl,⟨gr,gs⟩,b0⟩:=p;refine AU ?_;obtain⟨j3,d8,E⟩:=bd E;refine CR b0 (mt (mt (mt (mt (mt mh))))) O O sl_32.1 d8 O λj4 d9=>AU ?_;obtain⟨gu,eb,E⟩:=bd E;refine JS (r:=AC) (l:=ah) (i:=ac) (x:=gu) O O (AC.mk (x:=a2.1) ⟨gr,gs⟩) d9 eb RI.id ty_51.1 CE b0 (.tail (.tail (.tail (.tail (.tail .head))))) λj5 ec j6=>AU ?_;refine BP (AU ?_);refine WF.nil (λaa ww hf hw=>?_);have ed:=ec.sel [1,1,3,0,0,0,0] 0 O;exact⟨(BV (ac+1)),(upd ah ac a2.1),gp,a2.2.1,gq,a2.2.2,_,_,hf.sub (kp [42,14,13,10,7,43] O),hw,ed,EX,(BY _),E⟩
  refine WF.exit O (λaa ww hf hw=>?_);exact⟨ah,bj,ai,bk,aj,_,_,hf.sub (kp [14,13,10] O),hw,bz,f8,E⟩
 rintro aa ww ⟨bx,a0,bh,a1,bi,j7,j8,hf,hw,ee,j9,E⟩;refine AI ?_ hf hw;clear hf hw ww aa;rw[En] at E;refine AU ?_;refine HH (cs':=[.string c.O,(.slice am c.Z.length I),vI c.T,(.slice an c.F.length J),(.slice ao c.D.length K),(.slice ap c.Ak.length M),(.slice aq c.Ap.length Q),(.slice ar c.Aq.length V),(.slice au c.As.length W),(.slice av c.Ar.length X),vI c.U,vI (BV (d.H+1)),a0,a1,ag,Y]) O O O O ty_3.1 O ee (.tail (.tail (.tail .head))) O O λka ef kb=>AU ?_;refine Nn (kp [14,13,10] O) (Vj (m:=[(14,ab),(13,vP C 0),(10,vP bl 0)]) 5 [6,7] [4] [2,3] [] (λi v hh=>match i with|0=>v=vP C 11|1=>v= .agg #[vI (BV (d.H+1)),a0,a1,ag]∧AA (BV (d.H+1))|2=>v=vP C 15|3=>v=Y|4=>v=ab|_=>False) [[],[(0,62)],[],[(2,64)],[],[],[],[]] [(1,63),(4,66)] mo (by kernel_rfl) [14,13,10] O (by kernel_rfl) (by kernel_rfl) (by kernel_rfl) O O (kp [14,13,10] O) MO (by kernel_rfl) QT ?_ ?_ ?_)
 ·refine Nt.cons [] (by kernel_rfl) O O (by kernel_rfl) ?_ ?_
  ·intro mq hh o;intro a hf;exact⟨ab,LP hf O,O⟩
  exact trivial
 ·exact BD.cons O O O DM (BD.cons O O O DM (BD.cons O O O DM (BD.cons O O O DM (BD.cons O O O DM (BD.skip (by kernel_rfl) (BD.skip (by kernel_rfl) (BD.skip (by kernel_rfl) (trivial))))))))
 intro hq kc gv kd gw ke gx ht;have aw:=(Q5.nil ef gv).st;obtain⟨rfl,gy⟩:=gw;cases gx;refine G1 O O O (IL O (IL (aw.osone mh) (IL (aw.osone (mt mh)) (IL (aw.osone (mt (mt (mt (mt mh))))) Ru)))) ty_36.1 O aw (.tail (.tail (.tail (.tail (.tail (.tail .head)))))) O λkf eg kg=>XY ⟨λi v hh=>match i with|2=>v=vP C 15|3=>v=Y|_=>False,[[],[],[],[(2,64)],[],[],[],[]],[(3,65)],_,[66,63,14,13,10],O,by kernel_rfl,by kernel_rfl,by kernel_rfl,by kernel_rfl,O,λi hi v y=>?_,λi v h1 h2 o1 o2 y=>?_,?_,?_⟩
 ·rcases wN.1 hi with rfl|hi
  ·exact y
  rcases wN.1 hi with rfl|hi
  ·exact y
  cases hi
 ·match i,y with
   |0,y|1,y=>exact y.elim
   |2,y|3,y=>exact y
   |_+4,y=>exact y.elim
 ·exact BD.skip (by kernel_rfl) (BD.skip (by kernel_rfl) (BD.cons O O O DM (BD.cons O O O DM (BD.skip (by kernel_rfl) (BD.skip (by kernel_rfl) (BD.skip (by kernel_rfl) (BD.skip (by kernel_rfl) (trivial))))))))
 intro kh gz ki g0;have eh:=gz.st eg;cases g0;refine AU ?_;refine WF.ret (λaa ww hf hw=>?_);obtain⟨kj,ei,kk,g1⟩:=eh.pubs .head;obtain⟨kl,ej,km,g2⟩:=ei.pubs .head;obtain⟨kn,ek,g3,g4⟩:=ej.pubs (.tail (.tail .head));have b1:=ek.sel [2,0,1] 1 O;have g5:=g1.nw;have g6:=g2.mono' g3;have el:=b1.drop (.tail (.tail .head));cases E;exact Jw hf O hw (Hr (NS hf hw b1 O (mt (mt mh)) ty_36.1 O) (Hr (K5 hf (v:=_) O) (Hr (K5 hf (v:=_) O) Jr))) O EX ⟨_,_,_,O,(DD.mk (x:=(⟨(BV (d.H+1)),bh,bi,g.2.1⟩:AX)) gy g5 g6 g4),el⟩
def OB (k:St S L h) {b:Value}{c:(List Int)}(a:Sl S h AW b c) {r:(List Int)}(E:Kl N c=some r):
 CA prog 84 #[b] S h (λv n h'=>St n (OS AW 3 v r::L) h'):=by
 refine A8 8 func84 O ntmps84 O λB=>?_;rw[Kl] at E;rcases a.cases with ⟨rfl,rfl⟩|⟨o,m,rfl,a⟩
 ·have t:(some ([]:List Int))=some r:=by simpa [chk,room] using E
  refine AU ?_;refine Vu O O O Zs (AU ?_);refine QV O (AU ?_);have d:=k.nil AW 3;cases E;exact Ma d O O EX
 refine AU ?_;refine XV O O O Zs (AU ?_);refine UJ O (AU ?_);refine UN (r:=AW) R9 O O k λu w g p=>AU ?_;have q:=a.mono' p;obtain⟨i,E⟩:=Qw E;refine Lt (r:=AW) (l:=([]:List Int)) (xs:=c) O O R9 O (Sl.src q) O i O g (λ_=> .head) λx y j s=>AU ?_;cases E;exact Ma j O O EX
def Tl (hs:St S L h) {ad:Value}{c:AH}(ar:Rd S h B5 ad c) {d:Int}(bc:AA d) {r:BQ}(E:O1 N c d=some r):
 CA prog 35 #[ad,vI d] S h (λv S' h'=>Rd S' h' DX v r∧St S' (L) h'):=by
 refine A8 47 func35 O ntmps35 O λB=>?_;rw[O1] at E;refine AU ?_;refine A6 O ar CE O hs λq1 U h3 ei e5 k6=>BZ Zj O ei λb7 h8 j ho=>AU ?_;obtain⟨b8,E⟩:=Qw E;obtain⟨b9,E⟩:=Qw E;obtain⟨ca,E⟩:=Qw E;obtain⟨cb,E⟩:=Qw E;obtain⟨cc,E⟩:=Qw E;refine Vi (m:=[(4,vP b7 0),(2,q1),(1,vI d)]) [23] [] [4,8,12,16,20,22] ⟨[(21,[8,12,16,20,24,28])],λi l=>match i,l with|21,[some a8,some ej,some ek,some el,some em,some en]=>some (.agg ([a8]++[ej]++[ek]++[(vN:Value)]++[el]++[em]++[en]).toArray)|_,_=>none⟩ (by kernel_rfl) (by kernel_rfl) (λi v t=>match i with|0=>v=vI d∧AA d|1=>Pt U t (BX.sl B3) v c.F|2=>Sl U t B3 v c.F|3=>v=vI (↑c.F.length:Int)∧AA (↑c.F.length:Int)|4=>Yx U h8 (BX.sl AW) 29 (List.replicate ((↑c.F.length:Int):Int).toNat ([]:(List Int))) v t|5=>Pt U t (BX.sl B3) v c.F|6=>Sl U t B3 v c.F|7=>v=vI (↑c.F.length:Int)∧AA (↑c.F.length:Int)|8=>Yx U h8 AW 3 (List.replicate ((↑c.F.length:Int):Int).toNat (0:Int)) v t|9=>Pt U t (BX.sl BL) v c.D|10=>Sl U t BL v c.D|11=>v=vI (↑c.D.length:Int)∧AA (↑c.D.length:Int)|12=>Yx U h8 FU 81 (List.replicate ((↑c.D.length:Int):Int).toNat ((⟨0,0,false,false⟩:Cs):Cs)) v t|13=>Pt U t (BX.sl BX.str) v c.Z|14=>Sl U t BX.str v c.Z|15=>v=vI (↑c.Z.length:Int)∧AA (↑c.Z.length:Int)|16=>Yx U h8 AW 3 (List.replicate ((↑c.Z.length:Int):Int).toNat (0:Int)) v t|17=>Pt U t (BX.sl BX.str) v c.Z|18=>Sl U t BX.str v c.Z|19=>v=vI (↑c.Z.length:Int)∧AA (↑c.Z.length:Int)|20=>Yx U h8 AW 3 (List.replicate ((↑c.Z.length:Int):Int).toNat (0:Int)) v t|21=>True|22=>TS h8 71 [vI 0,vN,vN,vN,vN,vN,vN] v t|_=>False) [[],[],[(1,9)],[(2,10)],[(3,11)],[],[(5,13)],[(6,14)],[(7,15)],[],[(9,17)],[(10,18)],[(11,19)],[],[(13,21)],[(14,22)],[(15,23)],[],[(17,25)],[(18,26)],[(19,27)],[(0,8),(4,12),(8,16),(12,20),(16,24),(20,28)],[],[]] [(0,8),(4,12),(8,16),(12,20),(16,24),(20,28),(21,29),(22,5)] mo (by kernel_rfl) [4,2,1] O (by kernel_rfl) (by kernel_rfl) (by kernel_rfl) O (kp [4,2,1] O) (λi v h1 h2 o1 o2 A=>?_) (by kernel_rfl) (Of O (Of O (Of O (Of O (Of O (NN (T:=71) O QT)))))) ?_ ?_ ?_
 ·match i,A with
   |0,A|3,A|7,A|11,A|15,A|19,A|21,A=>exact A
   |1,A|5,A|9,A|13,A|17,A=>exact Ny.mono A (o2.ext λb hb=>wX (j.1 b hb) o1.siz)
   |2,A|6,A|10,A|14,A|18,A=>exact Sl.mono' A (o2.ext λb hb=>wX (j.1 b hb) o1.siz)
   |4,A|8,A|12,A|16,A|20,A=>exact A.mono j.1 o2
   |22,A=>exact A.mono o2
   |_+23,A=>exact A.elim
 ·exact trivial
 ·refine BD.cons O O O DM (BD.cons O O O ?_ ?_)
  ·intro V t o;have q:=o.st j;have eo:=k6.nw;have ep:=eo.fl CS;refine AU ?_;exact BR ep
  refine BD.cons O O O ?_ ?_
  ·intro V t o;intro eq be;have q:=o.st j;have be:Pt _ _ (BX.sl B3) eq c.F:=be;obtain⟨hp,_,er⟩:=be.ll;refine AU ?_;exact BR er
  refine BD.cons O O O ?_ ?_
  ·intro V t o;intro es bf;have q:=o.st j;have bf:Sl _ _ B3 es c.F:=bf;have eu:=bf.le;refine AU ?_;exact BR ⟨O,(MB eu)⟩
  refine BD.nw O O O (λ_ _ o _ ev=>by obtain⟨rfl,hq⟩:=ev;exact Sn (r:=(BX.sl AW)) (zx:=[]) rN O ⟨_,O,.inl ⟨O,O⟩⟩ O O b8 O O o j.1 λv' h' o' r' f'=>B7 o' ⟨r',f'⟩) ?_;refine BD.cons O O O ?_ ?_
  ·intro V t o;have q:=o.st j;have ew:=k6.nw;have ey:=ew.fl CS;refine AU ?_;exact BR ey
  refine BD.cons O O O ?_ ?_
  ·intro V t o;intro ez bg;have q:=o.st j;have bg:Pt _ _ (BX.sl B3) ez c.F:=bg;obtain⟨ht,_,e0⟩:=bg.ll;refine AU ?_;exact BR e0
  refine BD.cons O O O ?_ ?_
  ·intro V t o;intro e1 bh;have q:=o.st j;have bh:Sl _ _ B3 e1 c.F:=bh;have e2:=bh.le;refine AU ?_;exact BR ⟨O,(MB e2)⟩
  refine BD.nw O O O (λ_ _ o _ e3=>by obtain⟨rfl,hu⟩:=e3;exact Sn (r:=AW) (zx:=0) R9 O ⟨O,by unfold AA;omega⟩ O O b9 O O o j.1 λv' h' o' r' f'=>B7 o' ⟨r',f'⟩) ?_;refine BD.cons O O O ?_ ?_
  ·intro V t o;have q:=o.st j;have e4:=k6.nw;have e6:=e4.fl AH.f_Links;refine AU ?_;exact BR e6
  refine BD.cons O O O ?_ ?_
  ·intro V t o;intro e7 bi;have q:=o.st j;have bi:Pt _ _ (BX.sl BL) e7 c.D:=bi;obtain⟨hv,_,e8⟩:=bi.ll;refine AU ?_;exact BR e8
  refine BD.cons O O O ?_ ?_
  ·intro V t o;intro e9 bj;have q:=o.st j;have bj:Sl _ _ BL e9 c.D:=bj;have fa:=bj.le;refine AU ?_;exact BR ⟨O,(MB fa)⟩
  refine BD.nw O O O (λ_ _ o _ fb=>by obtain⟨rfl,hx⟩:=fb;exact Sn (r:=FU) (zx:=(⟨0,0,false,false⟩:Cs)) rM O ⟨O,by unfold Cs.ok AA;simp [IntKind.has,IntKind.min,IntKind.max,IntKind.bits,IntKind.signed]⟩ O O ca O O o j.1 λv' h' o' r' f'=>B7 o' ⟨r',f'⟩) ?_;refine BD.cons O O O ?_ ?_
  ·intro V t o;have q:=o.st j;have fc:=k6.nw;have fd:=fc.fl JC;refine AU ?_;exact BR fd
  refine BD.cons O O O ?_ ?_
  ·intro V t o;intro fe bk;have q:=o.st j;have bk:Pt _ _ (BX.sl BX.str) fe c.Z:=bk;obtain⟨hy,_,ff⟩:=bk.ll;refine AU ?_;exact BR ff
  refine BD.cons O O O ?_ ?_
  ·intro V t o;intro fg ag;have q:=o.st j;have ag:Sl _ _ BX.str fg c.Z:=ag;have cd:=ag.le;refine AU ?_;exact BR ⟨O,(MB cd)⟩
  refine BD.nw O O O (λ_ _ o _ ce=>by obtain⟨rfl,fi⟩:=ce;exact Sn (r:=AW) (zx:=0) R9 O ⟨O,by unfold AA;omega⟩ O O cb O O o j.1 λv' h' o' r' f'=>B7 o' ⟨r',f'⟩) ?_;refine BD.cons O O O ?_ ?_
  ·intro V t o;have q:=o.st j;have cf:=k6.nw;have cg:=cf.fl JC;refine AU ?_;exact BR cg
  refine BD.cons O O O ?_ ?_
  ·intro V t o;intro ch ah;have q:=o.st j;have ah:Pt _ _ (BX.sl BX.str) ch c.Z:=ah;obtain⟨fj,_,ci⟩:=ah.ll;refine AU ?_;exact BR ci
  refine BD.cons O O O ?_ ?_
  ·intro V t o;intro cj ai;have q:=o.st j;have ai:Sl _ _ BX.str cj c.Z:=ai;have ck:=ai.le;refine AU ?_;exact BR ⟨O,(MB ck)⟩
  refine BD.nw O O O (λ_ _ o _ cl=>by obtain⟨rfl,fk⟩:=cl;exact Sn (r:=AW) (zx:=0) R9 O ⟨O,by unfold AA;omega⟩ O O cc O O o j.1 λv' h' o' r' f'=>B7 o' ⟨r',f'⟩) ?_;refine BD.z [8,12,16,20,24,28] O O O (by kernel_rfl) ?_ ?_
  ·intro V t o;intro fm cm fn a0 fo a1 fp a2 fq a3 fr a4;have q:=o.st j;obtain⟨rfl,fs⟩:=cm;obtain⟨cn,au,rfl,a0⟩:=a0;obtain⟨co,av,rfl,a1⟩:=a1;obtain⟨cp,aw,rfl,a2⟩:=a2;obtain⟨cq,ax,rfl,a3⟩:=a3;obtain⟨cr,ay,rfl,a4⟩:=a4;refine AU ?_;refine CT (cs:=[vI d,(.slice (some ⟨cn,0,none⟩) (List.replicate ((↑c.F.length:Int):Int).toNat ([]:(List Int))).length au),(.slice (some ⟨co,0,none⟩) (List.replicate ((↑c.F.length:Int):Int).toNat (0:Int)).length av),vN,(.slice (some ⟨cp,0,none⟩) (List.replicate ((↑c.D.length:Int):Int).toNat ((⟨0,0,false,false⟩:Cs):Cs)).length aw),(.slice (some ⟨cq,0,none⟩) (List.replicate ((↑c.Z.length:Int):Int).toNat (0:Int)).length ax),(.slice (some ⟨cr,0,none⟩) (List.replicate ((↑c.Z.length:Int):Int).toNat (0:Int)).length ay)]) pC O O O (AU ?_);exact BR ⟨trivial,O,O⟩
  exact BD.al O Zj O O (BD.skip (by kernel_rfl) (trivial))
 intro ft ct fu cu fv cv fw cw fx cx fy cy f0 cz c0 f1 f2 c1 g bl;obtain⟨J,u,rfl,c2,c3,c4⟩:=cv;obtain⟨W,C,rfl,c5,c6,c7⟩:=cw;obtain⟨X,G,rfl,c8,c9,da⟩:=cx;obtain⟨Y,H,rfl,db,dc,dd⟩:=cy;obtain⟨ab,I,rfl,de,df,dg⟩:=cz;obtain⟨K,rfl,dh,di,dj⟩:=c1;have bm:=(Q5.cons (NV (NV (NV (NV (NV (Q5.nil j ct) c2 c3 c4 wY) c5 c6 c7 (Up (g.of_ (s:=16) (s':=12) (by kernel_rfl) O O O O) wY)) c8 c9 da (Up (g.of_ (s:=20) (s':=16) (by kernel_rfl) O O O O) (Up (g.of_ (s:=20) (s':=12) (by kernel_rfl) O O O O) wY))) db dc dd (Up (g.of_ (s:=24) (s':=20) (by kernel_rfl) O O O O) (Up (g.of_ (s:=24) (s':=16) (by kernel_rfl) O O O O) (Up (g.of_ (s:=24) (s':=12) (by kernel_rfl) O O O O) wY)))) de df dg (Up (g.of_ (s:=28) (s':=24) (by kernel_rfl) O O O O) (Up (g.of_ (s:=28) (s':=20) (by kernel_rfl) O O O O) (Up (g.of_ (s:=28) (s':=16) (by kernel_rfl) O O O O) (Up (g.of_ (s:=28) (s':=12) (by kernel_rfl) O O O O) wY))))) dh di dj (Up (g.of_ (s:=5) (s':=28) (by kernel_rfl) O O O O) (Up (g.of_ (s:=5) (s':=24) (by kernel_rfl) O O O O) (Up (g.of_ (s:=5) (s':=20) (by kernel_rfl) O O O O) (Up (g.of_ (s:=5) (s':=16) (by kernel_rfl) O O O O) (Up (g.of_ (s:=5) (s':=12) (by kernel_rfl) O O O O) wY)))))).st;obtain⟨rfl,dk⟩:=cu;obtain rfl:c0=Value.agg #[vI d,(.slice (some ⟨J,0,none⟩) (List.replicate ((↑c.F.length:Int):Int).toNat ([]:(List Int))).length u),(.slice (some ⟨W,0,none⟩) (List.replicate ((↑c.F.length:Int):Int).toNat (0:Int)).length C),vN,(.slice (some ⟨X,0,none⟩) (List.replicate ((↑c.D.length:Int):Int).toNat ((⟨0,0,false,false⟩:Cs):Cs)).length G),(.slice (some ⟨Y,0,none⟩) (List.replicate ((↑c.Z.length:Int):Int).toNat (0:Int)).length H),(.slice (some ⟨ab,0,none⟩) (List.replicate ((↑c.Z.length:Int):Int).toNat (0:Int)).length I)]:=(wP (bl _ xL 29 _ (by kernel_rfl) O O)).symm;refine BI O O O O ty_71.1 O bm .head O λaj bn f3=>?_;have dl:=k6.nw;have dm:=dl.fl CS;obtain⟨a5,_,dn⟩:=dm.ll;refine AU ?_;refine AN (λa w=>∃(af:List (List Int)),IV B U aj (47,[]) a w [(5,vP K 0),(4,vP b7 0)] (Bx K 71 [vI d,(.slice (some ⟨J,0,none⟩) (List.replicate ((↑c.F.length:Int):Int).toNat ([]:(List Int))).length u),(.slice (some ⟨W,0,none⟩) (List.replicate ((↑c.F.length:Int):Int).toNat (0:Int)).length C),vN,(.slice (some ⟨X,0,none⟩) (List.replicate ((↑c.D.length:Int):Int).toNat ((⟨0,0,false,false⟩:Cs):Cs)).length G),(.slice (some ⟨Y,0,none⟩) (List.replicate ((↑c.Z.length:Int):Int).toNat (0:Int)).length H),(.slice (some ⟨ab,0,none⟩) (List.replicate ((↑c.Z.length:Int):Int).toNat (0:Int)).length I)]::OS AW 3 (.slice (some ⟨ab,0,none⟩) (List.replicate ((↑c.Z.length:Int):Int).toNat (0:Int)).length I) (List.replicate ((↑c.Z.length:Int):Int).toNat (0:Int))::OS AW 3 (.slice (some ⟨Y,0,none⟩) (List.replicate ((↑c.Z.length:Int):Int).toNat (0:Int)).length H) (List.replicate ((↑c.Z.length:Int):Int).toNat (0:Int))::OS FU 81 (.slice (some ⟨X,0,none⟩) (List.replicate ((↑c.D.length:Int):Int).toNat ((⟨0,0,false,false⟩:Cs):Cs)).length G) (List.replicate ((↑c.D.length:Int):Int).toNat ((⟨0,0,false,false⟩:Cs):Cs))::OS AW 3 (.slice (some ⟨W,0,none⟩) (List.replicate ((↑c.F.length:Int):Int).toNat (0:Int)).length C) (List.replicate ((↑c.F.length:Int):Int).toNat (0:Int))::OS (BX.sl AW) 29 (.slice (some ⟨J,0,none⟩) (List.replicate ((↑c.F.length:Int):Int).toNat ([]:(List Int))).length u) af::Bx b7 71 [vI 0,vN,vN,vN,vN,vN,vN]::L) λ_ _=>Lq N c d af=some r) ?_ ?_
 ·refine BA (λn1=>λa w=>∃(y:Int) (M:List (List Int)),IV B U aj (47,[]) a w [(32,vI (↑c.F.length:Int)),(31,a5),(5,vP K 0),(4,vP b7 0),(33,vI y)] (Bx K 71 [vI d,(.slice (some ⟨J,0,none⟩) (List.replicate ((↑c.F.length:Int):Int).toNat ([]:(List Int))).length u),(.slice (some ⟨W,0,none⟩) (List.replicate ((↑c.F.length:Int):Int).toNat (0:Int)).length C),vN,(.slice (some ⟨X,0,none⟩) (List.replicate ((↑c.D.length:Int):Int).toNat ((⟨0,0,false,false⟩:Cs):Cs)).length G),(.slice (some ⟨Y,0,none⟩) (List.replicate ((↑c.Z.length:Int):Int).toNat (0:Int)).length H),(.slice (some ⟨ab,0,none⟩) (List.replicate ((↑c.Z.length:Int):Int).toNat (0:Int)).length I)]::OS AW 3 (.slice (some ⟨ab,0,none⟩) (List.replicate ((↑c.Z.length:Int):Int).toNat (0:Int)).length I) (List.replicate ((↑c.Z.length:Int):Int).toNat (0:Int))::OS AW 3 (.slice (some ⟨Y,0,none⟩) (List.replicate ((↑c.Z.length:Int):Int).toNat (0:Int)).length H) (List.replicate ((↑c.Z.length:Int):Int).toNat (0:Int))::OS FU 81 (.slice (some ⟨X,0,none⟩) (List.replicate ((↑c.D.length:Int):Int).toNat ((⟨0,0,false,false⟩:Cs):Cs)).length G) (List.replicate ((↑c.D.length:Int):Int).toNat ((⟨0,0,false,false⟩:Cs):Cs))::OS AW 3 (.slice (some ⟨W,0,none⟩) (List.replicate ((↑c.F.length:Int):Int).toNat (0:Int)).length C) (List.replicate ((↑c.F.length:Int):Int).toNat (0:Int))::OS (BX.sl AW) 29 (.slice (some ⟨J,0,none⟩) (List.replicate ((↑c.F.length:Int):Int).toNat ([]:(List Int))).length u) M::Bx b7 71 [vI 0,vN,vN,vN,vN,vN,vN]::L) λ_ _=>AA y∧Ks N c (Lq N c d) n1 y M=some r) N ?_ ?_ ?_
  ·intro aa ww hf hw;exact⟨0,(List.replicate ((↑c.F.length:Int):Int).toNat ([]:(List Int))),_,_,hf.sub (kp [32,31,5,4,33] O),hw,bn,(CX.refl U aj),(iq (n:=0) O),E⟩
  ·rintro aa ww ⟨_,_,_,_,_,_,_,_,_,E⟩;rw[Ks] at E;cases E
  rintro n1 aa ww ⟨y,M,a6,f4,hf,hw,ak,a7,f5,E⟩;refine AI ?_ hf hw;clear hf hw ww aa;rw[Ks] at E;refine AU ?_;refine AE O E (λdp E=>?_) (λdp E=>?_)
  ·refine AU ?_;refine BG (AU ?_);have dq:=dn.mono' a7;refine AO E O O dq sl_23.1 O λa9 E f6 dr=>?_;obtain⟨f7,_,ds⟩:=dr.lv;refine AU ?_;refine BZ PH O ak λba f8 bo dt=>AU ?_;have du:=ds.mono dt;obtain⟨f9,ga,gb,rfl,gc,ge,gf,gg,gh,dv,gi,gj,gk,gl,gm,gn⟩:=B3.ex du;refine G1 O O O ON ty_57.1 O bo .head O λbb Q gp=>AU ?_;refine Nn (kp [6,7,32,31,5,4,33] O) ?_;obtain⟨am,bp,E⟩:=bd E;obtain⟨gq,bq,E⟩:=bd E;refine MJ (m:=[(6,vI y),(7,vP ba 0),(32,vI (↑c.F.length:Int)),(31,a5),(5,vP K 0),(4,vP b7 0),(33,vI y)]) 7 (λi v t=>match i with|0=>v=vP K 1|1=>v=(.slice (some ⟨J,0,none⟩) (List.replicate ((↑c.F.length:Int):Int).toNat ([]:(List Int))).length u)|2=>v=vI y∧AA y|3=>v=vP ba 5|4=>Sl a6 t AW v a9.Bc|5=>Sl (SN a6 bb t) t AW v am|6=>EP (.slice (some ⟨J,0,none⟩) (List.replicate ((↑c.F.length:Int):Int).toNat ([]:(List Int))).length u) (y.toNat*((BX.sl AW)).sz+0) v|_=>False) [[],[(0,38)],[],[],[(3,41)],[(4,42)],[(1,39),(2,40)]] [(5,43),(6,44)] mo (by kernel_rfl) [6,7,32,31,5,4,33] O (by kernel_rfl) (by kernel_rfl) (by kernel_rfl) (kp [6,7,32,31,5,4,33] O) MO ?_ ?_
   ·refine AT.cons O DM (AT.cons O DM (AT.cons O DM (AT.cons O DM (AT.cons O ?_ ?_))))
    ·intro V t o;intro gr dw;have q:=o.st Q;cases dw;refine AU ?_;have dx:=dv.nw;exact BR dx
    refine AT.cons O ?_ ?_
    ·intro V t o;intro dy ac;have q:=SN.st Q o;have ac:=Sl.sn bb ac;have ac:Sl _ _ AW dy a9.Bc:=ac;have az:=q.fz;refine Cj O O O rZ O az (OB (St.all _) (ac.mono az.ea.1 az.ea.2) bp) λgs gu gv fh gw dz p=>?_;have br:=p;have an:=az.join dz br ⟨OS.flat (λ{_ _ _ _ _ _} k=>k),trivial⟩;simp only[yY,yD] at an;obtain⟨gx,bs,gy,d0⟩:=an.pubs .head;have ao:=Fz.done o EX bs;exact B7 ao.1 (Sl.mono' d0 ao.2)
    refine AT.cons O ?_ ?_
    ·intro V t o;intro gz d1 g0 d2;have q:=o.st Q;cases d1;obtain⟨rfl,g1⟩:=d2;refine AU ?_;refine CR q (mt (mt (mt (mt (mt (mt mh)))))) O O sl_67.1 bq O λg2 bt=>AU ?_;exact BR bt
    exact trivial
   intro g3 d3 d4 ap g4 d5;have bu:=SN.st Q d3;have ap:Sl _ _ AW d4 am:=ap;obtain⟨d6,bv,E⟩:=bd E;refine JS (r:=(BX.sl AW)) (l:=M) (i:=y) (x:=d6) O O (Yg ap) d5 bv RI.id ty_29.1 (λ_=>rfl) bu (.tail (.tail (.tail (.tail (.tail (.tail .head)))))) λg5 bw g6=>AU ?_;refine BP (AU ?_);refine WF.nil (λaa ww hf hw=>?_);have bx:=bw.sel [1,1,1,1,1,1,1] 1 O;exact⟨(BV (y+1)),(upd M y am),_,_,hf.sub (kp [32,31,5,4,33] O),hw,bx,EX,(BY _),E⟩
  refine WF.exit O (λaa ww hf hw=>?_);exact⟨M,_,_,hf.sub (kp [5,4] O),hw,ak,a7,E⟩
 rintro aa ww ⟨af,g7,g8,hf,hw,bz,g9,E⟩;refine AI ?_ hf hw;clear hf hw ww aa;rw[Lq] at E;refine AU ?_;refine BI O O O O ty_71.1 O bz (.tail (.tail (.tail (.tail (.tail (.tail .head)))))) O λha b0 hc=>AU ?_;refine WF.ret (λaa ww hf hw=>?_);obtain⟨hd,b1,he,d7⟩:=b0.pubs (.tail (.tail (.tail (.tail (.tail .head)))));obtain⟨hg,b2,hi,d8⟩:=b1.pubs (.tail (.tail (.tail (.tail .head))));obtain⟨hj,b3,hk,d9⟩:=b2.pubs (.tail (.tail (.tail .head)));obtain⟨hl,b4,hm,eb⟩:=b3.pubs (.tail (.tail .head));obtain⟨hn,b5,ec,ed⟩:=b4.pubs (.tail .head);have aq:=b5.sel [1] 1 O;have ee:=d7.nw;have ef:=d8.nw;have eg:=d9.nw;have eh:=eb.mono' ec;have b6:=aq.drop .head;cases E;exact Jw hf O hw (Hr (NS hf hw aq O mh ty_71.1 O) Jr) O EX ⟨(DX.mk (x:=(⟨d,af,(List.replicate ((↑c.F.length:Int):Int).toNat (0:Int)),[],(List.replicate ((↑c.D.length:Int):Int).toNat ((⟨0,0,false,false⟩:Cs):Cs)),(List.replicate ((↑c.Z.length:Int):Int).toNat (0:Int)),(List.replicate ((↑c.Z.length:Int):Int).toNat (0:Int))⟩:BQ)) dk ee ef (.inl ⟨O,O⟩) eg eh ed),b6⟩
def M4 (y:St S L h) {a:Value}{i:AB}(d:Rd S h AC a i) {b:Value}{j:AB}(g:Rd S h AC b j) {r:Bool}(E:KH N i j=some r):
 CA prog 14 #[a,b] S h (λv z h'=>v= .bool r∧St z (L) h'):=by
 refine A8 10 func14 O ntmps14 O λB=>?_;rw[KH] at E;refine AU ?_;refine A6 O d CE O y λW X Y m A C=>?_;have D:=g.mono A;refine A6 O D CE O m λZ S9 F c n k=>AU ?_;refine WF.rc (.inr ⟨mo,by kernel_rfl⟩) c ?_;have p:=C.mono n;obtain⟨G,_,q⟩:=p.lv;obtain⟨H,_,s⟩:=k.lv;refine AU ?_;refine A5 E O O O bX O (λt l h' o=>OA (St.all h') (q.mono (o.all c.1)) (s.mono (o.all c.1)) l) λt E u=>?_;obtain⟨I,J⟩:=u;obtain⟨K,_,w⟩:=k.lv;refine AU ?_;obtain⟨rfl,⟨M,Q⟩⟩:=AC.ex w;refine QX O O R8 O O O O (AU ?_);exact BB (kp [4] O) λU x V=>RT
def RX (hs:St S L h) {j:Value}{g:AS}(t:Rd S h BL j g) {k:Value}{d:AF}(u:Rd S h AJ k d) {r:Bool}(E:IT N g d=some r):
 CA prog 47 #[j,k] S h (λv S' h'=>v= .bool r∧St S' (L) h'):=by
 refine A8 61 func47 O ntmps47 O λB=>?_;rw[IT] at E;refine AU ?_;refine A6 O t CE O hs λq1 S2 h3 ap e5 k6=>?_;have k7:=u.mono e5;refine A6 O k7 CE O ap λq8 S9 bv A aq ar=>?_;have C:=k6.mono aq;have au:=C.fl Co;have D:=au.i;refine AU ?_;refine CT (cs:=[vI 0,vI g.X]) HY O O O (AU ?_);refine BZ EU O A λbw bx F bz=>?_;refine BI O O O O ty_51.1 O F .head O λb0 l b1=>AU ?_;refine WF.rc (.inl O) l ?_;have m:=ar.nw;have av:=m.fl AF.f_Pos;obtain⟨b2,_,aw⟩:=av.lv;refine AU ?_;refine BE E O O O Wk O (λG H h' o=>LD (St.all h') (aw.mono (o.all l.1)) H) λG E=>AU ?_;obtain⟨I,b,E⟩:=bd E;refine A0 6 21 (.bool I) ?_ ?_
 ·cases J:(!G)
  ·have b:=HX J b;have ax:=m.fl AF.f_Pos;obtain⟨b3,_,ay⟩:=ax.lv;refine AU ?_;obtain⟨b4,K,b⟩:=bd b;refine KN O O O cS O (λh' o=>M4 (St.all h') (ay.mono (o.all l.1)) (AC.mk (x:=(⟨0,g.X⟩:AB)) ⟨(iq (n:=0) O),D⟩) K) (AU ?_);cases b;exact AZ O
  have b:=HU J b;cases b;exact BM O O
 refine AU ?_;obtain⟨az,c,E⟩:=bd E;refine A0 6 28 (.bool az) ?_ ?_
 ·cases M:I
  ·have c:=HX M c;have a0:=m.fl AF.f_Target;have a1:=a0.i;refine AU ?_;obtain⟨b5,Q,c⟩:=bd c;refine KN O O O UE O (λh' o=>Kj (St.all h') (AC.mk (x:=(⟨0,g.X⟩:AB)) ⟨(iq (n:=0) O),D⟩) a1 Q) (AU ?_);cases c;exact AZ O
  have c:=HU M c;cases c;exact BM O O
 refine BB (kp [28,3,2] O) λb6 U b7=>AE O E (λa2 E=>?_) (λa2 E=>?_)
 ·exact RT
 refine AU ?_;refine Es ?_;refine Ia E O O O N6 O U (λq V=>G2 (St.all _) (iq (n:=0) O) V) λq E b8 b9 ca W cb cc p=>?_;obtain⟨rfl,⟨a3,a4⟩,ba⟩:=p;refine Ia E O O O N6 O W (λw Y=>G2 (St.all _) (iq (n:=1) O) Y) λw E cd ce cf Z cg ch p=>?_;obtain⟨rfl,⟨a5,a6⟩,bb⟩:=p;refine BZ EU O Z λci cj aa ck=>BZ EU O aa λcl cm ab cn=>?_;refine BI O O O O ty_51.1 O ab (.tail .head) O λco ac cp=>?_;refine BI O O O O ty_51.1 O ac .head O λcq ad cr=>?_;have ct:=C.nw;refine AU ?_;refine AE O E (λa7 E=>?_) (λa7 E=>?_)
 ·have a8:=m.nw;have ae:=a8.fl AF.f_Open;obtain⟨bc,_,af⟩:=ae.lv;refine AU ?_;obtain⟨rfl,⟨be,bf⟩⟩:=AC.ex af;exact QX O O R8 O O O O (RT)
 refine AU ?_;refine WF.rc (.inr ⟨mo,by kernel_rfl⟩) ad ?_;have s:=m.nw;have ag:=s.fl AF.f_Open;obtain⟨bg,_,ah⟩:=ag.lv;refine AU ?_;obtain⟨rfl,⟨bh,bi⟩⟩:=AC.ex ah;refine QX O O R8 O O O O (AU ?_);refine A0 5 52 (.bool ((M8 d.N.v q.v)||(M8 d.N.v w.v))) ?_ ?_
 ·cases bj:(M8 d.N.v q.v)
  ·have ai:=s.fl AF.f_Open;obtain⟨bk,_,aj⟩:=ai.lv;refine AU ?_;obtain⟨rfl,⟨bl,bm⟩⟩:=AC.ex aj;refine QX O O R8 O O O O (AU ?_);exact AZ O
  exact BM O O
 refine AU ?_;obtain⟨ak,a,E⟩:=bd E;refine A0 7 60 (.bool ak) ?_ ?_
 ·cases y:((M8 d.N.v q.v)||(M8 d.N.v w.v))
  ·have a:=HX y a;have am:=s.fl AF.f_Open;obtain⟨bn,_,an⟩:=am.lv;refine AU ?_;obtain⟨bo,z,a⟩:=bd a;refine IZ O O O bX O (λh' o=>OA (St.all h') (AC.mk (x:=q) ⟨a3,a4⟩) (AC.mk (x:=w) ⟨a5,a6⟩) z) λao=>?_;obtain⟨bp,bq⟩:=ao;refine AU ?_;obtain⟨rfl,⟨br,bs⟩⟩:=AC.ex an;refine QX O O R8 O O O O (AU ?_);cases a;exact AZ O
  have a:=HU y a;cases a;exact BM O O
 refine AU ?_;exact BB (kp [4] O) λbt a9 bu=>RT
def Nc (hs:St S L h) {u:Value}{k:AH}(Z:Rd S h B5 u k) {y:Value}{c:AX}(ab:Rd S h DD y c) {r:Bool}(E:JO N k c=some r):
 CA prog 11 #[u,y] S h (λv S' h'=>v= .bool r∧St S' (L) h'):=by
 refine A8 128 func11 O ntmps11 O λB=>?_;rw[JO] at E;refine AU ?_;refine A6 O Z CE O hs λq1 S2 h3 c1 e5 k6=>?_;have k7:=ab.mono e5;refine A6 O k7 CE O c1 λq8 S9 en a4 a5 c2=>?_;have eo:=k6.mono a5;have ep:=k6.mono a5;refine AU ?_;refine AE O E (λc3 E=>?_) (λc3 E=>?_)
 ·exact RT
 refine AU ?_;refine CT (cs:=[vI 0,vI 1125899906842624]) HY O O O (AU ?_);refine BZ EU O a4 λC eq a6 er=>?_;refine BI O O O O ty_51.1 O a6 .head O λak a7 es=>?_;have a8:=c2.nw;have c4:=a8.fl AX.f_Vol;obtain⟨c5,_,c6⟩:=c4.ll;refine AU ?_;refine AN (λa w=>IV B S9 ak (128,[]) a w [(5,vP C 0),(3,q8),(2,q1)] (Bx C 51 [vI 0,vI 1125899906842624]::L) λ_ _=>FX N k c=some r) ?_ ?_
 ·refine BA (λn1=>λa w=>∃(F:Int),IV B S9 ak (128,[]) a w [(41,vI (↑c.G.length:Int)),(40,c5),(5,vP C 0),(3,q8),(2,q1),(42,vI F)] (Bx C 51 [vI 0,vI 1125899906842624]::L) λ_ _=>AA F∧El N c (FX N k c) n1 F=some r) N ?_ ?_ ?_
  ·intro m p d g;exact⟨0,_,_,d.sub (kp [41,40,5,3,2,42] O),g,a7,(CX.refl S9 ak),(iq (n:=0) O),E⟩
  ·rintro m p ⟨_,_,_,_,_,_,_,_,E⟩;rw[El] at E;cases E
  rintro n1 m p ⟨F,eu,ev,d,g,ac,a9,ew,E⟩;refine AI ?_ d g;clear d g p m;rw[El] at E;refine AU ?_;refine AE O E (λc7 E=>?_) (λc7 E=>?_)
  ·refine AU ?_;refine BG (AU ?_);have c8:=c6.mono' a9;refine AO E O O c8 sl_32.1 O λba E ey c9=>?_;obtain⟨ez,_,da⟩:=c9.lv;refine AU ?_;refine BZ EU O ac λe0 e1 bb db=>?_;have dc:=da.mono db;obtain⟨rfl,⟨bc,be⟩⟩:=AC.ex dc;refine BI O O O O ty_51.1 O bb .head O λe2 bf e3=>AU ?_;refine WF.rc (.inl O) bf (AU ?_);obtain⟨dd,bg,E⟩:=bd E;refine KN O O O Wk O (λh' o=>LD (St.all h') (AC.mk (x:=ba) ⟨bc,be⟩) bg) (AU ?_);obtain⟨de,l,E⟩:=bd E;refine A0 5 54 (.bool de) ?_ ?_
   ·cases bh:(!dd)
    ·have l:=HX bh l;refine AU ?_;obtain⟨e4,bi,l⟩:=bd l;refine KN O O O cS O (λh' o=>M4 (St.all h') (AC.mk (x:=ba) ⟨bc,be⟩) (AC.mk (x:=(⟨0,1125899906842624⟩:AB)) ⟨(iq (n:=0) O),(iq (n:=1125899906842624) O)⟩) bi) (AU ?_);cases l;exact AZ O
    have l:=HU bh l;cases l;exact BM O O
   refine BB (kp [54,41,40,5,3,2,42] O) λe6 bj e7=>AE O E (λdf E=>?_) (λdf E=>?_)
   ·exact RT
   refine AU ?_;refine BP (AU ?_);refine WF.nil (λm p d g=>?_);have bk:=bj.sel [1] 1 O;exact⟨(BV (F+1)),_,_,d.sub (kp [41,40,5,3,2,42] O),g,bk,EX,(BY _),E⟩
  refine WF.exit O (λm p d g=>?_);exact⟨_,_,d.sub (kp [5,3,2] O),g,ac,a9,E⟩
 rintro m p ⟨am,I,d,g,an,bl,E⟩;refine AI ?_ d g;clear d g p m;rw[FX] at E;have z:=a8.mono bl;have bm:=z.fl AX.f_Queue;obtain⟨bn,_,bo⟩:=bm.ll;refine AU ?_;refine AN (λa w=>IV B am I (128,[]) a w [(3,q8),(2,q1)] (L) λ_ _=>FW N k c=some r) ?_ ?_
 ·refine BA (λn3=>λa w=>∃(q:Int),IV B am I (128,[]) a w [(58,vI (↑c.E.length:Int)),(57,bn),(5,vP C 0),(3,q8),(2,q1),(59,vI q)] (Bx C 51 [vI 0,vI 1125899906842624]::L) λ_ _=>AA q∧Ek N k c (FW N k c) n3 q=some r) N ?_ ?_ ?_
  ·intro m p d g;exact⟨0,_,_,d.sub (kp [58,57,5,3,2,59] O),g,an,(CX.refl am I),(iq (n:=0) O),E⟩
  ·rintro m p ⟨_,_,_,_,_,_,_,_,E⟩;rw[Ek] at E;cases E
  rintro n3 m p ⟨q,dh,di,d,g,J,ad,dj,E⟩;refine AI ?_ d g;clear d g p m;rw[Ek] at E;refine AU ?_;refine AE O E (λbp E=>?_) (λbp E=>?_)
  ·refine AU ?_;refine BG (AU ?_);have bq:=bo.mono' ad;refine AO E O O bq sl_33.1 O λs E dk br=>?_;obtain⟨dl,_,bs⟩:=br.lv;refine AU ?_;refine BZ Sq O J λdm dn ao bt=>AU ?_;have bu:=bs.mono bt;obtain⟨rfl,⟨bv,ae,M,Q⟩⟩:=BU.ex bu;refine BI O O O O ty_93.1 O ao .head O λdp ap dq=>AU ?_;refine WF.rc (.inl O) ap (AU ?_);obtain⟨bw,aq,E⟩:=bd E;refine KN O O O Wk O (λh' o=>LD (St.all h') (AC.mk (x:=s.G) ⟨M,Q⟩) aq) (AU ?_);obtain⟨af,i,E⟩:=bd E;refine A0 6 74 (.bool af) ?_ ?_
   ·cases ag:(!bw)
    ·have i:=HX ag i;refine AU ?_;obtain⟨dr,ar,i⟩:=bd i;refine KN O O O cS O (λh' o=>M4 (St.all h') (AC.mk (x:=s.G) ⟨M,Q⟩) (AC.mk (x:=(⟨0,1125899906842624⟩:AB)) ⟨(iq (n:=0) O),(iq (n:=1125899906842624) O)⟩) ar) (AU ?_);cases i;exact AZ O
    have i:=HU ag i;cases i;exact BM O O
   have ds:=z.nw;refine AU ?_;obtain⟨bx,j,E⟩:=bd E;refine A0 8 96 (.bool bx) ?_ ?_
   ·cases ah:((af||(decide (s.G.A≤0)))||(decide (s.K<c.H)))
    ·have j:=HX ah j;have bz:=k6.nw;have b0:=bz.fl CS;obtain⟨dt,_,b1⟩:=b0.ll;have b2:=b1.le;refine AU ?_;refine BE j O O O Wj O (λb3 au h' o=>LE (St.all h') ae (MB b2) au) λb3 j=>AU ?_;cases j;exact AZ O
    have j:=HU ah j;cases j;exact BM O O
   refine BB (kp [96,8,9,58,57,5,3,2,59] O) λdu U dv=>AE O E (λb4 E=>?_) (λb4 E=>?_)
   ·exact RT
   refine AU ?_;refine WF.rc (.inr ⟨mo,by kernel_rfl⟩) U (AU ?_);obtain⟨b5,b,E⟩:=bd E;refine A0 10 109 (.bool b5) ?_ ?_
   ·cases ai:(decide (0<q))
    ·have b:=HX ai b;cases b;exact BM O O
    have b:=HU ai b;have b6:=z.nw;have b7:=b6.fl AX.f_Queue;obtain⟨dw,_,b8⟩:=b7.ll;refine AU ?_;refine AO b O O b8 sl_33.1 O λdx b dy b9=>?_;obtain⟨dz,_,ca⟩:=b9.lv;refine AU ?_;obtain⟨d0,av,b⟩:=bd b;refine IZ O O O iU O (λh' o=>QB (St.all h') (ca.mono (o.all U.1)) (BU.mk (x:=s) ⟨bv,ae,M,Q⟩) av) λcb=>?_;have d1:=cb;refine AU ?_;cases b;exact AZ O
   refine BB (kp [109,58,57,5,3,2,59] O) λd2 aw d3=>AE O E (λcc E=>?_) (λcc E=>?_)
   ·exact RT
   refine AU ?_;refine BP (AU ?_);refine WF.nil (λm p d g=>?_);have ax:=aw.sel [1] 1 O;exact⟨(BV (q+1)),_,_,d.sub (kp [58,57,5,3,2,59] O),g,ax,EX,(BY _),E⟩
  refine WF.exit O (λm p d g=>?_);have ay:=J.drop .head;exact⟨_,_,d.sub (kp [3,2] O),g,ay,ad,E⟩
 rintro m p ⟨V,W,d,g,az,cd,E⟩;refine AI ?_ d g;clear d g p m;rw[FW] at E;have ce:=z.mono cd;have cf:=ce.fl AX.f_Links;obtain⟨cg,_,ch⟩:=cf.ll;refine AU ?_;refine AN (λa w=>IV B V W (128,[]) a w [] (L) λ_ _=>HR N=some r) ?_ ?_
 ·refine BA (λn5=>λa w=>∃(t:Int),IV B V W (128,[]) a w [(113,vI (↑c.D.length:Int)),(112,cg),(2,q1),(114,vI t)] (L) λ_ _=>AA t∧Ej N k c (HR N) n5 t=some r) N ?_ ?_ ?_
  ·intro m p d g;exact⟨0,_,_,d.sub (kp [113,112,2,114] O),g,az,(CX.refl V W),(iq (n:=0) O),E⟩
  ·rintro m p ⟨_,_,_,_,_,_,_,_,E⟩;rw[Ej] at E;cases E
  rintro n5 m p ⟨t,d4,d5,d,g,X,aj,d6,E⟩;refine AI ?_ d g;clear d g p m;rw[Ej] at E;refine AU ?_;refine AE O E (λci E=>?_) (λci E=>?_)
  ·refine AU ?_;refine BG (AU ?_);have cj:=ch.mono' aj;refine AO E O O cj sl_34.1 O λck E d7 cl=>?_;obtain⟨d8,_,cm⟩:=cl.lv;refine AU ?_;refine BZ So O X λd9 ea a0 cn=>AU ?_;have co:=cm.mono cn;obtain⟨rfl,⟨cp,cq,cr,ct,cu⟩⟩:=AJ.ex co;refine BI O O O O ty_97.1 O a0 .head O λeb Y ec=>AU ?_;refine WF.rc (.inr ⟨mo,by kernel_rfl⟩) Y ?_;have cv:=k6.nw;have cw:=cv.fl AH.f_Links;obtain⟨ed,_,cx⟩:=cw.ll;refine AU ?_;refine AO E O O cx sl_24.1 O λee E ef cy=>?_;obtain⟨eg,_,cz⟩:=cy.lv;refine AU ?_;obtain⟨eh,a1,E⟩:=bd E;refine KN O O O sN O (λh' o=>RX (St.all h') (cz.mono (o.all Y.1)) (AJ.mk (x:=ck) ⟨cp,cq,cr,ct,cu⟩) a1) (AU ?_);refine BB (kp [126,113,112,2,114] O) λei a2 ej=>AE O E (λc0 E=>?_) (λc0 E=>?_)
   ·exact RT
   refine AU ?_;refine BP (AU ?_);refine WF.nil (λm p d g=>?_);have a3:=a2.drop .head;exact⟨(BV (t+1)),_,_,d.sub (kp [113,112,2,114] O),g,a3,EX,(BY _),E⟩
  refine WF.exit O (λm p d g=>?_);exact⟨_,_,d.sub PJ,g,X,aj,E⟩
 rintro m p ⟨ek,el,d,g,dg,em,E⟩;refine AI ?_ d g;clear d g p m;rw[HR] at E;exact RT
def Py (q:St S L h) {a:Value}{c:AB}(b:Rd S h AC a c) {r:Int}(E:Kk N c=some r):
 CA prog 61 #[a] S h (λv s h'=>v=vI r∧AA r∧St s (L) h'):=by
 refine A8 8 func61 O ntmps61 O λB=>?_;rw[Kk] at E;refine AU ?_;refine A6 O b CE O q λz A C g D n=>AU ?_;refine WF.rc (.inl O) g ?_;have t:=n.fl AB.f_Hi;have u:=t.i;have j:=n.fl AB.f_Lo;have k:=j.i;refine AU ?_;refine A5 E O O O Mj O (λl d h' o=>Fh (St.all h') u k d) λl E m=>?_;have w:=m;refine AU ?_;exact BB (kp [2] O) λx p y=>RT
def OE (hs:St S L h) {j:Value}{b:AX}(s:Rd S h DD j b) {r:Int}(E:J7 N b=some r):
 CA prog 20 #[j] S h (λv S' h'=>v=vI r∧AA r∧St S' (L) h'):=by
 refine A8 34 func20 O ntmps20 O λB=>?_;rw[J7] at E;refine AU ?_;refine A6 O s CE O hs λq1 S2 h3 aj e5 k6=>?_;have k8:=k6.fl AX.f_Vol;obtain⟨v9,_,ak⟩:=k8.ll;refine AU ?_;refine AN (λa w=>∃(k:Int),IV B S2 h3 (34,[]) a w [(1,q1),(3,vI k)] (L) λ_ _=>AA k∧Hw N b k=some r) ?_ ?_
 ·refine BA (λn1=>λa w=>∃(l:Int) (m:Int),IV B S2 h3 (34,[]) a w [(10,vI (↑b.G.length:Int)),(9,v9),(1,q1),(3,vI l),(11,vI m)] (L) λ_ _=>AA l∧AA m∧GR N b (Hw N b) n1 l m=some r) N ?_ ?_ ?_
  ·intro g i c d;exact⟨0,0,_,_,c.sub (kp [10,9,1,3,11] O),d,aj,(CX.refl S2 h3),(iq (n:=0) O),(iq (n:=0) O),E⟩
  ·rintro g i ⟨_,_,_,_,_,_,_,_,_,_,E⟩;rw[GR] at E;cases E
  rintro n1 g i ⟨l,m,bn,bo,c,d,u,I,J,bp,E⟩;refine AI ?_ c d;clear c d i g;rw[GR] at E;refine AU ?_;refine AE O E (λam E=>?_) (λam E=>?_)
  ·refine AU ?_;refine BG (AU ?_);have an:=ak.mono' I;refine AO E O O an sl_32.1 O λao E bq ap=>?_;obtain⟨br,_,aq⟩:=ap.lv;refine AU ?_;refine BZ EU O u λbs bt K ar=>?_;have au:=aq.mono ar;obtain⟨rfl,⟨av,aw⟩⟩:=AC.ex au;refine BI O O O O ty_51.1 O K .head O λbu M bv=>AU ?_;refine WF.rc (.inl O) M (AU ?_);obtain⟨bw,Q,E⟩:=bd E;refine IZ O O O iT O (λh' o=>Py (St.all h') (AC.mk (x:=ao) ⟨av,aw⟩) Q) λax=>?_;have ay:=ax;refine A5 E O O O PN O (λU V h' o=>Ge (St.all h') J ay V) λU E az=>?_;have a0:=az;refine AU ?_;refine BB (kp [3,10,9,1,11] O) λbx W bz=>BP (AU ?_);refine WF.nil (λg i c d=>?_);have X:=W.drop .head;exact⟨U,(BV (m+1)),_,_,c.sub (kp [10,9,1,3,11] O),d,X,EX,a0,(BY _),E⟩
  refine WF.exit O (λg i c d=>?_);exact⟨l,_,_,c.sub (kp [1,3] O),d,u,I,J,E⟩
 rintro g i ⟨k,A,C,c,d,Y,a1,a2,E⟩;refine AI ?_ c d;clear c d i g;rw[Hw] at E;have a3:=k6.mono a1;have a4:=a3.fl AX.f_Queue;obtain⟨a5,_,a6⟩:=a4.ll;refine AU ?_;refine AN (λa w=>∃(t:Int),IV B A C (34,[]) a w [(3,vI t)] (L) λ_ _=>AA t∧KZ N t=some r) ?_ ?_
 ·refine BA (λn3=>λa w=>∃(p:Int) (q:Int),IV B A C (34,[]) a w [(22,vI (↑b.E.length:Int)),(21,a5),(3,vI p),(23,vI q)] (L) λ_ _=>AA p∧AA q∧HB N b (KZ N) n3 p q=some r) N ?_ ?_ ?_
  ·intro g i c d;exact⟨k,0,_,_,c.sub (kp [22,21,3,23] O),d,Y,(CX.refl A C),a2,(iq (n:=0) O),E⟩
  ·rintro g i ⟨_,_,_,_,_,_,_,_,_,_,E⟩;rw[HB] at E;cases E
  rintro n3 g i ⟨p,q,b0,b1,c,d,y,Z,ab,b2,E⟩;refine AI ?_ c d;clear c d i g;rw[HB] at E;refine AU ?_;refine AE O E (λa7 E=>?_) (λa7 E=>?_)
  ·refine AU ?_;refine BG (AU ?_);have a8:=a6.mono' Z;refine AO E O O a8 sl_33.1 O λa9 E b3 ba=>?_;obtain⟨b4,_,bb⟩:=ba.lv;refine AU ?_;refine BZ Sq O y λb5 b6 ac bc=>?_;have be:=bb.mono bc;obtain⟨rfl,⟨b7,b8,bf,bg⟩⟩:=BU.ex be;refine BI O O O O ty_93.1 O ac .head O λb9 ad ca=>AU ?_;refine WF.rc (.inl O) ad (AU ?_);obtain⟨cb,ae,E⟩:=bd E;refine IZ O O O iT O (λh' o=>Py (St.all h') (AC.mk (x:=a9.G) ⟨bf,bg⟩) ae) λaf=>?_;have ag:=af;refine A5 E O O O PN O (λz D h' o=>Ge (St.all h') ab ag D) λz E ah=>?_;have ai:=ah;refine AU ?_;refine BB (kp [3,22,21,23] O) λbi F bj=>BP (AU ?_);refine WF.nil (λg i c d=>?_);have H:=F.drop .head;exact⟨z,(BV (q+1)),_,_,c.sub (kp [22,21,3,23] O),d,H,EX,ai,(BY _),E⟩
  refine WF.exit O (λg i c d=>?_);exact⟨p,_,_,c.sub (kp [3] O),d,y,Z,ab,E⟩
 rintro g i ⟨t,bk,bl,c,d,bh,bm,cc,E⟩;refine AI ?_ c d;clear c d i g;rw[KZ] at E;exact RT
def KU (K:St S L h) {b:Value}{c:(List Int)}(k:Sl S h AW b c) {r:Int}(E:Gh N c=some r):
 CA prog 30 #[b] S h (λv M h'=>v=vI r∧AA r∧St M (L) h'):=by
 refine A8 17 func30 O ntmps30 O λB=>?_;rw[Gh] at E;refine AU ?_;refine AN (λa w=>∃(y:Int),IV B S h (17,[]) a w [(3,vI y)] (L) λ_ _=>AA y∧J2 N y=some r) ?_ ?_
 ·refine BA (λH=>λa w=>∃(q:Int) (d:Int),IV B S h (17,[]) a w [(7,vI (↑c.length:Int)),(6,b),(3,vI q),(8,vI d)] (L) λ_ _=>AA q∧AA d∧Gb N c (J2 N) H q d=some r) N ?_ ?_ ?_
  ·intro m p g j;exact⟨0,0,_,_,g.sub (kp [7,6,3,8] O),j,K,(CX.refl S h),(iq (n:=0) O),(iq (n:=0) O),E⟩
  ·rintro m p ⟨_,_,_,_,_,_,_,_,_,_,E⟩;rw[Gb] at E;cases E
  rintro H m p ⟨q,d,Q,U,g,j,l,s,I,V,E⟩;refine AI ?_ g j;clear g j p m;rw[Gb] at E;refine AU ?_;refine AE O E (λz E=>?_) (λz E=>?_)
  ·refine AU ?_;refine BG (AU ?_);have A:=k.mono' s;refine AO E O O A sl_29.1 O λW E X C=>?_;have D:=C.i;refine AU ?_;refine WF.rc (.inl O) l (AU ?_);refine A5 E O O O PN O (λt u h' o=>Ge (St.all h') I D u) λt E F=>?_;have G:=F;refine AU ?_;refine BB (kp [3,7,6,8] O) λY x Z=>BP (AU ?_);refine WF.nil (λm p g j=>?_);exact⟨t,(BV (d+1)),_,_,g.sub (kp [7,6,3,8] O),j,x,EX,G,(BY _),E⟩
  refine WF.exit O (λm p g j=>?_);exact⟨q,_,_,g.sub (kp [3] O),j,l,s,I,E⟩
 rintro m p ⟨y,ab,ac,g,j,J,ad,r3,E⟩;refine AI ?_ g j;clear g j p m;rw[J2] at E;exact RT
def R4 (d:St S L h) {a:Bool}{r:Int}(E:Mf N a=some r):
 CA prog 68 #[.bool a] S h (λv b h'=>v=vI r∧AA r∧St b (L) h'):=by
 refine A8 4 func68 O ntmps68 O λB=>?_;rw[Mf] at E;refine AU ?_;refine AE O E (λc E=>?_) (λc E=>?_)
 ·exact RT
 exact RT
def R3 (hs:St S L h) {M:Value}{l:AX}(ag:Rd S h DD M l) {Q:Value}{U:BQ}(ah:Rd S h DX Q U) {r:Bool}(E:Ku N l U=some r):
 CA prog 74 #[M,Q] S h (λv S' h'=>v= .bool r∧St S' (L) h'):=by
 refine A8 76 func74 O ntmps74 O λB=>?_;rw[Ku] at E;refine WF.sl (A6 O ag CE O hs λq1 S2 h3 bt e5 k6=>?_);have k7:=ah.mono e5;refine A6 O k7 CE O bt λq8 S9 dj a6 dk bu=>IA 1 (Rk O (EI (LF.nil (kp [3,2] O) (WF.sl (Xa (K:=0) (E:=0) O a6 (λk:AQ=>Value.agg (AQ.v k).toArray) VB λu ao ai bv=>IA 1 (Rk O (EI (LF.nil (kp [5,3,2] O) (Dj (LX ?_))))))))));have bw:=bu.mono bv;refine Lk O bw BQ.f_Queue fa_71_3.1 O λdl bx=>dU K1 ai.1 O bx ty_68.1 O λbz a7=>Vt O a7 sl_68.1 O λdm=>Cv O (Ip (kp [19,18,17,5,2] O) (AN (λa w=>∃(j:(List (AQ×Int))),IV B S9 ao (76,[]) a w [(5,.map (some u)),(2,q1)] (MP (λk:AQ=>Value.agg (AQ.v k).toArray) VB u j::L) λ_ _=>FC N l j=some r) ?_ ?_))
 ·refine BA (λn1=>λa w=>∃(W:Int) (X:(List (AQ×Int))),IV B S9 ao (76,[]) a w [(18,vI (↑U.E.length:Int)),(17,bz),(5,.map (some u)),(2,q1),(19,vI W)] (MP (λk:AQ=>Value.agg (AQ.v k).toArray) VB u X::L) λ_ _=>AA W∧FA N U (FC N l) n1 W X=some r) N ?_ ?_ ?_
  ·intro m p c d;exact⟨0,([]:(List (AQ×Int))),_,_,c.sub (kp [18,17,5,2,19] O),d,ai,(CX.refl S9 ao),(iq (n:=0) O),E⟩
  ·rintro m p ⟨_,_,_,_,_,_,_,_,_,E⟩;rw[FA] at E;cases E
  rintro n1 m p ⟨W,X,dn,dp,c,d,Y,a8,dq,E⟩;refine AI ?_ c d;clear c d p m;rw[FA] at E;refine LX (SJ O (Ip (kp [20,18,17,5,2,19] O) (Dj (AE O E (λb0 E=>?_) (λb0 E=>?_)))))
  ·refine KT (Dj (BG (WF.sl (IA 2 ?_))));have b1:=a7.mono' a8;refine AO E O O b1 sl_68.1 O λg E dr b2=>Iz K1 Y.1 O b2 ty_83.1 CE O λds b3=>EI (BZ Zi O Y λdt du a9 b4=>?_);have b5:=b3.mono b4;obtain⟨dv,rfl,dw,dx,b6⟩:=Gq.ex b5;refine G1 O O O ON ty_83.1 O a9 .head O λdy Z dz=>LF.nil (kp [7,18,17,5,2,19] O) (WF.sl (IA 5 (GH O fa_83_0.1 O (Jz K1 Z O mh O ty_3.1 O (GH O fa_83_1.1 O (Jz K1 Z O mh O ty_3.1 O (CT (cs:=[vI g.K,vI g.C]) Z6 O O O (EI (BZ Wv O Z λd0 d1 ba d2=>?_)))))))));refine BI O O O O ty_197.1 O ba .head O λd3 s d4=>LF.nil (kp [8,7,18,17,5,2,19] O) (GZ 9 mo (by kernel_rfl) O s (Cv O (L0 (vs:=[vI g.K,vI g.C]) RG s O mh O O ty_197.1 O O (Cv O (L0 (vs:=[vI g.K,vI g.C]) RG s O mh O O ty_197.1 O O (Vq (k0:=(⟨g.K,g.C⟩:AQ)) (z:=0) RG s (mt (mt mh)) O O VD Ry (λw=>(oO w).trans (by rw[Zp])) O O (GH O fa_83_2.1 O (Jz RG s O (mt mh) O ty_29.1 O ?_))))))));have b7:=b6.nw;refine A5 E O O O U3 O (λb8 bb h' o=>KU (St.all h') (b7.mono' (o.all s.1)) bb) λb8 E b9=>?_;have ca:=b9;refine A5 E O O O PN O (λap bc h' o=>Ge (St.all h') (BY _) ca bc) λap E cb=>?_;have cc:=cb;refine ET λd5 be d6=>XZ (k0:=(⟨g.K,g.C⟩:AQ)) (x:=ap) be (.tail (.tail .head)) O O (wH some (Xf cc)).symm VD Ry λd7 bf d8=>LF.nil (kp [18,17,5,2,19] O) (BP (JL (.inl O) (QY O (Cv O (Ip (kp [19,18,17,5,2] O) (WF.nil (λm p c d=>?_)))))));have bg:=bf.sel [2] 2 O;exact⟨(BV (W+1)),(M5 (λk:AQ=>Value.agg (AQ.v k).toArray) X (⟨g.K,g.C⟩:AQ) ap),_,_,c.sub (kp [18,17,5,2,19] O),d,bg,EX,(BY _),E⟩
  refine WF.exit O (λm p c d=>?_);exact⟨X,_,_,c.sub (kp [5,2] O),d,Y,a8,E⟩
 rintro m p ⟨j,aq,d9,c,d,bh,ea,E⟩;refine AI ?_ c d;clear c d p m;rw[FC] at E;refine WF.sl (Xa (K:=0) (E:=0) O bh (λk:AQ=>Value.agg (AQ.v k).toArray) Value.bool λV ar aj eb=>IA 1 (Rk O (EI (LF.nil (kp [9,5,2] O) (Dj (LX ?_))))));have cd:=k6.nw;refine Lk O cd AX.f_Queue fa_36_2.1 O λec ce=>dU K1 aj.1 O ce ty_33.1 O λcf bi=>Vt O bi sl_33.1 O λed=>Cv O (Ip (kp [42,41,40,9,5] O) (AN (λa w=>∃(D:(List (AQ×Bool))),IV B aq ar (76,[]) a w [(9,.map (some V)),(5,.map (some u))] (MP (λk:AQ=>Value.agg (AQ.v k).toArray) Value.bool V D::MP (λk:AQ=>Value.agg (AQ.v k).toArray) VB u j::L) λ_ _=>FB N j D=some r) ?_ ?_))
 ·refine BA (λn3=>λa w=>∃(ab:Int) (ac:(List (AQ×Bool))),IV B aq ar (76,[]) a w [(41,vI (↑l.E.length:Int)),(40,cf),(9,.map (some V)),(5,.map (some u)),(42,vI ab)] (MP (λk:AQ=>Value.agg (AQ.v k).toArray) Value.bool V ac::MP (λk:AQ=>Value.agg (AQ.v k).toArray) VB u j::L) λ_ _=>AA ab∧E9 N l j (FB N j) n3 ab ac=some r) N ?_ ?_ ?_
  ·intro m p c d;exact⟨0,([]:(List (AQ×Bool))),_,_,c.sub (kp [41,40,9,5,42] O),d,aj,(CX.refl aq ar),(iq (n:=0) O),E⟩
  ·rintro m p ⟨_,_,_,_,_,_,_,_,_,E⟩;rw[E9] at E;cases E
  rintro n3 m p ⟨ab,ac,ci,cj,c,d,F,ak,ee,E⟩;refine AI ?_ c d;clear c d p m;rw[E9] at E;refine LX (SJ O (Ip (kp [43,41,40,9,5,42] O) (Dj (AE O E (λbj E=>?_) (λbj E=>?_)))))
  ·refine KT (Dj (BG (WF.sl (IA 2 ?_))));have bk:=bi.mono' ak;refine AO E O O bk sl_33.1 O λb E ck bl=>Iz K1 F.1 O bl ty_93.1 CE O λcl bm=>EI (BZ Sq O F λcm cn au bn=>?_);have bo:=bm.mono bn;obtain⟨rfl,⟨co,cp,bp,bq⟩⟩:=BU.ex bo;refine BI O O O O ty_93.1 O au .head O λcq H cr=>LF.nil (kp [11,41,40,9,5,42] O) (WF.sl (IA 5 (GH O fa_93_0.1 O (Jz K1 H O mh O ty_3.1 O (GH O fa_93_1.1 O (Jz K1 H O mh O ty_3.1 O (CT (cs:=[vI b.K,vI b.C]) Z6 O O O (EI (BZ Wv O H λct cu av cv=>?_)))))))));refine BI O O O O ty_197.1 O av .head O λcw y cx=>LF.nil (kp [12,11,41,40,9,5,42] O) (Dj (Dj (WF.rc (.inr ⟨mo,by kernel_rfl⟩) y (GH O fa_93_2.1 O (L0 (vs:=[vI b.G.B,vI b.G.A]) RG y O (mt mh) O O ty_51.1 O O (Cv O (L0 (vs:=[vI b.K,vI b.C]) RG y O mh O O ty_197.1 O O (Vq (k0:=(⟨b.K,b.C⟩:AQ)) (z:=0) RG y (mt (mt (mt mh))) O O VD Ry (λw=>(oO w).trans (by rw[Zp])) O O ?_))))))));obtain⟨cy,aw,E⟩:=bd E;refine KN O O O UE O (λh' o=>Kj (St.all h') (AC.mk (x:=b.G) ⟨bp,bq⟩) (BY _) aw) (NP O (BB (kp [57,12,41,40,9,5,42] O) λcz ad c0=>AE O E (λbr E=>?_) (λbr E=>?_)))
   ·exact LX (ND O (kp [4] O) (RT))
   refine KT (Es (IA 2 (Cv O (L0 (vs:=[vI b.K,vI b.C]) K1 ad O mh O O ty_197.1 O O (EI (XZ (k0:=(⟨b.K,b.C⟩:AQ)) (x:=true) ad (.tail (.tail .head)) O O O Zx Ry λc1 ax c2=>LF.nil (kp [41,40,9,5,42] O) (BP (JL (.inl O) (QY O (Cv O (Ip (kp [42,41,40,9,5] O) (WF.nil (λm p c d=>?_)))))))))))));have ay:=ax.sel [2,2] 2 O;exact⟨(BV (ab+1)),(M5 (λk:AQ=>Value.agg (AQ.v k).toArray) ac (⟨b.K,b.C⟩:AQ) true),_,_,c.sub (kp [41,40,9,5,42] O),d,ay,EX,(BY _),E⟩
  refine WF.exit O (λm p c d=>?_);exact⟨ac,_,_,c.sub (kp [9,5] O),d,F,ak,E⟩
 rintro m p ⟨D,am,c3,c,d,az,c4,E⟩;refine AI ?_ c d;clear c d p m;rw[FB] at E;refine Dj (WF.sl (IA 1 (Cv O (EI ?_))));have a0:=az.pick (.tail .head);refine Ze a0 O VD O λae an a1 c5=>LF.nil (kp [62,9] O) (BG (BA (λn1=>λa w=>∃(i:List (AQ×Int)) (S':Nat→Prop) (h':A4),Fr (76,[]) a [(62,(vP ae 0)),(9,.map (some V))]∧Wd B h' w∧St S' (MI (λk:AQ=>Value.agg (AQ.v k).toArray) VB u ae j i::MP (λk:AQ=>Value.agg (AQ.v k).toArray) Value.bool V D::L) h'∧CX am an S' h'∧i.length<n1∧cond (List.all i (λe=>(E8 N D e).isNone)) (Jk N) (some false)=some r) (j.length+1) ?_ ?_ ?_))
 ·intro m p c d;exact⟨j,_,_,c.sub (kp [62,9] O),d,a1,(CX.refl am an),Nat.lt_succ_self _,E⟩
 ·rintro m p ⟨_,_,_,_,_,_,_,a2,_⟩;exact absurd a2 (Nat.not_lt_zero _)
 rintro n1 m p ⟨i,c6,c7,c,d,af,c8,a2,E⟩;refine AI ?_ c d;clear c d p m;refine WF.sl (dY af O O (λI=>?_) (λt c9 da db I a3 dc cg=>?_))
 ·subst I;have E:Jk N=some r:=E;rw[Jk] at E;have ch:=af.miMP;exact IA 1 (Tf O (EI (LF.nil (kp [64,62,9] O) (Dj (UJ O (M1 O (LX (ND O (kp [4] O) (RT)))))))))
 subst I;have E:=ZG (f:=E8 N D) (λ_ _ hy=>bU hy) E;rw[E8] at E;simp only[fF,Option.some_or,Option.none_or] at E;refine IA 1 (Tf O (EI (LF.nil (kp [64,62,9] O) (Dj (QV O (KT (BG (WF.sl (IA 3 (Zd O cg O (Tf O (Tf O (EI (BZ Wv O a3 λdd de a4 df=>?_))))))))))))));refine BI O O O O ty_197.1 O a4 .head O λdg J dh=>IA 1 (Rk O (EI (LF.nil (kp [14,13,62,9] O) (LX (Cv O (L0 (vs:=[vI t.1.at_,vI t.1.to_]) K1 J O mh O O ty_197.1 O O (Vq (k0:=t.1) (z:=false) K1 J (mt (mt mh)) O O Zx Ry oN O O (NP O (Cv O (A0 3 75 (.bool ((!((Lu (λk:AQ=>Value.agg (AQ.v k).toArray) D t.1).getD false))&&(decide ((BV t.2)≠0)))) ?_ ?_))))))))))
 ·cases di:(!((Lu (λk:AQ=>Value.agg (AQ.v k).toArray) D t.1).getD false))
  ·exact BM O O
  exact Dw O (Cv O (Dw O (Yr O (Ho O (AZ O)))))
 refine Ip (kp [75,62,9] O) (AE O E (λbs E=>?_) (λbs E=>?_))
 ·exact LX (ND O (kp [4] O) (RT))
 refine KT (BP (WF.nil (λm p c d=>?_)));have a5:=J.sel [1,1] 1 O;exact⟨_,_,_,c.sub (kp [62,9] O),d,a5,EX,(by simp only[yA,Aaz] at a2 ⊢;omega),E⟩
end Go.Proofs.YtibidnaedddfdaaGreat
