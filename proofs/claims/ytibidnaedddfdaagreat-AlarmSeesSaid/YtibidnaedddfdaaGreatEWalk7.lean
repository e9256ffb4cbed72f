import Derived.Test.YtibidnaedddfdaaGreatEFacts
import Derived.Test.YtibidnaedddfdaaGreatEForms
import Derived.Test.YtibidnaedddfdaaGreatEInsert
import Derived.Test.YtibidnaedddfdaaGreatEWalk0
import Derived.Test.YtibidnaedddfdaaGreatEWalk1
import Derived.Test.YtibidnaedddfdaaGreatEWalk3
import Derived.Test.YtibidnaedddfdaaGreatEWalk4
namespace Go.Proofs.YtibidnaedddfdaaGreat
set_option linter.all false
open Go.RowKit
open Go.Proofs.Tryz
set_option maxRecDepth 10000
set_option maxHeartbeats 2000000
variable {N:Nat}{S:Nat→Prop}{L:List HP}{h:AX}
def Tn (hs:St S L h) {a5:Value}{c:AF}(b0:Rd S h B7 a5 c) {a6:Value}{d:BV}(b1:Rd S h DL a6 d) {av:Value}{a1:BT}(bl:Rd S h D2 av a1) {t:Value}{aw:(List Bool)}(a2:Sl S h BU.bool t aw) {u:Value}{ax:(List AB)}(a3:Sl S h AC u ax) {r:BV×(List AB)×(List AB)}(E:Jn N c d a1 aw ax=some r):
 CD prog 12 #[a5,a6,av,t,u] S h (λv S' h'=>∃ek el em:Value,v= .tuple #[ek,el,em]∧Rd S' h' DL ek r.1∧St S' (OS AC 51 el r.2.1::OS AC 51 em r.2.2::L) h'):=by
 refine A7 67 func12 O ntmps12 O λB=>?_;rw[Jn] at E;refine AU ?_;refine AT O b0 CE O hs λq1 S2 h3 g5 e5 k6=>?_;have k7:=b1.mono e5;obtain⟨km,en,g6,rfl,r9,g7,g8,g9⟩:=DL.ex k7;refine NF O O O g5 λha kn eo ko=>?_;have hc:=bl.nw;refine AT O hc CE O eo λep b2 kq eq kr hd=>BZ VM O eq λbj ks a7 kt=>AU ?_;refine Ej (AU ?_);have he:=g7.nw;refine Hb E O O O qO O a7 (λab er=>Je (St.all _) (he.mono a7.ea.1 a7.ea.2) er) λab E ku kv kw hq kx hg p=>?_;have es:=p;have bm:=a7.join hg es ⟨OS.flat (λ{_ _ _ _ _ _} k=>k),trivial⟩;simp only[wZ,wB] at bm;refine AU ?_;obtain⟨ac,A,rfl,ky⟩:=bm.oslen mh;refine Ic (cs':=[vI d.I,(.slice ac ab.length A),en,g6]) O O O O ty_32.1 O bm (.tail (.tail .head)) O O λkz a8 k0=>AU ?_;refine Ej (AU ?_);have hj:=g9.nw;refine Hb E O O O qM O a8 (λbk eu=>JS (St.all _) (hj.mono a8.ea.1 a8.ea.2) eu) λbk E k1 k2 k3 ht k4 hk p=>?_;have ev:=p;have bn:=a8.join hk ev ⟨OS.flat (λ{_ _ _ _ _ _} k=>k),trivial⟩;simp only[wZ,wB] at bn;refine AU ?_;obtain⟨a9,ai,rfl,k5⟩:=bn.oslen mh;refine Ic (cs':=[vI d.I,(.slice ac ab.length A),en,(.slice a9 bk.length ai)]) O O O O ty_34.1 O bn (.tail (.tail (.tail .head))) O O λew j k8=>AU ?_;have ey:=g8.nw;obtain⟨bo,a4,rfl,k9⟩:=(ey).len;obtain⟨ez,E⟩:=RM E;refine Xy (m:=[(10,vP bj 0),(7,ep),(6,vP ha 0),(5,q1),(3,t),(4,u)]) [8] [] [5,7] ⟨[(6,[24,25,29])],λi l=>match i,l with|6,[some hl,some hm,some hn]=>some (.agg (hl.cells.toList++hm.cells.toList++[hn]).toArray)|_,_=>none⟩ (by kernel_rfl) (by kernel_rfl) (λi v hh=>match i with|0=>Rd b2 hh B7 v c|1=>v= .agg #[vI d.I,(.slice ac ab.length A),(.slice bo d.N.length a4),(.slice a9 bk.length ai)]∧AA d.I|2=>Pt b2 hh (BU.sl B4) v c.E|3=>Sl b2 hh B4 v c.E|4=>v=vI (↑c.E.length:Int)∧AA (↑c.E.length:Int)|5=>fI b2 ew AC 51 (List.replicate ((↑c.E.length:Int):Int).toNat ((⟨0,0⟩:AB):AB)) v hh|6=>True|7=>RP ew 106 [.string ByteArray.empty,vN,vI 0,vN,vN,vN,vN,vN,vN,vN,vI 0,vI 0,vN,vN,vN,vN] v hh|_=>False) [[],[],[],[(2,26)],[(3,27)],[(4,28)],[(0,24),(1,25),(5,29)],[],[]] [(0,24),(1,25),(5,29),(6,30),(7,13)] mo (by kernel_rfl) [10,7,6,5,3,4] O (by kernel_rfl) (by kernel_rfl) (by kernel_rfl) O (kp [10,7,6,5,3,4] O) (λi v h1 h2 o1 o2 y=>?_) (by kernel_rfl) (bU O (NY (T:=106) O Qd)) ?_ ?_ ?_
 ·match i,y with
   |0,y=>exact Rd.mono y (o2.ext λb hb=>vB (j.1 b hb) o1.siz)
   |1,y|4,y|6,y=>exact y
   |2,y=>exact NK.mono y (o2.ext λb hb=>vB (j.1 b hb) o1.siz)
   |3,y=>exact Sl.mono' y (o2.ext λb hb=>vB (j.1 b hb) o1.siz)
   |5,y=>exact y.mono j.1 o2
   |7,y=>exact y.mono o2
   |_+8,y=>exact y.elim
 ·exact trivial
 ·refine BF.cons O O O ?_ ?_
  ·intro mq hh o;have b3:=o.st j;have e0:=k6.nw;obtain⟨hu,_,e1⟩:=e0.lv;refine AU ?_;exact B0 e1
  refine BF.cons O O O EY (BF.cons O O O ?_ ?_)
  ·intro mq hh o;have b3:=o.st j;have e2:=k6.nw;have e3:=e2.fl Ck;refine AU ?_;exact B0 e3
  refine BF.cons O O O ?_ ?_
  ·intro mq hh o;intro e4 bp;have b3:=o.st j;have bp:Pt _ _ (BU.sl B4) e4 c.E:=bp;obtain⟨hv,_,e6⟩:=bp.ll;refine AU ?_;exact B0 e6
  refine BF.cons O O O ?_ ?_
  ·intro mq hh o;intro e7 bq;have b3:=o.st j;have bq:Sl _ _ B4 e7 c.E:=bq;have e8:=bq.le;refine AU ?_;exact B0 ⟨O,(M0 e8)⟩
  refine BF.nw O O O (λ_ _ o _ e9=>by obtain⟨rfl,hx⟩:=e9;exact nE (r:=AC) (zx:=(⟨0,0⟩:AB)) Nw O ⟨O,by unfold AB.ok AA;simp [IntKind.has,IntKind.min,IntKind.max,IntKind.bits,IntKind.signed]⟩ O O ez O O o j.1 λv' h' o' r' f'=>EB o' ⟨r',f'⟩) ?_;refine BF.z [24,25,29] O O O (by kernel_rfl) ?_ ?_
  ·intro mq hh o;intro fa br hy fb hz ce;have b3:=o.st j;have br:Rd _ _ B7 fa c:=br;obtain⟨rfl,h0⟩:=fb;obtain⟨fc,b4,rfl,ce⟩:=ce;refine AU ?_;obtain⟨h4,h5,h6,h7,h8,h9,ia,ib,rfl,ic,fd,ie,fe,ff,fg,fh,fi,fj,fk,ig⟩:=B7.ex br;obtain⟨dg,b5,rfl,ih⟩:=(fd).len;obtain⟨dh,b6,rfl,ii⟩:=(fe).len;obtain⟨di,b7,rfl,ij⟩:=(ff).len;obtain⟨dj,b8,rfl,ik⟩:=(fg).len;obtain⟨dk,b9,rfl,il⟩:=(fh).len;obtain⟨dl,ca,rfl,im⟩:=(fi).len;obtain⟨dm,cb,rfl,io⟩:=(fj).len;obtain⟨dn,cc,rfl,ip⟩:=(fk).len;refine B6 (cs:=[.string c.M,(.slice dg c.Aq.length b5),vI c.S,(.slice dh c.E.length b6),(.slice di c.D.length b7),(.slice dj c.Ad.length b8),(.slice dk c.Ab.length b9),(.slice dl c.Ar.length ca),(.slice dm c.At.length cb),(.slice dn c.As.length cc),vI c.T,vI d.I,(.slice ac ab.length A),(.slice bo d.N.length a4),(.slice a9 bk.length ai),(.slice (some ⟨fc,0,none⟩) (List.replicate ((↑c.E.length:Int):Int).toNat ((⟨0,0⟩:AB):AB)).length b4)]) iQ O O O (AU ?_);exact B0 ⟨trivial,O,O⟩
  exact BF.al O iG O O (BF.skip (by kernel_rfl) (trivial))
 intro ir fm fn bs it fo iu fp fq iv iw fr dp dq;obtain⟨fs,cd,rfl,ft,fu,fv⟩:=fp;obtain⟨C,rfl,fw,fx,fy⟩:=fr;have dr:=(SB.cons (Y2 (SB.nil j fm) ft fu fv vD) fw fx fy (pH (dp.of_ (s:=13) (s':=29) (by kernel_rfl) O O O O) vD)).st;have bs:Rd _ _ B7 fn c:=bs;obtain⟨rfl,ba⟩:=fo;obtain⟨iy,iz,i0,i1,i2,i3,i4,i5,rfl,bb,cf,bc,cg,ch,ci,cj,ck,cl,cm,be⟩:=B7.ex bs;obtain⟨aj,G,rfl,i6⟩:=(cf).len;obtain⟨ak,H,rfl,i7⟩:=(cg).len;obtain⟨am,J,rfl,i8⟩:=(ch).len;obtain⟨an,K,rfl,i9⟩:=(ci).len;obtain⟨ao,Q,rfl,ja⟩:=(cj).len;obtain⟨ap,U,rfl,jb⟩:=(ck).len;obtain⟨aq,V,rfl,jc⟩:=(cl).len;obtain⟨ar,W,rfl,jd⟩:=(cm).len;obtain rfl:fq=Value.agg #[.string c.M,(.slice aj c.Aq.length G),vI c.S,(.slice ak c.E.length H),(.slice am c.D.length J),(.slice an c.Ad.length K),(.slice ao c.Ab.length Q),(.slice ap c.Ar.length U),(.slice aq c.At.length V),(.slice ar c.As.length W),vI c.T,vI d.I,(.slice ac ab.length A),(.slice bo d.N.length a4),(.slice a9 bk.length ai),(.slice (some ⟨fs,0,none⟩) (List.replicate ((↑c.E.length:Int):Int).toNat ((⟨0,0⟩:AB):AB)).length cd)]:=(uX (dq _ vW 30 _ (by kernel_rfl) O O)).symm;refine AW O O O O ty_106.1 O dr .head O λje ds F=>AU ?_;refine Ej ?_;have cn:=hd.nw;obtain⟨jf,_,fz⟩:=cn.lv;refine AU ?_;have dt:=ds.sel [0,2,1,0,0,0] 0 O;have co:=cf.mono' F;have cp:=cg.mono' F;have cq:=ch.mono' F;have cr:=ci.mono' F;have ct:=cj.mono' F;have cu:=ck.mono' F;have cv:=cl.mono' F;have cw:=cm.mono' F;have cx:=ey.nw;have f0:=a2.nw;refine GA E O O O qL O (λcy du=>Pz (p0_w:=(⟨c,(⟨d.I,ab,d.N,bk⟩:BV),(List.replicate ((↑c.E.length:Int):Int).toNat ((⟨0,0⟩:AB):AB))⟩:BX)) dt bb co bc cp cq cr ct cu cv cw be ba cx fz f0 du) λcy E jg jh ji q p=>?_;obtain⟨jj,rfl,dv⟩:=p;refine AU ?_;refine Ej (AU ?_);have cz:=co.mono' q;have c0:=cp.mono' q;have c1:=cq.mono' q;have c2:=cr.mono' q;have c3:=ct.mono' q;have c4:=cu.mono' q;have c5:=cv.mono' q;have c6:=cw.mono' q;have f1:=cx.mono' q;have f2:=a3.mono' ((e5.trans EX).trans q);refine GA E O O O qK O (λg dw=>N7 (p0_w:=(⟨c,(⟨d.I,ab,d.N,cy⟩:BV),(List.replicate ((↑c.E.length:Int):Int).toNat ((⟨0,0⟩:AB):AB))⟩:BX)) dv bb cz bc c0 c1 c2 c3 c4 c5 c6 be ba f1 f2 dw) λg E jk bt jl jm p=>?_;obtain⟨f3,ad,X,rfl,dx⟩:=p;have f4:=k6.nw;refine AU ?_;obtain⟨dy,E⟩:=RM E;refine Tc (r:=AC) (zx:=(⟨0,0⟩:AB)) Nw O ⟨O,by unfold AB.ok AA;simp [IntKind.has,IntKind.min,IntKind.max,IntKind.bits,IntKind.signed]⟩ O O dy O O dx λY bu dz f5=>?_;have jn:=f4.mono f5;refine AU ?_;refine AQ (λa w=>∃(bv:List AB) (ay:Value) (bf:List AB) (az:Value) (bg:List AZ),IV B bt bu (67,[]) a w [(14,Y),(13,vP C 0),(10,vP bj 0)] (OS AC 51 ay bf::OS BS 93 az bg::OS AC 51 Y bv::Bx C 106 [.string c.M,(.slice aj c.Aq.length G),vI c.S,(.slice ak c.E.length H),(.slice am c.D.length J),(.slice an c.Ad.length K),(.slice ao c.Ab.length Q),(.slice ap c.Ar.length U),(.slice aq c.At.length V),(.slice ar c.As.length W),vI c.T,vI d.I,ay,az,ad,X]::OS AM 97 ad g.2.1::OS AC 51 X g.2.2::Bx bj 36 [vI 0,vN,vN,vN]::L) λ_ _=>E0 N d g bv bf bg=some r) ?_ ?_
 ·refine BJ (λn1=>λa w=>∃(Z:Int) (af:List AB) (bh:Value) (ag:List AB) (bi:Value) (ah:List AZ),IV B bt bu (67,[]) a w [(42,vI (↑c.E.length:Int)),(14,Y),(13,vP C 0),(10,vP bj 0),(7,ep),(43,vI Z)] (OS AC 51 bh ag::OS BS 93 bi ah::OS AC 51 Y af::Bx C 106 [.string c.M,(.slice aj c.Aq.length G),vI c.S,(.slice ak c.E.length H),(.slice am c.D.length J),(.slice an c.Ad.length K),(.slice ao c.Ab.length Q),(.slice ap c.Ar.length U),(.slice aq c.At.length V),(.slice ar c.As.length W),vI c.T,vI d.I,bh,bi,ad,X]::OS AM 97 ad g.2.1::OS AC 51 X g.2.2::Bx bj 36 [vI 0,vN,vN,vN]::L) λ_ _=>AA Z∧Ez N c d a1 g (E0 N d g) n1 Z af ag ah=some r) N ?_ ?_ ?_
  ·intro aa ww hf hw;have d0:=dz.sel [2,2,0,0,0,0,0] 1 O;exact⟨0,(List.replicate ((↑c.E.length:Int):Int).toNat ((⟨0,0⟩:AB):AB)),(.slice ac ab.length A),ab,f3,g.1,_,_,hf.sub (kp [42,14,13,10,7,43] O),hw,d0,(Cc.refl bt bu),(iq (n:=0) O),E⟩
  ·rintro aa ww ⟨_,_,_,_,_,_,_,_,_,_,_,_,_,E⟩;rw[Ez] at E;cases E
  rintro n1 aa ww ⟨Z,af,bh,ag,bi,ah,jo,jp,hf,hw,bw,f6,c7,E⟩;refine AI ?_ hf hw;clear hf hw ww aa;rw[Ez] at E;refine AU ?_;refine AE O E (λf7 E=>?_) (λf7 E=>?_)
  ·refine AU ?_;refine BQ (AU ?_);refine Ej ?_;have f8:=cn.nw;have f9:=f8.fl Kw;obtain⟨jq,_,ga⟩:=f9.ll;refine AU ?_;have d1:=bw.sel [3,0,0,1,1,0,0] 0 O;have c8:=cz.nw;have c9:=c0.nw;have da:=c1.nw;have db:=c2.nw;have dc:=c3.nw;have dd:=c4.nw;have de:=c5.nw;have df:=c6.nw;refine GA E O O O qI O (λgb d2=>P2 (p0_w:=(⟨c,(⟨d.I,ag,ah,g.2.1⟩:BV),g.2.2⟩:BX)) d1 bb c8 bc c9 da db dc dd de df be ba c7 ga d2) λgb E jr js jt ju p=>?_;have d3:=p;obtain⟨jv,d4,jw,gc⟩:=d3.pubs .head;have ge:=c8.nw;have gf:=c9.nw;have gg:=da.nw;have gh:=db.nw;have gi:=dc.nw;have gj:=dd.nw;have gk:=de.nw;have gl:=df.nw;refine GA E O O O qJ O (λa0 d5=>P1 (p0_w:=(⟨c,(⟨d.I,ag,ah,g.2.1⟩:BV),g.2.2⟩:BX)) d4 bb ge bc gf gg gh gi gj gk gl be ba c7 gc d5) λa0 E jx jy jz j0 p=>?_;obtain⟨gm,gn,rfl,⟨gp,gq⟩,bx⟩:=p;refine AU ?_;obtain⟨j1,d6,E⟩:=bd E;refine CS bx (mt (mt (mt (mt (mt mh))))) O O sl_32.1 d6 O λj2 d7=>AU ?_;obtain⟨gr,d8,E⟩:=bd E;refine JD (r:=AC) (l:=af) (i:=Z) (x:=gr) O O (AC.mk (x:=a0.1) ⟨gp,gq⟩) d7 d8 QD.id ty_51.1 CE bx (.tail (.tail (.tail (.tail (.tail .head))))) λj3 d9 j4=>AU ?_;refine B3 (AU ?_);refine WF.nil (λaa ww hf hw=>?_);have eb:=d9.sel [1,1,3,0,0,0,0] 0 O;exact⟨(BR (Z+1)),(upd af Z a0.1),gm,a0.2.1,gn,a0.2.2,_,_,hf.sub (kp [42,14,13,10,7,43] O),hw,eb,EX,(B1 _),E⟩
  refine WF.exit O (λaa ww hf hw=>?_);exact⟨af,bh,ag,bi,ah,_,_,hf.sub (kp [14,13,10] O),hw,bw,f6,E⟩
 rintro aa ww ⟨bv,ay,bf,az,bg,j5,j6,hf,hw,ec,j7,E⟩;refine AI ?_ hf hw;clear hf hw ww aa;rw[E0] at E;refine AU ?_;refine Ic (cs':=[.string c.M,(.slice aj c.Aq.length G),vI c.S,(.slice ak c.E.length H),(.slice am c.D.length J),(.slice an c.Ad.length K),(.slice ao c.Ab.length Q),(.slice ap c.Ar.length U),(.slice aq c.At.length V),(.slice ar c.As.length W),vI c.T,vI (BR (d.I+1)),ay,az,ad,X]) O O O O ty_3.1 O ec (.tail (.tail (.tail .head))) O O λj8 ed j9=>AU ?_;refine Ro (kp [14,13,10] O) (U1 (m:=[(14,Y),(13,vP C 0),(10,vP bj 0)]) 5 [6,7] [4] [2,3] [] (λi v hh=>match i with|0=>v=vP C 11|1=>v= .agg #[vI (BR (d.I+1)),ay,az,ad]∧AA (BR (d.I+1))|2=>v=vP C 15|3=>v=X|4=>v=Y|_=>False) [[],[(0,62)],[],[(2,64)],[],[],[],[]] [(1,63),(4,66)] mo (by kernel_rfl) [14,13,10] O (by kernel_rfl) (by kernel_rfl) (by kernel_rfl) O O (kp [14,13,10] O) MO (by kernel_rfl) Qd ?_ ?_ ?_)
 ·refine NJ.cons [] (by kernel_rfl) O O (by kernel_rfl) ?_ ?_
  ·intro mq hh o;intro a hf;exact⟨Y,Kx hf O,O⟩
  exact trivial
 ·exact BF.cons O O O EY (BF.cons O O O EY (BF.cons O O O EY (BF.cons O O O EY (BF.cons O O O EY (BF.skip (by kernel_rfl) (BF.skip (by kernel_rfl) (BF.skip (by kernel_rfl) (trivial))))))))
 intro ho ka gs kb gu kc gv hp;have au:=(SB.nil ed gs).st;obtain⟨rfl,gw⟩:=gu;cases gv;refine Hv O O O (K9 O (K9 (au.osone mh) (K9 (au.osone (mt mh)) (K9 (au.osone (mt (mt (mt (mt mh))))) Ug)))) ty_36.1 O au (.tail (.tail (.tail (.tail (.tail (.tail .head)))))) O λkd ee ke=>Wz ⟨λi v hh=>match i with|2=>v=vP C 15|3=>v=X|_=>False,[[],[],[],[(2,64)],[],[],[],[]],[(3,65)],_,[66,63,14,13,10],O,by kernel_rfl,by kernel_rfl,by kernel_rfl,by kernel_rfl,O,λi hi v y=>?_,λi v h1 h2 o1 o2 y=>?_,?_,?_⟩
 ·rcases uS.1 hi with rfl|hi
  ·exact y
  rcases uS.1 hi with rfl|hi
  ·exact y
  cases hi
 ·match i,y with
   |0,y|1,y=>exact y.elim
   |2,y|3,y=>exact y
   |_+4,y=>exact y.elim
 ·exact BF.skip (by kernel_rfl) (BF.skip (by kernel_rfl) (BF.cons O O O EY (BF.cons O O O EY (BF.skip (by kernel_rfl) (BF.skip (by kernel_rfl) (BF.skip (by kernel_rfl) (BF.skip (by kernel_rfl) (trivial))))))))
 intro kf gx kg gy;have ef:=gx.st ee;cases gy;refine AU ?_;refine WF.ret (λaa ww hf hw=>?_);obtain⟨kh,eg,ki,gz⟩:=ef.pubs .head;obtain⟨kj,eh,kk,g0⟩:=eg.pubs .head;obtain⟨kl,ei,g1,g2⟩:=eh.pubs (.tail (.tail .head));have bz:=ei.sel [2,0,1] 1 O;have g3:=gz.nw;have g4:=g0.mono' g1;have ej:=bz.drop (.tail (.tail .head));cases E;exact IS hf O hw (GB (K5 hf hw bz O (mt (mt mh)) ty_36.1 O) (GB (KG hf (v:=_) O) (GB (KG hf (v:=_) O) ID))) O EX ⟨_,_,_,O,(DL.mk (x:=(⟨(BR (d.I+1)),bf,bg,g.2.1⟩:BV)) gw g3 g4 g2),ej⟩
def MR (y:St S L h) {a:Value}{i:AB}(d:Rd S h AC a i) {b:Value}{j:AB}(g:Rd S h AC b j) {r:Bool}(E:Jv N i j=some r):
 CD prog 14 #[a,b] S h (λv S' h'=>v= .bool r∧St S' (L) h'):=by
 refine A7 10 func14 O ntmps14 O λB=>?_;rw[Jv] at E;refine AU ?_;refine AT O d CE O y λV W X m z A=>?_;have C:=g.mono z;refine AT O C CE O m λY Z D c n k=>AU ?_;refine WF.rc (.inr ⟨mo,by kernel_rfl⟩) c ?_;have p:=A.mono n;obtain⟨F,_,q⟩:=p.lv;obtain⟨G,_,s⟩:=k.lv;refine AU ?_;refine BB E O O O aI O (λt l h' o=>Nd (St.all h') (q.mono (o.all c.1)) (s.mono (o.all c.1)) l) λt E u=>?_;obtain⟨H,I⟩:=u;obtain⟨J,_,w⟩:=k.lv;refine AU ?_;obtain⟨rfl,⟨K,M⟩⟩:=AC.ex w;refine Rp O O Vx O O O O (AU ?_);exact BD (kp [4] O) λQ x U=>RT
def QV (hs:St S L h) {j:Value}{g:AO}(t:Rd S h BI j g) {k:Value}{d:AH}(u:Rd S h AM k d) {r:Bool}(E:JM N g d=some r):
 CD prog 47 #[j,k] S h (λv S' h'=>v= .bool r∧St S' (L) h'):=by
 refine A7 61 func47 O ntmps47 O λB=>?_;rw[JM] at E;refine AU ?_;refine AT O t CE O hs λq1 S2 h3 ap e5 k6=>?_;have k7:=u.mono e5;refine AT O k7 CE O ap λq8 S9 bv A aq ar=>?_;have C:=k6.mono aq;have au:=C.fl Cv;have D:=au.i;refine AU ?_;refine B6 (cs:=[vI 0,vI g.Y]) Fv O O O (AU ?_);refine BZ EA O A λbw bx F bz=>?_;refine AW O O O O ty_51.1 O F .head O λb0 l b1=>AU ?_;refine WF.rc (.inl O) l ?_;have m:=ar.nw;have av:=m.fl AH.f_Pos;obtain⟨b2,_,aw⟩:=av.lv;refine AU ?_;refine BC E O O O TS O (λG H h' o=>JR (St.all h') (aw.mono (o.all l.1)) H) λG E=>AU ?_;obtain⟨I,b,E⟩:=bd E;refine A6 6 21 (.bool I) ?_ ?_
 ·cases J:(!G)
  ·have b:=H8 J b;have ax:=m.fl AH.f_Pos;obtain⟨b3,_,ay⟩:=ax.lv;refine AU ?_;obtain⟨b4,K,b⟩:=bd b;refine Lp O O O bD O (λh' o=>MR (St.all h') (ay.mono (o.all l.1)) (AC.mk (x:=(⟨0,g.Y⟩:AB)) ⟨(iq (n:=0) O),D⟩) K) (AU ?_);cases b;exact A5 O
  have b:=H7 J b;cases b;exact BO O O
 refine AU ?_;obtain⟨az,c,E⟩:=bd E;refine A6 6 28 (.bool az) ?_ ?_
 ·cases M:I
  ·have c:=H8 M c;have a0:=m.fl AH.f_Target;have a1:=a0.i;refine AU ?_;obtain⟨b5,Q,c⟩:=bd c;refine Lp O O O aG O (λh' o=>N3 (St.all h') (AC.mk (x:=(⟨0,g.Y⟩:AB)) ⟨(iq (n:=0) O),D⟩) a1 Q) (AU ?_);cases c;exact A5 O
  have c:=H7 M c;cases c;exact BO O O
 refine BD (kp [28,3,2] O) λb6 U b7=>AE O E (λa2 E=>?_) (λa2 E=>?_)
 ·exact RT
 refine AU ?_;refine Ej ?_;refine Hb E O O O QB O U (λq V=>JF (St.all _) (iq (n:=0) O) V) λq E b8 b9 ca W cb cc p=>?_;obtain⟨rfl,⟨a3,a4⟩,ba⟩:=p;refine Hb E O O O QB O W (λw X=>JF (St.all _) (iq (n:=1) O) X) λw E cd ce cf Z cg ch p=>?_;obtain⟨rfl,⟨a5,a6⟩,bb⟩:=p;refine BZ EA O Z λci cj aa ck=>BZ EA O aa λcl cm ab cn=>?_;refine AW O O O O ty_51.1 O ab (.tail .head) O λco ac cp=>?_;refine AW O O O O ty_51.1 O ac .head O λcq ad cr=>?_;have ct:=C.nw;refine AU ?_;refine AE O E (λa7 E=>?_) (λa7 E=>?_)
 ·have a8:=m.nw;have ae:=a8.fl AH.f_Open;obtain⟨bc,_,af⟩:=ae.lv;refine AU ?_;obtain⟨rfl,⟨be,bf⟩⟩:=AC.ex af;exact Rp O O Vx O O O O (RT)
 refine AU ?_;refine WF.rc (.inr ⟨mo,by kernel_rfl⟩) ad ?_;have s:=m.nw;have ag:=s.fl AH.f_Open;obtain⟨bg,_,ah⟩:=ag.lv;refine AU ?_;obtain⟨rfl,⟨bh,bi⟩⟩:=AC.ex ah;refine Rp O O Vx O O O O (AU ?_);refine A6 5 52 (.bool ((R6 d.R.v q.v)||(R6 d.R.v w.v))) ?_ ?_
 ·cases bj:(R6 d.R.v q.v)
  ·have ai:=s.fl AH.f_Open;obtain⟨bk,_,aj⟩:=ai.lv;refine AU ?_;obtain⟨rfl,⟨bl,bm⟩⟩:=AC.ex aj;refine Rp O O Vx O O O O (AU ?_);exact A5 O
  exact BO O O
 refine AU ?_;obtain⟨ak,a,E⟩:=bd E;refine A6 7 60 (.bool ak) ?_ ?_
 ·cases y:((R6 d.R.v q.v)||(R6 d.R.v w.v))
  ·have a:=H8 y a;have am:=s.fl AH.f_Open;obtain⟨bn,_,an⟩:=am.lv;refine AU ?_;obtain⟨bo,z,a⟩:=bd a;refine In O O O aI O (λh' o=>Nd (St.all h') (AC.mk (x:=q) ⟨a3,a4⟩) (AC.mk (x:=w) ⟨a5,a6⟩) z) λao=>?_;obtain⟨bp,bq⟩:=ao;refine AU ?_;obtain⟨rfl,⟨br,bs⟩⟩:=AC.ex an;refine Rp O O Vx O O O O (AU ?_);cases a;exact A5 O
  have a:=H7 y a;cases a;exact BO O O
 refine AU ?_;exact BD (kp [4] O) λbt a9 bu=>RT
def TB (hs:St S L h) {u:Value}{k:AF}(Y:Rd S h B7 u k) {y:Value}{c:BV}(Z:Rd S h DL y c) {r:Bool}(E:Lg N k c=some r):
 CD prog 11 #[u,y] S h (λv S' h'=>v= .bool r∧St S' (L) h'):=by
 refine A7 128 func11 O ntmps11 O λB=>?_;rw[Lg] at E;refine AU ?_;refine AT O Y CE O hs λq1 S2 h3 c0 e5 k6=>?_;have k7:=Z.mono e5;refine AT O k7 CE O c0 λq8 S9 em a3 a4 c1=>?_;have en:=k6.mono a4;have eo:=k6.mono a4;refine AU ?_;refine AE O E (λc2 E=>?_) (λc2 E=>?_)
 ·exact RT
 refine AU ?_;refine B6 (cs:=[vI 0,vI 1125899906842624]) Fv O O O (AU ?_);refine BZ EA O a3 λC ep a5 eq=>?_;refine AW O O O O ty_51.1 O a5 .head O λaj a6 er=>?_;have a7:=c1.nw;have c3:=a7.fl BV.f_Vol;obtain⟨c4,_,c5⟩:=c3.ll;refine AU ?_;refine AQ (λa w=>IV B S9 aj (128,[]) a w [(5,vP C 0),(3,q8),(2,q1)] (Bx C 51 [vI 0,vI 1125899906842624]::L) λ_ _=>GZ N k c=some r) ?_ ?_
 ·refine BJ (λn1=>λa w=>∃(F:Int),IV B S9 aj (128,[]) a w [(41,vI (↑c.K.length:Int)),(40,c4),(5,vP C 0),(3,q8),(2,q1),(42,vI F)] (Bx C 51 [vI 0,vI 1125899906842624]::L) λ_ _=>AA F∧GX N c (GZ N k c) n1 F=some r) N ?_ ?_ ?_
  ·intro m p d g;exact⟨0,_,_,d.sub (kp [41,40,5,3,2,42] O),g,a6,(Cc.refl S9 aj),(iq (n:=0) O),E⟩
  ·rintro m p ⟨_,_,_,_,_,_,_,_,E⟩;rw[GX] at E;cases E
  rintro n1 m p ⟨F,es,eu,d,g,ab,a8,ev,E⟩;refine AI ?_ d g;clear d g p m;rw[GX] at E;refine AU ?_;refine AE O E (λc6 E=>?_) (λc6 E=>?_)
  ·refine AU ?_;refine BQ (AU ?_);have c7:=c5.mono' a8;refine AN E O O c7 sl_32.1 O λa9 E ew c8=>?_;obtain⟨ey,_,c9⟩:=c8.lv;refine AU ?_;refine BZ EA O ab λez e0 ba da=>?_;have db:=c9.mono da;obtain⟨rfl,⟨bb,bc⟩⟩:=AC.ex db;refine AW O O O O ty_51.1 O ba .head O λe1 be e2=>AU ?_;refine WF.rc (.inl O) be (AU ?_);obtain⟨dc,bf,E⟩:=bd E;refine Lp O O O TS O (λh' o=>JR (St.all h') (AC.mk (x:=a9) ⟨bb,bc⟩) bf) (AU ?_);obtain⟨dd,l,E⟩:=bd E;refine A6 5 54 (.bool dd) ?_ ?_
   ·cases bg:(!dc)
    ·have l:=H8 bg l;refine AU ?_;obtain⟨e3,bh,l⟩:=bd l;refine Lp O O O bD O (λh' o=>MR (St.all h') (AC.mk (x:=a9) ⟨bb,bc⟩) (AC.mk (x:=(⟨0,1125899906842624⟩:AB)) ⟨(iq (n:=0) O),(iq (n:=1125899906842624) O)⟩) bh) (AU ?_);cases l;exact A5 O
    have l:=H7 bg l;cases l;exact BO O O
   refine BD (kp [54,41,40,5,3,2,42] O) λe4 bi e6=>AE O E (λde E=>?_) (λde E=>?_)
   ·exact RT
   refine AU ?_;refine B3 (AU ?_);refine WF.nil (λm p d g=>?_);have bj:=bi.sel [1] 1 O;exact⟨(BR (F+1)),_,_,d.sub (kp [41,40,5,3,2,42] O),g,bj,EX,(B1 _),E⟩
  refine WF.exit O (λm p d g=>?_);exact⟨_,_,d.sub (kp [5,3,2] O),g,ab,a8,E⟩
 rintro m p ⟨ak,G,d,g,am,bk,E⟩;refine AI ?_ d g;clear d g p m;rw[GZ] at E;have z:=a7.mono bk;have bl:=z.fl BV.f_Queue;obtain⟨bm,_,bn⟩:=bl.ll;refine AU ?_;refine AQ (λa w=>IV B ak G (128,[]) a w [(3,q8),(2,q1)] (L) λ_ _=>GY N k c=some r) ?_ ?_
 ·refine BJ (λn3=>λa w=>∃(q:Int),IV B ak G (128,[]) a w [(58,vI (↑c.N.length:Int)),(57,bm),(5,vP C 0),(3,q8),(2,q1),(59,vI q)] (Bx C 51 [vI 0,vI 1125899906842624]::L) λ_ _=>AA q∧GW N k c (GY N k c) n3 q=some r) N ?_ ?_ ?_
  ·intro m p d g;exact⟨0,_,_,d.sub (kp [58,57,5,3,2,59] O),g,am,(Cc.refl ak G),(iq (n:=0) O),E⟩
  ·rintro m p ⟨_,_,_,_,_,_,_,_,E⟩;rw[GW] at E;cases E
  rintro n3 m p ⟨q,dg,dh,d,g,H,ac,di,E⟩;refine AI ?_ d g;clear d g p m;rw[GW] at E;refine AU ?_;refine AE O E (λbo E=>?_) (λbo E=>?_)
  ·refine AU ?_;refine BQ (AU ?_);have bp:=bn.mono' ac;refine AN E O O bp sl_33.1 O λs E dj bq=>?_;obtain⟨dk,_,br⟩:=bq.lv;refine AU ?_;refine BZ W4 O H λdl dm an bs=>AU ?_;have bt:=br.mono bs;obtain⟨rfl,⟨bu,ad,J,M⟩⟩:=BS.ex bt;refine AW O O O O ty_93.1 O an .head O λdn ao dp=>AU ?_;refine WF.rc (.inl O) ao (AU ?_);obtain⟨bv,ap,E⟩:=bd E;refine Lp O O O TS O (λh' o=>JR (St.all h') (AC.mk (x:=s.K) ⟨J,M⟩) ap) (AU ?_);obtain⟨ae,i,E⟩:=bd E;refine A6 6 74 (.bool ae) ?_ ?_
   ·cases af:(!bv)
    ·have i:=H8 af i;refine AU ?_;obtain⟨dq,aq,i⟩:=bd i;refine Lp O O O bD O (λh' o=>MR (St.all h') (AC.mk (x:=s.K) ⟨J,M⟩) (AC.mk (x:=(⟨0,1125899906842624⟩:AB)) ⟨(iq (n:=0) O),(iq (n:=1125899906842624) O)⟩) aq) (AU ?_);cases i;exact A5 O
    have i:=H7 af i;cases i;exact BO O O
   have dr:=z.nw;refine AU ?_;obtain⟨bw,j,E⟩:=bd E;refine A6 8 96 (.bool bw) ?_ ?_
   ·cases ag:((ae||(decide (s.K.A≤0)))||(decide (s.O<c.I)))
    ·have j:=H8 ag j;have bx:=k6.nw;have bz:=bx.fl Ck;obtain⟨ds,_,b0⟩:=bz.ll;have b1:=b0.le;refine AU ?_;refine BC j O O O V9 O (λb2 ar h' o=>Kj (St.all h') ad (M0 b1) ar) λb2 j=>AU ?_;cases j;exact A5 O
    have j:=H7 ag j;cases j;exact BO O O
   refine BD (kp [96,8,9,58,57,5,3,2,59] O) λdt Q du=>AE O E (λb3 E=>?_) (λb3 E=>?_)
   ·exact RT
   refine AU ?_;refine WF.rc (.inr ⟨mo,by kernel_rfl⟩) Q (AU ?_);obtain⟨b4,b,E⟩:=bd E;refine A6 10 109 (.bool b4) ?_ ?_
   ·cases ah:(decide (0<q))
    ·have b:=H8 ah b;cases b;exact BO O O
    have b:=H7 ah b;have b5:=z.nw;have b6:=b5.fl BV.f_Queue;obtain⟨dv,_,b7⟩:=b6.ll;refine AU ?_;refine AN b O O b7 sl_33.1 O λdw b dx b8=>?_;obtain⟨dy,_,b9⟩:=b8.lv;refine AU ?_;obtain⟨dz,au,b⟩:=bd b;refine In O O O gQ O (λh' o=>PJ (St.all h') (b9.mono (o.all Q.1)) (BS.mk (x:=s) ⟨bu,ad,J,M⟩) au) λca=>?_;have d0:=ca;refine AU ?_;cases b;exact A5 O
   refine BD (kp [109,58,57,5,3,2,59] O) λd1 av d2=>AE O E (λcb E=>?_) (λcb E=>?_)
   ·exact RT
   refine AU ?_;refine B3 (AU ?_);refine WF.nil (λm p d g=>?_);have aw:=av.sel [1] 1 O;exact⟨(BR (q+1)),_,_,d.sub (kp [58,57,5,3,2,59] O),g,aw,EX,(B1 _),E⟩
  refine WF.exit O (λm p d g=>?_);have ax:=H.drop .head;exact⟨_,_,d.sub (kp [3,2] O),g,ax,ac,E⟩
 rintro m p ⟨U,V,d,g,ay,cc,E⟩;refine AI ?_ d g;clear d g p m;rw[GY] at E;have cd:=z.mono cc;have ce:=cd.fl BV.f_Links;obtain⟨cf,_,cg⟩:=ce.ll;refine AU ?_;refine AQ (λa w=>IV B U V (128,[]) a w [] (L) λ_ _=>HE N=some r) ?_ ?_
 ·refine BJ (λn5=>λa w=>∃(t:Int),IV B U V (128,[]) a w [(113,vI (↑c.D.length:Int)),(112,cf),(2,q1),(114,vI t)] (L) λ_ _=>AA t∧GV N k c (HE N) n5 t=some r) N ?_ ?_ ?_
  ·intro m p d g;exact⟨0,_,_,d.sub (kp [113,112,2,114] O),g,ay,(Cc.refl U V),(iq (n:=0) O),E⟩
  ·rintro m p ⟨_,_,_,_,_,_,_,_,E⟩;rw[GV] at E;cases E
  rintro n5 m p ⟨t,d3,d4,d,g,W,ai,d5,E⟩;refine AI ?_ d g;clear d g p m;rw[GV] at E;refine AU ?_;refine AE O E (λch E=>?_) (λch E=>?_)
  ·refine AU ?_;refine BQ (AU ?_);have ci:=cg.mono' ai;refine AN E O O ci sl_34.1 O λcj E d6 ck=>?_;obtain⟨d7,_,cl⟩:=ck.lv;refine AU ?_;refine BZ Tw O W λd8 d9 az cm=>AU ?_;have cn:=cl.mono cm;obtain⟨rfl,⟨co,cp,cq,cr,ct⟩⟩:=AM.ex cn;refine AW O O O O ty_97.1 O az .head O λea X eb=>AU ?_;refine WF.rc (.inr ⟨mo,by kernel_rfl⟩) X ?_;have cu:=k6.nw;have cv:=cu.fl AF.f_Links;obtain⟨ec,_,cw⟩:=cv.ll;refine AU ?_;refine AN E O O cw sl_24.1 O λed E ee cx=>?_;obtain⟨ef,_,cy⟩:=cx.lv;refine AU ?_;obtain⟨eg,a0,E⟩:=bd E;refine Lp O O O qP O (λh' o=>QV (St.all h') (cy.mono (o.all X.1)) (AM.mk (x:=cj) ⟨co,cp,cq,cr,ct⟩) a0) (AU ?_);refine BD (kp [126,113,112,2,114] O) λeh a1 ei=>AE O E (λcz E=>?_) (λcz E=>?_)
   ·exact RT
   refine AU ?_;refine B3 (AU ?_);refine WF.nil (λm p d g=>?_);have a2:=a1.drop .head;exact⟨(BR (t+1)),_,_,d.sub (kp [113,112,2,114] O),g,a2,EX,(B1 _),E⟩
  refine WF.exit O (λm p d g=>?_);exact⟨_,_,d.sub Ob,g,W,ai,E⟩
 rintro m p ⟨ej,ek,d,g,df,el,E⟩;refine AI ?_ d g;clear d g p m;rw[HE] at E;exact RT
end Go.Proofs.YtibidnaedddfdaaGreat
