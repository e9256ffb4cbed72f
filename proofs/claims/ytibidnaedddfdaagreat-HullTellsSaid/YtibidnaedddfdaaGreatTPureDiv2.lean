import Derived.Test.YtibidnaedddfdaaGreatTFacts
import Derived.Test.YtibidnaedddfdaaGreatTForms
import Derived.Test.YtibidnaedddfdaaGreatTWalk0
import Derived.Test.YtibidnaedddfdaaGreatTWalk6
import Derived.Test.YtibidnaedddfdaaGreatTWalk7
import Derived.Test.YtibidnaedddfdaaGreatTWalk10
import Derived.Test.YtibidnaedddfdaaGreatTWalk13
import Derived.Test.YtibidnaedddfdaaGreatTWalk16
import Derived.Test.YtibidnaedddfdaaGreatTWalk18
import Derived.Test.YtibidnaedddfdaaGreatTWalk20
import Derived.Test.YtibidnaedddfdaaGreatTWalk2
import Derived.Lib.Mul64
namespace Go.Proofs.YtibidnaedddfdaaGreat
set_option linter.all false
open Go.RowKit
open Go.Proofs.Tryz
set_option maxRecDepth 10000
set_option maxHeartbeats 2000000
variable {N:Nat}{S:Nat→Prop}{L:List HP}{h:A4}
def QM (hs:St S L h) {az:Value}{b:AH}(bi:Rd S h B5 az b) {a0:Value}{c:AX}(bj:Rd S h DD a0 c) {aj:Value}{au:Cn}(a6:Rd S h Gr aj au) {I:Value}{ak:(List Bool)}(av:Sl S h BX.bool I ak) {J:Value}{am:(List AB)}(aw:Sl S h AC J am) {r:AX×(List AB)×(List AB)}(E:Jm N b c au ak am=some r):
 CA prog 28 #[az,a0,aj,I,J] S h (λv S' h'=>∃c7 c8 c9:Value,v= .tuple #[c7,c8,c9]∧Rd S' h' DD c7 r.1∧St S' (OS AC 51 c8 r.2.1::OS AC 51 c9 r.2.2::L) h'):=by
 refine A8 75 func28 O ntmps28 O λB=>?_;rw[Jm] at E;refine AU ?_;refine A6 O bi CE O hs λq1 S2 h3 ez e5 k6=>?_;have k7:=bj.mono e5;refine A6 O k7 CE O ez λq8 S9 gz da g0 e0=>?_;have e1:=a6.nw;refine A6 O e1 CE O da λe2 g1 g2 db g3 e3=>BZ Q6 O db λa7 g4 dc g5=>?_;have dd:=k6.nw;obtain⟨g6,_,e4⟩:=dd.lv;have de:=e0.nw;obtain⟨g7,_,e6⟩:=de.lv;refine AU ?_;obtain⟨g8,g9,ha,hb,hc,hd,he,hg,rfl,b7,df,b8,dg,dh,di,dj,dk,dl,dm,b9⟩:=B5.ex e4;obtain⟨hj,hk,hl,rfl,ca,e7,dn,e8⟩:=DD.ex e6;obtain⟨Q,k,rfl,hm⟩:=(df).len;obtain⟨V,q,rfl,hn⟩:=(dg).len;obtain⟨W,s,rfl,ho⟩:=(dh).len;obtain⟨X,t,rfl,hp⟩:=(di).len;obtain⟨Y,u,rfl,hq⟩:=(dj).len;obtain⟨ab,y,rfl,ht⟩:=(dk).len;obtain⟨ac,z,rfl,hu⟩:=(dl).len;obtain⟨ad,C,rfl,hv⟩:=(dm).len;obtain⟨dp,cb,rfl,hx⟩:=(e7).len;obtain⟨a8,ax,rfl,hy⟩:=(dn).len;obtain⟨bl,a9,rfl,hz⟩:=(e8).len;refine CT (cs:=[.string b.O,(.slice Q b.Z.length k),vI b.T,(.slice V b.F.length q),(.slice W b.D.length s),(.slice X b.Ak.length t),(.slice Y b.Ap.length u),(.slice ab b.Aq.length y),(.slice ac b.As.length z),(.slice ad b.Ar.length C),vI b.U,vI c.H,(.slice dp c.G.length cb),(.slice a8 c.E.length ax),(.slice bl c.D.length a9),vN]) jR O O O (AU ?_);refine OI O O O dc λj h0 dq h4=>AU ?_;refine UN (r:=AC) Ng O O dq λh5 h6 dr fb=>?_;have bm:=de.nw;have ds:=bm.fl AX.f_Vol;obtain⟨fc,_,dt⟩:=ds.ll;refine AU ?_;obtain⟨cc,E⟩:=Qw E;refine Lt (r:=AC) (l:=([]:List AB)) (xs:=c.G) O O Ng O (Sl.src dt) O cc O dr (λ_=> .head) λfd fe ba ff=>AU ?_;obtain⟨ay,ah,rfl,fg⟩:=ba.oslen mh;refine HH (cs':=[.string b.O,(.slice Q b.Z.length k),vI b.T,(.slice V b.F.length q),(.slice W b.D.length s),(.slice X b.Ak.length t),(.slice Y b.Ap.length u),(.slice ab b.Aq.length y),(.slice ac b.As.length z),(.slice ad b.Ar.length C),vI b.U,vI c.H,(.slice ay (([]:List AB)++c.G).length ah),(.slice a8 c.E.length ax),(.slice bl c.D.length a9),vN]) O O O O ty_32.1 O ba (.tail .head) O O λfh cd fi=>AU ?_;refine UN (r:=AJ) S3 O O cd λfj fk ce fm=>?_;have du:=bm.nw;have dv:=du.fl AX.f_Links;obtain⟨fn,_,dw⟩:=dv.ll;refine AU ?_;obtain⟨cf,E⟩:=Qw E;refine Lt (r:=AJ) (l:=([]:List AF)) (xs:=c.D) O O S3 O (Sl.src dw) O cf O ce (λ_=> .head) λfo fp bb fq=>AU ?_;obtain⟨cg,bk,rfl,fr⟩:=bb.oslen mh;refine HH (cs':=[.string b.O,(.slice Q b.Z.length k),vI b.T,(.slice V b.F.length q),(.slice W b.D.length s),(.slice X b.Ak.length t),(.slice Y b.Ap.length u),(.slice ab b.Aq.length y),(.slice ac b.As.length z),(.slice ad b.Ar.length C),vI b.U,vI c.H,(.slice ay (([]:List AB)++c.G).length ah),(.slice a8 c.E.length ax),(.slice cg (([]:List AF)++c.D).length bk),vN]) O O O O ty_34.1 O bb (.tail (.tail .head)) O O λfs ch ft=>AU ?_
 refine Es ?_;have bn:=e3.nw;obtain⟨fu,_,dx⟩:=bn.lv;refine AU ?_;have ci:=ch.nil AC 51;have cj:=ci.sel [3,2,1,0,0] 0 O;have bo:=df.nw;have bp:=dg.nw;have bq:=dh.nw;have br:=di.nw;have bs:=dj.nw;have bt:=dk.nw;have bu:=dl.nw;have bv:=dm.nw;have bw:=dn.nw;have dy:=av.nw;refine E4 E O O O sC O (λbx ck=>Nk (p0_w:=(⟨b,(⟨c.H,(([]:List AB)++c.G),c.E,(([]:List AF)++c.D)⟩:AX),([]:List AB)⟩:AK)) cj b7 bo b8 bp bq br bs bt bu bv b9 ca bw dx dy ck) λbx E fv fw fx g p=>?_;obtain⟨fy,rfl,cl⟩:=p;refine AU ?_;refine Es (AU ?_);have bz:=bo.mono' g;have b0:=bp.mono' g;have b1:=bq.mono' g;have b2:=br.mono' g;have b3:=bs.mono' g;have b4:=bt.mono' g;have b5:=bu.mono' g;have b6:=bv.mono' g;have dz:=bw.mono' g;have d0:=aw.mono' ((e5.trans EX).trans g);refine E4 E O O O sB O (λd cm=>Nj (p0_w:=(⟨b,(⟨c.H,(([]:List AB)++c.G),c.E,bx⟩:AX),([]:List AB)⟩:AK)) cl b7 bz b8 b0 b1 b2 b3 b4 b5 b6 b9 ca dz d0 cm) λd E fz bc be f0 p=>?_;obtain⟨d1,ae,K,rfl,cn⟩:=p;refine AU ?_;refine AN (λa w=>∃(af:Value) (bf:List AB) (an:Value) (a1:List AB) (ao:Value) (a2:List AY),IV B bc be (75,[]) a w [(13,vP j 0),(10,vP a7 0),(14,af)] (OS AC 51 af bf::OS AC 51 an a1::OS BU 93 ao a2::Bx j 141 [.string b.O,(.slice Q b.Z.length k),vI b.T,(.slice V b.F.length q),(.slice W b.D.length s),(.slice X b.Ak.length t),(.slice Y b.Ap.length u),(.slice ab b.Aq.length y),(.slice ac b.As.length z),(.slice ad b.Ar.length C),vI b.U,vI c.H,an,ao,ae,K]::OS AJ 97 ae d.2.1::OS AC 51 K d.2.2::Bx a7 36 [vI 0,vN,vN,vN]::L) λ_ _=>Ec N c d bf a1 a2=some r) ?_ ?_
 ·refine BA (λn1=>λa w=>∃(a3:Value) (ag:List AB) (ap:Int) (a4:Value) (aq:List AB) (a5:Value) (ar:List AY),IV B bc be (75,[]) a w [(13,vP j 0),(10,vP a7 0),(7,e2),(5,q1),(14,a3),(15,vI ap)] (OS AC 51 a3 ag::OS AC 51 a4 aq::OS BU 93 a5 ar::Bx j 141 [.string b.O,(.slice Q b.Z.length k),vI b.T,(.slice V b.F.length q),(.slice W b.D.length s),(.slice X b.Ak.length t),(.slice Y b.Ap.length u),(.slice ab b.Aq.length y),(.slice ac b.As.length z),(.slice ad b.Ar.length C),vI b.U,vI c.H,a4,a5,ae,K]::OS AJ 97 ae d.2.1::OS AC 51 K d.2.2::Bx a7 36 [vI 0,vN,vN,vN]::L) λ_ _=>AA ap∧D5 N b c au d (Ec N c d) n1 ag ap aq ar=some r) N ?_ ?_ ?_
  ·intro aa ww hf hw;have co:=cn.nil AC 51;have cp:=co.sel [0,1,1,0,0,0,0] 0 O;exact⟨(vN),([]:List AB),0,(.slice ay (([]:List AB)++c.G).length ah),(([]:List AB)++c.G),d1,d.1,_,_,hf.sub (kp [13,10,7,5,14,15] O),hw,cp,(CX.refl bc be),(iq (n:=0) O),E⟩
  ·rintro aa ww ⟨_,_,_,_,_,_,_,_,_,_,_,_,_,_,E⟩;rw[D5] at E;cases E
  rintro n1 aa ww ⟨a3,ag,ap,a4,aq,a5,ar,f1,f2,hf,hw,bg,d2,d3,E⟩;refine AI ?_ hf hw;clear hf hw ww aa;rw[D5] at E;have f3:=dd.nw;refine AU ?_;refine AE O E (λd4 E=>?_) (λd4 E=>?_)
  ·refine AU ?_;refine BG (Es ?_);have d5:=bn.nw;obtain⟨f4,_,d6⟩:=d5.lv;refine AU ?_;have cq:=bg.sel [3,1,1,1,1,0,0] 0 O;have d7:=bz.nw;have d8:=b0.nw;have d9:=b1.nw;have ea:=b2.nw;have eb:=b3.nw;have ec:=b4.nw;have ed:=b5.nw;have ee:=b6.nw;refine E4 E O O O sA O (λM cr=>Nl (p0_w:=(⟨b,(⟨c.H,aq,ar,d.2.1⟩:AX),d.2.2⟩:AK)) cq b7 d7 b8 d8 d9 ea eb ec ed ee b9 ca d3 d6 cr) λM E f5 f6 f7 f8 p=>?_;obtain⟨ef,eg,rfl,⟨eh,ei⟩,ct⟩:=p;refine IB (cs:=[vI M.1.B,vI M.1.A]) Ng O O O O O O O ct λf9 ga cu gb=>?_;obtain⟨cv,E⟩:=Qw E;refine LA (r:=AC) (l:=ag) (xs:=([M.1]:List AB)) O O Ng O mh ⟨_,_,O,⟨O,⟨eh,ei⟩⟩,O⟩ O O cv O cu (λ_=>(.tail (.tail (.tail (.tail (.tail (.tail .head))))))) λej gc cw ge=>?_;have cx:=cw.drop .head;refine AU ?_;refine BP (AU ?_);refine WF.nil (λaa ww hf hw=>?_);have cy:=cx.sel [5,1,1,0,0,0,0] 0 O;exact⟨ej,(ag++([M.1]:List AB)),(BV (ap+1)),ef,M.2.1,eg,M.2.2,_,_,hf.sub (kp [13,10,7,5,14,15] O),hw,cy,EX,(BY _),E⟩
  refine WF.exit O (λaa ww hf hw=>?_);exact⟨a3,ag,a4,aq,a5,ar,_,_,hf.sub (kp [13,10,14] O),hw,bg,d2,E⟩
 rintro aa ww ⟨af,bf,an,a1,ao,a2,gf,gg,hf,hw,cz,gh,E⟩;refine AI ?_ hf hw;clear hf hw ww aa;rw[Ec] at E;refine AU ?_;refine HH (cs':=[.string b.O,(.slice Q b.Z.length k),vI b.T,(.slice V b.F.length q),(.slice W b.D.length s),(.slice X b.Ak.length t),(.slice Y b.Ap.length u),(.slice ab b.Aq.length y),(.slice ac b.As.length z),(.slice ad b.Ar.length C),vI b.U,vI (BV (c.H+1)),an,ao,ae,K]) O O O O ty_3.1 O cz (.tail (.tail (.tail .head))) O O λgi c0 gj=>AU ?_;refine Nn (kp [13,10,14] O) (Vj (m:=[(13,vP j 0),(10,vP a7 0),(14,af)]) 9 [10,11] [4,8] [5,6,7] [] (λi v hh=>match i with|0=>v=vP j 0|1=>v=vP j 0|2=>v=vP j 11|3=>v= .agg #[vI (BV (c.H+1)),an,ao,ae]∧AA (BV (c.H+1))|4=>v=vP j 0|5=>v=vP j 0|6=>v=vP j 15|7=>v=K|8=>v=af|_=>False) [[],[(0,66)],[(1,67)],[(2,68)],[],[(4,70)],[(5,71)],[(6,72)],[],[],[],[]] [(3,69),(4,70),(8,74)] mo (by kernel_rfl) [13,10,14] O (by kernel_rfl) (by kernel_rfl) (by kernel_rfl) O O (kp [13,10,14] O) MO (by kernel_rfl) QT ?_ ?_ ?_)
 ·refine Nt.cons [] (by kernel_rfl) O O (by kernel_rfl) ?_ ?_
  ·intro mq hh o;intro a hf;exact⟨vP j 0,LP hf O,O⟩
  refine Nt.cons [] (by kernel_rfl) O O (by kernel_rfl) ?_ ?_
  ·intro mq hh o;intro a hf;exact⟨af,LP hf O,O⟩
  exact trivial
 ·exact BD.cons O O O DM (BD.cons O O O DM (BD.cons O O O DM (BD.cons O O O DM (BD.cons O O O DM (BD.cons O O O DM (BD.cons O O O DM (BD.cons O O O DM (BD.cons O O O DM (BD.skip (by kernel_rfl) (BD.skip (by kernel_rfl) (BD.skip (by kernel_rfl) (trivial))))))))))))
 intro e9 gk ek gl el gm em gn en fa;have ai:=(Q5.nil c0 ek).st;obtain⟨rfl,eo⟩:=el;cases em;cases en;refine G1 O O O (IL O (IL (ai.osone (mt mh)) (IL (ai.osone (mt (mt mh))) (IL (ai.osone (mt (mt (mt (mt mh))))) Ru)))) ty_36.1 O ai (.tail (.tail (.tail (.tail (.tail (.tail .head)))))) O λgp c1 gq=>XY ⟨λi v hh=>match i with|5=>v=vP j 0|6=>v=vP j 15|7=>v=K|_=>False,[[],[],[],[],[],[],[(5,71)],[(6,72)],[],[],[],[]],[(7,73)],_,[74,70,69,13,10,14],O,by kernel_rfl,by kernel_rfl,by kernel_rfl,by kernel_rfl,O,λi hi v hr=>?_,λi v h1 h2 o1 o2 hr=>?_,?_,?_⟩
 ·rcases wN.1 hi with rfl|hi
  ·exact hr
  rcases wN.1 hi with rfl|hi
  ·exact hr
  rcases wN.1 hi with rfl|hi
  ·exact hr
  cases hi
 ·match i,hr with
   |0,hr|1,hr|2,hr|3,hr|4,hr=>exact hr.elim
   |5,hr|6,hr|7,hr=>exact hr
   |_+8,hr=>exact hr.elim
 ·exact BD.skip (by kernel_rfl) (BD.skip (by kernel_rfl) (BD.skip (by kernel_rfl) (BD.skip (by kernel_rfl) (BD.skip (by kernel_rfl) (BD.cons O O O DM (BD.cons O O O DM (BD.cons O O O DM (BD.skip (by kernel_rfl) (BD.skip (by kernel_rfl) (BD.skip (by kernel_rfl) (BD.skip (by kernel_rfl) (trivial))))))))))))
 intro gr ep gs eq;have c2:=ep.st c1;cases eq;refine AU ?_;refine WF.ret (λaa ww hf hw=>?_);obtain⟨gu,c3,gv,er⟩:=c2.pubs (.tail .head);obtain⟨gw,c4,gx,es⟩:=c3.pubs (.tail .head);obtain⟨gy,c5,eu,ev⟩:=c4.pubs (.tail (.tail .head));have bh:=c5.sel [2,0,1] 1 O;have ew:=er.nw;have ey:=es.mono' eu;have c6:=bh.drop (.tail (.tail .head));cases E;exact Jw hf O hw (Hr (NS hf hw bh O (mt (mt mh)) ty_36.1 O) (Hr (K5 hf (v:=_) O) (Hr (K5 hf (v:=_) O) Jr))) O EX ⟨_,_,_,O,(DD.mk (x:=(⟨(BV (c.H+1)),a1,a2,d.2.1⟩:AX)) eo ew ey ev),c6⟩
def Nw (hs:St S L h) {ap:Value}{s:AH}(a6:Rd S h B5 ap s) {aq:Value}{t:BQ}(a7:Rd S h DX aq t) {ar:Value}{K:AX}(a8:Rd S h DD ar K) {V:Value}{ak:Cn}(aw:Rd S h Gr V ak) {g:Value}{H:(List Bool)}(C:Sl S h BX.bool g H) {j:Value}{I:(List AB)}(D:Sl S h AC j I) (gb:Fm N=some true) (E:Hm N s t K ak H I=some true):
 CA prog 5 #[ap,aq,ar,V,g,j] S h (λv S' h'=>v= .bool true∧St S' (L) h'):=by
 refine A8 125 func5 O ntmps5 O λB=>?_;rw[Hm] at E;refine AU ?_;refine A6 O a6 CE O hs λq1 S2 h3 gc e5 k6=>?_;have k7:=a7.mono e5;refine A6 O k7 CE O gc λq8 S9 jt cl ju cm=>?_;have ge:=a8.nw;refine A6 O ge CE O cl λbt jv jw cn jx gf=>?_;have gg:=aw.nw;refine A6 O gg CE O cn λbu F jy co jz gh=>AU ?_;refine WF.rc (.inl O) co ?_;refine BE E O O O vD O (λav cp h' o=>QN (St.all h') gb cp) λav E=>AU ?_;refine BB (kp [13,9,8,7,6,4,5] O) λj0 W gi=>AU ?_;refine WF.rc (.inl O) W ?_;have bv:=k6.nw;obtain⟨j1,_,gj⟩:=bv.lv;have cq:=gf.nw;obtain⟨j2,_,gk⟩:=cq.lv;have cr:=gh.mono gi;obtain⟨j3,_,gl⟩:=cr.lv;refine AU ?_;refine BE E O O O vC O (λcs ct h' o=>Q0 (St.all h') (gj.mono (o.all W.1)) (gk.mono (o.all W.1)) (gl.mono (o.all W.1)) ct) λcs E=>?_;have j4:=cm.nw;have j5:=C.nw;have j6:=D.nw;refine AU ?_;obtain⟨gm,J,E⟩:=bd E;refine A0 4 46 (.bool gm) ?_ ?_
 ·cases cu:((((!cs)||(decide (12<(↑t.E.length:Int))))||(decide (10<(↑H.length:Int))))||(decide (10<(↑I.length:Int))))
  ·have J:=HX cu J;obtain⟨j7,_,gn⟩:=bv.lv;refine AU ?_;refine BE J O O O tF O (λgp cv h' o=>TO (St.all h') (gn.mono (o.all W.1)) cv) λgp J=>AU ?_;cases J;exact AZ O
  have J:=HU cu J;cases J;exact BM O O
 refine BB (kp [46,13,9,8,7,6,4,5] O) λj8 M cw=>AE O E (λgq E=>?_) (λgq E=>?_)
 ·exact RT
 refine AU ?_;refine WF.rc (.inr ⟨mo,by kernel_rfl⟩) M ?_;have bw:=bv.mono cw;obtain⟨j9,_,gr⟩:=bw.lv;have am:=cq.mono cw;obtain⟨ka,_,gs⟩:=am.lv;refine AU ?_;refine BE E O O O cY O (λcx cy h' o=>Nc (St.all h') (gr.mono (o.all M.1)) (gs.mono (o.all M.1)) cy) λcx E=>?_;obtain⟨kb,_,gu⟩:=bw.lv;obtain⟨kc,_,gv⟩:=am.lv;refine AU ?_;refine BE E O O O tE O (λcz c0 h' o=>Pe (St.all h') (gu.mono (o.all M.1)) (gv.mono (o.all M.1)) c0) λcz E=>dP O O pA O (AU ?_);obtain⟨gw,A,E⟩:=bd E;refine A0 6 61 (.bool gw) ?_ ?_
 ·cases c1:(!(cx==cz))
  ·have A:=HX c1 A;obtain⟨kd,_,gx⟩:=am.lv;refine AU ?_;refine A5 A O O O cB O (λgy c2 h' o=>OE (St.all h') (gx.mono (o.all M.1)) c2) λgy A gz=>?_;have ke:=gz;obtain⟨kf,_,g0⟩:=am.lv;refine AU ?_;refine A5 A O O O tD O (λg1 c3 h' o=>QL (St.all h') (g0.mono (o.all M.1)) c3) λg1 A g2=>?_;have kg:=g2;refine AU ?_;cases A;exact AZ O
  have A:=HU c1 A;cases A;exact BM O O
 refine BB (kp [61,13,9,8,7,6,4,5] O) λkh an c4=>Rg O (λax=>?_) (λax=>?_)
 ·cases HU ax E
 have E:=HX ax E;refine AU ?_;refine WF.rc (.inl O) an ?_;have U:=bw.mono c4;obtain⟨ha,_,c5⟩:=U.lv;have X:=cm.nw;obtain⟨hc,_,c6⟩:=X.lv;refine AU ?_;refine BE E O O O tC O (λc7 bx h' o=>Tm (St.all h') (c5.mono (o.all an.1)) (c6.mono (o.all an.1)) bx) λc7 E=>BB (kp [64,13,9,8,7,6,4,5] O) λk c hd=>F2 (λa w=>IV B F k (125,[]) a w [(13,.bool av),(9,bu),(8,bt),(6,q1),(4,g),(5,j)] (L) λ_ _=>Eo N s K ak H I av=some true) ?_ ?_
 ·refine AE O E (λc8 E=>?_) (λc8 E=>?_)
  ·refine AU ?_;obtain⟨a9,bz,E⟩:=bd E;obtain⟨ba,b0,E⟩:=bd E;obtain⟨au,b1,E⟩:=bd E;obtain⟨c9,n,E⟩:=bd E;refine F2 (λa w=>IV B F k (125,[]) a w [(83,.bool c9),(13,.bool av),(9,bu),(8,bt),(6,q1),(4,g),(5,j)] (L) λ_ _=>True) ?_ ?_
   ·rcases oK (!au) with q|q
    ·have n:=HX q n;obtain⟨ay,b2,n⟩:=bd n;obtain⟨az,b3,n⟩:=bd n;have da:=wP n;subst da;refine MJ (m:=[(13,.bool av),(9,bu),(8,bt),(7,q8),(6,q1),(4,g),(5,j)]) 19 (λi v G=>match i with|0=>Rd F G B5 v s|1=>Rd F G DX v t|2=>Rd (SN F k G) G DD v a9|3=>Rd F G B5 v s|4=>Rd F G DX v t|5=>Rd (SN F k G) G DD v ba|6=>v= .bool au|7=>v= .bool (!au)|8=>v= .bool (!au)|9=>Rd F G B5 v s|10=>Rd F G DD v K|11=>Rd F G DX v t|12=>v= .bool ay|13=>Rd F G B5 v s|14=>Rd F G DD v K|15=>Rd F G DX v t|16=>v= .bool az|17=>v= .bool (!(ay==az))|18=>v= .bool (!(ay==az))|_=>False) [[],[],[(0,65),(1,66)],[],[],[(3,68),(4,69)],[(2,67),(5,70)],[(6,71)],[(7,72)],[(8,73)],[(8,73)],[(8,73)],[(9,74),(10,75),(11,76),(8,73)],[(8,73)],[(8,73)],[(8,73)],[(13,78),(14,79),(15,80),(8,73)],[(12,77),(16,81),(8,73)],[(8,73),(17,82)]] [(18,83)] mo (by kernel_rfl) [13,9,8,7,6,4,5] O (by kernel_rfl) (by kernel_rfl) (by kernel_rfl) (kp [13,9,8,7,6,4,5] O) MO ?_ ?_
     ·refine AT.cons O ?_ ?_
      ·intro mq G o;have d:=o.st c;have db:=U.nw;obtain⟨he,_,dc⟩:=db.lv;refine AU ?_;exact BR dc
      refine AT.cons O ?_ ?_
      ·intro mq G o;have d:=o.st c;have dd:=X.nw;obtain⟨hg,_,de⟩:=dd.lv;refine AU ?_;exact BR de
      refine AT.cons O ?_ ?_
      ·intro mq G o;intro df Y dg Z;have d:=SN.st c o;have Y:=Rd.sn k Y;have Y:Rd _ _ B5 df s:=Y;have Z:=Rd.sn k Z;have Z:Rd _ _ DX dg t:=Z;have b4:=d.fz;refine KG O O O cA O (QC b4 Y Z bz) λhi hj hk dh p=>?_;obtain⟨di,b5⟩:=p;have a0:=Fz.done o dh b5;exact B7 a0.1 (Rd.mono di a0.2)
      refine AT.cons O ?_ ?_
      ·intro mq G o;have d:=o.st c;have dj:=U.nw;obtain⟨hl,_,dk⟩:=dj.lv;refine AU ?_;exact BR dk
      refine AT.cons O ?_ ?_
      ·intro mq G o;have d:=o.st c;have dl:=X.nw;obtain⟨hm,_,dm⟩:=dl.lv;refine AU ?_;exact BR dm
      refine AT.cons O ?_ ?_
      ·intro mq G o;intro dn ab dp ac;have d:=SN.st c o;have ab:=Rd.sn k ab;have ab:Rd _ _ B5 dn s:=ab;have ac:=Rd.sn k ac;have ac:Rd _ _ DX dp t:=ac;have b4:=d.fz;refine KG O O O tB O (RZ b4 ab ac b0) λhn ho hp dq p=>?_;obtain⟨dr,b6⟩:=p;have a1:=Fz.done o dq b6;exact B7 a1.1 (Rd.mono dr a1.2)
      refine AT.cons O ?_ ?_
      ·intro mq G o;intro ds a2 dt a3;have d:=SN.st c o;have a2:Rd _ _ DD ds a9:=a2;have a3:Rd _ _ DD dt ba:=a3;refine Cj O O O iV O d (My (St.all _) (a2.mono d.ea) (a3.mono d.ea) b1) λhq hr ht g3 hu bb p=>?_;obtain⟨rfl,g4⟩:=p;exact B7 ⟨bb.siz,λb Q=>bb.same b Q⟩ O
      refine AT.cons O DM (AT.cons O DM (AT.cons O ?_ ?_))
      ·intro mq G o;intro du dv;have d:=o.st c;obtain rfl:du= .bool false:=xD dv (wH Value.bool q);refine⟨73,O,.inl ⟨O,?_⟩⟩;have dw:=U.nw;obtain⟨hv,_,dx⟩:=dw.lv;refine AU ?_;exact BR dx
      refine AT.cons O ?_ ?_
      ·intro mq G o;intro dy dz;have d:=o.st c;obtain rfl:dy= .bool false:=xD dz (wH Value.bool q);refine⟨73,O,.inl ⟨O,?_⟩⟩;have d0:=am.nw;obtain⟨hx,_,d1⟩:=d0.lv;refine AU ?_;exact BR d1
      refine AT.cons O ?_ ?_
      ·intro mq G o;intro d2 d3;have d:=o.st c;obtain rfl:d2= .bool false:=xD d3 (wH Value.bool q);refine⟨73,O,.inl ⟨O,?_⟩⟩;have d4:=X.nw;obtain⟨hy,_,d5⟩:=d4.lv;refine AU ?_;exact BR d5
      refine AT.cons O ?_ ?_
      ·intro mq G o;intro d6 ad d7 af d8 ag d9 eb;have d:=SN.st c o;have ad:=Rd.sn k ad;have ad:Rd _ _ B5 d6 s:=ad;have af:=Rd.sn k af;have af:Rd _ _ DD d7 K:=af;have ag:=Rd.sn k ag;have ag:Rd _ _ DX d8 t:=ag;obtain rfl:d9= .bool false:=xD eb (wH Value.bool q);refine⟨73,O,.inl ⟨O,?_⟩⟩;refine Cj O O O bZ O d (Oy (St.all _) (ad.mono d.ea) (af.mono d.ea) (ag.mono d.ea) b2) λhz h0 h1 g5 h2 bc p=>?_;obtain⟨rfl,g6⟩:=p;exact B7 ⟨bc.siz,λb Q=>bc.same b Q⟩ O
      refine AT.cons O ?_ ?_
      ·intro mq G o;intro ec ed;have d:=o.st c;obtain rfl:ec= .bool false:=xD ed (wH Value.bool q);refine⟨73,O,.inl ⟨O,?_⟩⟩;have ee:=U.nw;obtain⟨h4,_,ef⟩:=ee.lv;refine AU ?_;exact BR ef
      refine AT.cons O ?_ ?_
      ·intro mq G o;intro eg eh;have d:=o.st c;obtain rfl:eg= .bool false:=xD eh (wH Value.bool q);refine⟨73,O,.inl ⟨O,?_⟩⟩;have ei:=am.nw;obtain⟨h5,_,ej⟩:=ei.lv;refine AU ?_;exact BR ej
      refine AT.cons O ?_ ?_
      ·intro mq G o;intro ek el;have d:=o.st c;obtain rfl:ek= .bool false:=xD el (wH Value.bool q);refine⟨73,O,.inl ⟨O,?_⟩⟩;have em:=X.nw;obtain⟨h6,_,en⟩:=em.lv;refine AU ?_;exact BR en
      refine AT.cons O ?_ ?_
      ·intro mq G o;intro eo ah ep ai eq aj er es;have d:=SN.st c o;have ah:=Rd.sn k ah;have ah:Rd _ _ B5 eo s:=ah;have ai:=Rd.sn k ai;have ai:Rd _ _ DD ep K:=ai;have aj:=Rd.sn k aj;have aj:Rd _ _ DX eq t:=aj;obtain rfl:er= .bool false:=xD es (wH Value.bool q);refine⟨73,O,.inl ⟨O,?_⟩⟩;refine Cj O O O tA O d (Qy (St.all _) (ah.mono d.ea) (ai.mono d.ea) (aj.mono d.ea) b3) λh7 h8 h9 g7 ia be p=>?_;obtain⟨rfl,g8⟩:=p;exact B7 ⟨be.siz,λb Q=>be.same b Q⟩ O
      refine AT.cons O ?_ ?_
      ·intro mq G o;intro ib eu ic ev ew ey;have d:=o.st c;cases eu;cases ev;obtain rfl:ew= .bool false:=xD ey (wH Value.bool q);refine⟨73,O,.inl ⟨O,?_⟩⟩;refine AU ?_;refine dP O O pA O (AU ?_);exact BR O
      refine AT.cons O ?_ ?_
      ·intro mq G o;intro ez e0 id e1;have d:=o.st c;obtain rfl:ez= .bool false:=xD e0 (wH Value.bool q);cases e1;refine AU ?_;exact BR O
      exact trivial
     intro ie bf ig e2;have b7:=SN.st c bf;cases e2;refine AU ?_;exact WF.nil (λaa ww hf hw=>⟨_,_,hf.sub (kp [83,13,9,8,6,4,5] O),hw,b7,(SN.ext c.1 bf),trivial⟩)
    have n:=HU q n;have e3:=wP n;subst e3;cases HU rfl E
   rintro aa ww ⟨ih,ii,hf,hw,b8,e4,_⟩;refine AI ?_ hf hw;clear hf hw ww aa;refine Rg O (λa4=>?_) (λa4=>?_)
   ·cases HU a4 E
   have E:=HX a4 E;refine AU ?_;refine WF.nil (λaa ww hf hw=>?_);exact⟨_,_,hf.sub (kp [13,9,8,6,4,5] O),hw,b8,e4,E⟩
  refine AU ?_;refine WF.nil (λaa ww hf hw=>?_);exact⟨_,_,hf.sub (kp [13,9,8,6,4,5] O),hw,c,(CX.refl F k),E⟩
 rintro aa ww ⟨ij,ik,hf,hw,ao,il,E⟩;refine AI ?_ hf hw;clear hf hw ww aa;rw[Eo] at E;refine AU ?_;refine WF.rc (.inl O) ao ?_;have bg:=U.nw;obtain⟨im,_,e6⟩:=bg.lv;have bh:=am.nw;obtain⟨io,_,e7⟩:=bh.lv;refine AU ?_;refine BE E O O O cY O (λe8 b9 h' o=>Nc (St.all h') (e6.mono (o.all ao.1)) (e7.mono (o.all ao.1)) b9) λe8 E=>AU ?_;refine BB (kp [87,13,9,8,6,4,5] O) λip ca bi=>AE O E (λe9 E=>?_) (λe9 E=>?_)
 ·exact RT
 refine AU ?_;refine Es ?_;have bj:=bg.mono bi;obtain⟨ir,_,fa⟩:=bj.lv;have bk:=bh.mono bi;obtain⟨it,_,fb⟩:=bk.lv;have bl:=cr.nw;obtain⟨iu,_,fc⟩:=bl.lv;refine AU ?_;have fd:=C.nw;have fe:=D.nw;refine E4 E O O O iW O (λbm cb=>RA ca fa fb fc fd fe cb) λbm E iv iw iy iz p=>?_;obtain⟨i0,i1,i2,rfl,ff,cc⟩:=p;refine AU ?_;refine BZ Q6 O cc λi3 i4 cd fg=>?_;have fh:=ff.mono fg;obtain⟨i5,i6,i7,rfl,fi,fj,fk,fl⟩:=DD.ex fh;refine G1 O O O ON ty_36.1 O cd .head O λi8 ce i9=>AU ?_;refine Es ?_;have fm:=bj.nw;obtain⟨ja,_,fn⟩:=fm.lv;have fo:=bk.nw;obtain⟨jb,_,fp⟩:=fo.lv;have fq:=bl.nw;obtain⟨jc,_,fr⟩:=fq.lv;refine AU ?_;have fs:=C.nw;have ft:=D.nw;refine E4 E O O O sZ O (λbn cf=>QM ce fn fp fr fs ft cf) λbn E jd je jf jg p=>?_;obtain⟨jh,ji,jj,rfl,fu,cg⟩:=p;refine AU ?_;refine BZ Q6 O cg λjk jl ch fv=>?_;have fw:=fu.mono fv;obtain⟨jm,jn,jo,rfl,fx,fy,f0,f1⟩:=DD.ex fw;refine G1 O O O ON ty_36.1 O ch .head O λjp l a5=>AU ?_;refine WF.rc (.inl O) l (AU ?_);obtain⟨bo,u,E⟩:=bd E;refine A0 4 114 (.bool bo) ?_ ?_
 ·cases bp:av
  ·have u:=HX bp u;cases u;exact BM O O
  have u:=HU bp u;refine AU ?_;have f2:=fj.nw;have f3:=fk.nw;have f4:=fl.nw;have f5:=fy.mono' a5;have f6:=f0.mono' a5;have f7:=f1.mono' a5;obtain⟨jq,ci,u⟩:=bd u;refine KN O O O iV O (λh' o=>My (St.all h') (DD.mk (x:=bm.1) fi (f2.mono' (o.all l.1)) (f3.mono' (o.all l.1)) (f4.mono' (o.all l.1))) (DD.mk (x:=bn.1) fx (f5.mono' (o.all l.1)) (f6.mono' (o.all l.1)) (f7.mono' (o.all l.1))) ci) (AU ?_);cases u;exact AZ O
 refine AU ?_;obtain⟨bq,y,E⟩:=bd E;refine A0 4 119 (.bool bq) ?_ ?_
 ·cases br:bo
  ·have y:=HX br y;cases y;exact BM O O
  have y:=HU br y;refine AU ?_;refine BE y O O O bY O (λf8 cj h' o=>Kh (St.all h') ((l.oslAll (mt (mt (mt (mt mh))))).mono (λb Q=>wX Q o.siz) (λb Q=>o.same b Q)) ((l.oslAll (mt mh)).mono (λb Q=>wX Q o.siz) (λb Q=>o.same b Q)) cj) λf8 y=>AU ?_;cases y;exact AZ O
 refine AU ?_;obtain⟨f9,z,E⟩:=bd E;refine A0 4 124 (.bool f9) ?_ ?_
 ·cases bs:bq
  ·have z:=HX bs z;cases z;exact BM O O
  have z:=HU bs z;refine AU ?_;refine BE z O O O bY O (λga ck h' o=>Kh (St.all h') ((l.oslAll (mt (mt (mt (mt (mt mh)))))).mono (λb Q=>wX Q o.siz) (λb Q=>o.same b Q)) ((l.oslAll (mt (mt mh))).mono (λb Q=>wX Q o.siz) (λb Q=>o.same b Q)) ck) λga z=>AU ?_;cases z;exact AZ O
 refine AU ?_;exact BB (kp [12] O) λjr g9 js=>RT
abbrev Df {α}(x:Option α):Prop:=∃v,x=some v
def OL (n:Int):IntKind.u64.wrap n=n%18446744073709551616:=by simp [IntKind.wrap,IntKind.bits,IntKind.signed]
def E5 (a:Nat) (h:a<18446744073709551616):IntKind.u64.wrap (a:Int)=a:=by rw[OL];omega
def SQ {n:Int}(h:IntKind.u64.has n):IntKind.u64.wrap n=n:=by
 simp [IntKind.has,IntKind.min,IntKind.max,IntKind.bits,IntKind.signed] at h;rw[OL];omega
def Pb {n:Int}:IntKind.u64.has n↔0≤n∧n≤18446744073709551615:=by simp [IntKind.has,IntKind.min,IntKind.max,IntKind.bits,IntKind.signed]
def bC {n:Int}(h:IntKind.u64.has n):∃a:Nat,n=a∧a<18446744073709551616:=by
 rw[Pb] at h;exact⟨n.toNat,by omega,by omega⟩
def W0 (a j:Nat) (b:j≤64):E6 .u64 (a:Int) j=((a/2^j:Nat):Int):=by
 unfold E6;have e:min j IntKind.u64.bits=j:=by simp [IntKind.bits];omega
 rw[e,Int.fdiv_eq_ediv_of_nonneg _ (Int.le_of_lt (Int.pow_pos (by decide)))];simp
def vG (a b:Nat) (g:a<18446744073709551616) (i:b<18446744073709551616):Jp .and .u64 (a:Int) (b:Int)=((a&&&b:Nat):Int):=by
 have c:(BitVec.ofInt 64 (a:Int)).toNat=a:=by rw[Aa5,Aa6];exact zL (by omega)
 have d:(BitVec.ofInt 64 (b:Int)).toNat=b:=by rw[Aa5,Aa6];exact zL (by omega)
 have j:a&&&b<2^64:=Nat.and_lt_two_pow _ (by omega);show IntKind.u64.wrap (((BitVec.ofInt 64 (a:Int))&&&(BitVec.ofInt 64 (b:Int))).toNat:Int)=_
 rw[BitVec.toNat_and,c,d,E5 _ (by omega)]
def Tx (a:Nat) (b:a<18446744073709551616):Jp .and .u64 (a:Int) 4294967295=((a%4294967296:Nat):Int):=by
 have h:=vG a 4294967295 b (by omega);have e:a&&&4294967295=a%4294967296:=Nat.and_two_pow_sub_one_eq_mod a 32;rw[e] at h;exact h
def P2 (a:Nat):E6 .u64 (a:Int) 32=((a/4294967296:Nat):Int):=W0 a 32 (by omega)
def P7 (a b:Nat):(a:Int)*(b:Int)=((a*b:Nat):Int):=(zO a b).symm
def TA (a b:Nat):(a:Int)+(b:Int)=((a+b:Nat):Int):=(Int.natCast_add a b).symm
def gV (a:Nat):IntKind.u64.wrap (a:Int)=((a%18446744073709551616:Nat):Int):=by rw[OL];omega
def Rv (N x y:Nat) (k:x<18446744073709551616) (l:y<18446744073709551616):Is N (x:Int) (y:Int)=some (((x*y/18446744073709551616:Nat):Int),((x*y%18446744073709551616:Nat):Int)):=by
 obtain⟨bd,m,n,c⟩:=Lib.mul64_hi x y k l;have p:=Lib.half_mul_le (a:=x/4294967296) (b:=y/4294967296) (by omega) (by omega);have q:=Lib.half_mul_le (a:=x/4294967296) (b:=y%4294967296) (by omega) (by omega);have s:=Lib.half_mul_le (a:=x%4294967296) (b:=y/4294967296) (by omega) (by omega);have d:x/4294967296*(y/4294967296)<18446744073709551616:=by omega
 have g:x/4294967296*(y%4294967296)<18446744073709551616:=by omega
 have i:x%4294967296*(y/4294967296)<18446744073709551616:=by omega
 have j:x/4294967296*(y/4294967296)+(x/4294967296*(y%4294967296)+x%4294967296*(y%4294967296)/4294967296)/4294967296<18446744073709551616:=by omega
 have o:x/4294967296*(y/4294967296)+(x/4294967296*(y%4294967296)+x%4294967296*(y%4294967296)/4294967296)/4294967296+((x/4294967296*(y%4294967296)+x%4294967296*(y%4294967296)/4294967296)%4294967296+x%4294967296*(y/4294967296))/4294967296<18446744073709551616:=by omega
 simp only[Is,P2,Tx x k,Tx y l,P7,TA,E5 _ bd,E5 _ g,E5 _ m,Tx _ m,E5 _ i,E5 _ n,E5 _ d,E5 _ j,E5 _ o,gV (x*y)];rw[c]
def Ln (x n:Nat):Prop:=1≤n∧2^(n-1)≤x∧x<2^n
def Ln.shift {x m s:Nat}(h:Ln (x/2^s) m):Ln x (m+s):=by
 obtain⟨d,b,c⟩:=h;have a:0<2^s:=Aaq s;refine⟨by omega,?_,?_⟩
 ·have:2^(m-1)*2^s≤x:=(Nat.le_div_iff_mul_le a).1 b;rw[show m+s-1=(m-1)+s by omega,Nat.pow_add];exact this
 ·have:=(Abf a).1 c;rw[Nat.pow_add];exact this
set_option maxRecDepth 20000 in
def uK:∀k:Nat,k<256→YX OC (k:Int)=some (((if k=0 then 0 else k.log2+1:Nat)):Int):=by decide +kernel
def eQ {k:Nat}(h0:0<k) (h:k<256):∃n:Nat,YX OC (k:Int)=some (n:Int)∧Ln k n∧n≤8:=by
 have e:=uK k h;rw[wF (by omega)] at e;refine⟨_,e,⟨by omega,?_,Nat.lt_log2_self⟩,?_⟩
 ·rw[Aar];exact Nat.log2_self_le (by omega)
 ·have:k.log2<8:=(Nat.log2_lt (by omega)).2 h;omega
def aV (N:Nat) {x:Nat}(h0:0<x) (u:x<18446744073709551616):∃n:Nat,J6 N (x:Int)=some (n:Int)∧Ln x n∧n≤64:=by
 have c:∀a:Nat,a<9223372036854775808→BV (a:Int)=a:=λa h=>Pv (by unfold AA;omega);have l:∀a:Nat,a<256→IntKind.u8.wrap (a:Int)=a:=λa h=>by simp [IntKind.wrap,IntKind.bits,IntKind.signed];omega
 have o:∀a b:Nat,0<a→a<256→b≤56→∃n:Nat,Hc N (a:Int) (b:Int)=some ((n+b:Nat):Int)∧Ln a n∧n≤8:=λa b j k p=>by
  obtain⟨n,d,g,i⟩:=eQ j k;refine⟨n,?_,g,i⟩;simp only[Hc,l a k,d,wC,c n (by omega),TA,Nat.add_comm b n,c (n+b) (by omega)]
 have q:∀a b:Nat,0<a→a<65536→b≤48→∃n:Nat,He N (a:Int) (b:Int)=some ((n+b:Nat):Int)∧Ln a n∧n≤16:=λa b j k p=>by
  unfold He;by_cases s:256≤a
  ·rw[show decide ((256:Int)≤(a:Int))=true by simp;omega,wD,W0 a 8 (by omega)];have m:BV ((b:Int)+8)=((b+8:Nat):Int):=by rw[show ((b:Int)+8)=((b+8:Nat):Int) by omega];exact c _ (by omega)
   rw[m];obtain⟨n,d,g,i⟩:=o (a/2^8) (b+8) (by omega) (by omega) (by omega);exact⟨n+8,by rw[d,show n+(b+8)=n+8+b by omega],g.shift,by omega⟩
  ·rw[show decide ((256:Int)≤(a:Int))=false by simp;omega,wE];obtain⟨n,d,g,i⟩:=o a b j (by omega) (by omega);exact⟨n,d,g,by omega⟩
 have t:∀a b:Nat,0<a→a<4294967296→b≤32→∃n:Nat,Hf N (a:Int) (b:Int)=some ((n+b:Nat):Int)∧Ln a n∧n≤32:=λa b j k p=>by
  unfold Hf;by_cases s:65536≤a
  ·rw[show decide ((65536:Int)≤(a:Int))=true by simp;omega,wD,W0 a 16 (by omega)];have m:BV ((b:Int)+16)=((b+16:Nat):Int):=by rw[show ((b:Int)+16)=((b+16:Nat):Int) by omega];exact c _ (by omega)
   rw[m];obtain⟨n,d,g,i⟩:=q (a/2^16) (b+16) (by omega) (by omega) (by omega);exact⟨n+16,by rw[d,show n+(b+16)=n+16+b by omega],g.shift,by omega⟩
  ·rw[show decide ((65536:Int)≤(a:Int))=false by simp;omega,wE];obtain⟨n,d,g,i⟩:=q a b j (by omega) (by omega);exact⟨n,d,g,by omega⟩
 unfold J6;by_cases s:4294967296≤x
 ·rw[show decide ((4294967296:Int)≤(x:Int))=true by simp;omega,wD,W0 x 32 (by omega)];obtain⟨n,d,g,i⟩:=t (x/2^32) 32 (by omega) (by omega) (by omega);exact⟨n+32,by rw[show ((32:Int))=((32:Nat):Int) from rfl,d],g.shift,by omega⟩
 ·rw[show decide ((4294967296:Int)≤(x:Int))=false by simp;omega,wE];obtain⟨n,d,g,i⟩:=t x 0 h0 (by omega) (by omega);exact⟨n,d,g,by omega⟩
def iE (N:Nat) {y:Nat}(h0:0<y) (a:y<18446744073709551616):∃s:Nat,GN N (y:Int)=some (s:Int)∧s≤63∧9223372036854775808≤y*2^s∧y*2^s<18446744073709551616:=by
 obtain⟨n,b,⟨g,c,d⟩,i⟩:=aV N h0 a;refine⟨64-n,?_,by omega,?_,?_⟩
 ·simp only[GN,b,wC];rw[Pv (by unfold AA;omega)];congr 1;omega
 ·have:=yO (2^(64-n)) c;rw[←Nat.pow_add,show n-1+(64-n)=63 by omega] at this;exact this
 ·have:=Nat.mul_lt_mul_of_pos_right d (Aaq (64-n));rw[←Nat.pow_add,show n+(64-n)=64 by omega] at this;exact this
def Df.mk {α}(v:α):Df (some v):=⟨v,rfl⟩
def Df.bind {α β}{a:Option α}{f:α→Option β}(h:Df a) (k:∀v,a=some v→Df (f v)):Df (a.bind f):=by
 obtain⟨v,b⟩:=h;obtain⟨u,c⟩:=k v b;exact⟨u,by rw[b];exact c⟩
def Df.cond {α}{b:Bool}{x y:Option α}(a:b=true→Df x) (c:b=false→Df y):Df (cond b x y):=by
 cases b
 ·exact c rfl
 ·exact a rfl
def Eb {α}(b:Bool) (x y:α):cond b (some x) (some y)=some (cond b x y):=by cases b<;>rfl
def BC {α}{l:List α}{i:Nat}(h:i<l.length):ix l (i:Int)=some l[i]:=by simp [ix,h]
def Df.ix {α}{l:List α}{i:Int}(h0:0≤i) (h:i<l.length):Df (ix l i):=by
 obtain⟨j,rfl⟩:∃j:Nat,i=j:=⟨i.toNat,by omega⟩
 exact⟨_,BC (by omega)⟩
def Cw {n:Int}(h0: -9223372036854775808≤n) (a:n≤9223372036854775807):BV n=n:=Pv ⟨h0,a⟩
def lT {n:Int}:∃j,RY (IntKind.u64.wrap n)=some j∧(j:Int)=IntKind.u64.wrap n:=by
 have:=(Pb.1 (F5 .u64 n)).1;exact⟨(IntKind.u64.wrap n).toNat,by unfold RY;rw[wF (by omega)],by omega⟩
def W5 {k:IntKind}{x y:Int}(h:y≠0):Df (Qq k x y):=⟨_,by unfold Qq;rw[wF h]⟩
def jX {x y:Int}(h:y≠0):Df (UV x y):=⟨_,by unfold UV;rw[wF h]⟩
def bS (N:Nat) (c y:Int) (b a:Nat) (kj:Int→Option (Int×Int)) (d:∀v,Df (kj v)):∀(n:Nat) (q r:Int),IntKind.u64.has q→q.toNat<n→Df (Dx N c y b a kj n q r)
 |0,q,r,h,g=>by omega
 |n+1,q,r,h,g=>by
  have j:=Pb.1 h;unfold Dx;refine Df.cond (λi=>?_) λ_=>d _;have h0:q≠0:=by
   rintro rfl;have:=(Pb.1 (F5 .u64 (IntKind.u64.wrap (4294967296*r)+E6 .u64 (Ea .u64 c a) 32))).1;simp [OL] at i this;omega
  have e:IntKind.u64.wrap (q-1)=q-1:=SQ (Pb.2 (by omega));refine Df.cond (λ_=>d _) λ_=>?_;exact bS N c y b a kj d n _ _ (F5 _ _) (by rw[e];omega)
def bR (N:Nat) (c y:Int) (b a:Nat) (kj:Int→Option (Int×Int)) (d:∀v,Df (kj v)):∀(n:Nat) (r q:Int),IntKind.u64.has q→q.toNat<n→Df (EM N c y b a kj n r q)
 |0,r,q,h,g=>by omega
 |n+1,r,q,h,g=>by
  have j:=Pb.1 h;unfold EM;refine Df.cond (λi=>?_) λ_=>d _;have h0:q≠0:=by
   rintro rfl;have:=(Pb.1 (F5 .u64 (IntKind.u64.wrap (4294967296*r)+Jp .and .u64 (Ea .u64 c a) 4294967295))).1;simp [OL] at i this;omega
  have e:IntKind.u64.wrap (q-1)=q-1:=SQ (Pb.2 (by omega));refine Df.cond (λ_=>d _) λ_=>?_;exact bR N c y b a kj d n _ _ (F5 _ _) (by rw[e];omega)
def BN:Nat:=36893488147419103232
def fH {a s:Nat}(j:s≤63) (c:9223372036854775808≤a*2^s) (b:a*2^s<18446744073709551616):E6 .u64 (Ea .u64 (a:Int) s) 32≠0:=by
 have d:Ea .u64 (a:Int) s=((a*2^s:Nat):Int):=by
  unfold Ea;have g:min s IntKind.u64.bits=s:=by simp [IntKind.bits];omega
  have i:((a:Int)*2^s)=((a*2^s:Nat):Int):=by simp
  rw[g,i];exact E5 _ b
 rw[d,P2];generalize a*2^s=t at c b
 omega
def lP (N:Nat) (i k y g:Int) (a b c d:Nat) (q v:Int):Df (GO N i k y g a b c d q v):=by
 unfold GO;obtain⟨j,l,_⟩:=lT (n:=g);rw[l];exact Df.mk _
def lQ {N:Nat}(o:18446744073709551616<N) (l k y m:Int) (b g i c:Nat) (q:Int) (hd:E6 .u64 (Ea .u64 y b) 32≠0):Df (EN N l k y m b g i c q):=by
 unfold EN;refine Df.bind (W5 hd) λj d=>?_;have a:=NY d;have n:=(Pb.1 a)
 exact bR N k y b c _ (λv=>lP _ _ _ _ _ _ _ _ _ _ _) N _ j a (by omega)
def Wf {N:Nat}(A:18446744073709551616<N) {o q y:Int}(B:IntKind.u64.has o) (h2:IntKind.u64.has q) (C:IntKind.u64.has y) (h:o<y):Df (G4 N o q y):=by
 have g1:=Pb.1 B;have g:y≠0:=by omega
 have t:¬y≤o:=by omega
 unfold G4;refine Df.cond (λp=>absurd (yQ p) g) λ_=>Df.cond (λp=>absurd (yQ p) t) λ_=>Df.cond (λ_=>?_) λ_=>?_
 ·exact Df.bind (W5 g) λ_ _=>Df.bind (jX g) λ_ _=>Df.mk _
 ·obtain⟨D,u,F⟩:=bC C;obtain⟨s,G,H,I,J⟩:=iE N (show 0<D by omega) F;have hd:∀j:Nat,(j:Int)=IntKind.u64.wrap (s:Int)→E6 .u64 (Ea .u64 y j) 32≠0:=λj K=>by
   rw[E5 s (by omega)] at K;have:j=s:=by omega
   rw[this,u];exact fH H I J
  rw[u,G];rw[←u];refine Df.bind (Df.mk _) λw x=>?_;have i:w=(s:Int):=(wP x).symm;obtain⟨k,M,Q⟩:=lT (n:=w);obtain⟨U,V,_⟩:=lT (n:=(64-IntKind.u64.wrap w));have l:=hd k (by rw[Q,i]);rw[M,V];refine Df.bind (Df.mk _) λa W=>Df.bind (Df.mk _) λb hb=>Df.bind (Df.mk _) λc p=>Df.bind (Df.mk _) λd X=>?_;have Y:=wP W;rw[←Y];refine Df.bind (W5 l) λz Z=>?_;have m:=NY Z;have aa:=Pb.1 m;exact bS N q y k d _ (λv=>lQ A _ _ _ _ _ _ _ _ _ l) N z _ m (by omega)
def aB {N:Nat}(g:18446744073709551616<N) (a num den:Int):Df (HC N a num den):=by
 unfold HC;refine Df.cond (λ_=>Df.mk _) λb=>?_;simp only[xI,xA] at b;obtain⟨⟨⟨⟨⟨l,m⟩,o⟩,p⟩,q⟩,s⟩:=b;obtain⟨c,i⟩:∃n:Nat,a=n:=⟨a.toNat,by omega⟩
 obtain⟨d,j⟩:∃n:Nat,num=n:=⟨num.toNat,by omega⟩
 subst i;subst j;rw[E5 c (by omega),E5 d (by omega),Rv N c d (by omega) (by omega)];simp only[wC];have hd:IntKind.u64.wrap den=den:=SQ (Pb.2 (by omega));rw[hd];refine Df.cond (λ_=>Df.mk _) λb=>?_;simp only[xA] at b;have k:c*d<18446744073709551616*18446744073709551616:=Nat.mul_lt_mul'' (by omega) (by omega);refine Df.bind (Wf g (Pb.2 ⟨by omega,by omega⟩) (Pb.2 ⟨by omega,by omega⟩) (Pb.2 (by omega)) (by omega)) λv _=>?_;exact Df.cond (λ_=>Df.mk _) λ_=>Df.mk _
def OQ {N:Nat}(c:18446744073709551616<N) {num den:Int}(h0:0≤num) (k:0≤den) (l:den≤9223372036854775807):Df (Er N num den):=by
 unfold Er;refine Df.cond (λ_=>Df.mk _) λd=>?_;simp only[xA] at d;refine Df.cond (λ_=>Df.mk _) λa=>?_;simp only[xA] at a;obtain⟨b,g⟩:∃n:Nat,num=n:=⟨num.toNat,by omega⟩
 obtain⟨i,j⟩:∃n:Nat,den=n:=⟨den.toNat,by omega⟩
 subst g;subst j;rw[E5 b (by omega),E5 i (by omega),show(1099511627776:Int)=((1099511627776:Nat):Int) from rfl,Rv N b 1099511627776 (by omega) (by omega)];simp only[wC];refine Df.bind (Wf c (Pb.2 ⟨by omega,by omega⟩) (Pb.2 ⟨by omega,by omega⟩) (Pb.2 (by omega)) (by omega)) λv _=>?_;exact Df.cond (λ_=>Df.mk _) λ_=>Df.mk _
def aQ {i j:Nat}(h:i+j<9223372036854775808):BV (E6 .u64 (IntKind.u64.wrap (BV ((i:Int)+(j:Int)))) 1)=(((i+j)/2:Nat):Int):=by
 have a:BV ((i:Int)+(j:Int))=((i+j:Nat):Int):=by rw[Cw (by omega) (by omega)];rfl
 rw[a,E5 _ (by omega),W0 _ 1 (by omega),Cw (by omega) (by omega)]
def SV {N:Nat}(f:Int→Option Bool) (L:Nat) (c:L<4611686018427387904) (a:∀i:Nat,i<L→Df (f i)) (kj:Int→Option Int):∀(n i j:Nat),i≤j→j≤L→j-i<n→(0<i→f ((i-1:Nat):Int)=some false)→(j<L→f (j:Int)=some true)→
  ∃r:Nat,Hb N f kj n (i:Int) (j:Int)=kj (r:Int)∧r≤L∧(0<r→f ((r-1:Nat):Int)=some false)∧(r<L→f (r:Int)=some true)
 |0,i,j,_,_,h,_,_=>by omega
 |n+1,i,j,m,d,o,g,k=>by
  unfold Hb;by_cases l:i<j
  ·rw[show decide ((i:Int)<(j:Int))=true by simp;omega,wD,aQ (by omega)];obtain⟨v,b⟩:=a ((i+j)/2) (by omega);rw[b];simp only[wC];cases v
   ·simp only[Bool.not_false,wD];have e:BV ((((i+j)/2:Nat):Int)+1)=(((i+j)/2+1:Nat):Int):=by rw[Cw (by omega) (by omega)];rfl
    rw[e];exact SV f L c a kj n _ j (by omega) d (by omega) (λ_=>by rw[Aar];exact b) k
   ·simp only[xE,wE];exact SV f L c a kj n i _ (by omega) (by omega) (by omega) g (λ_=>b)
  ·have e:i=j:=by omega
   subst e;rw[show decide ((i:Int)<(i:Int))=false by simp,wE];exact⟨i,rfl,d,g,k⟩
def Ui {N:Nat}(f:Int→Option Bool) (L:Nat) (a:L<4611686018427387904) (g:L<N) (b:∀i:Nat,i<L→Df (f i)):∃r:Nat,Mm N (L:Int) f=some (r:Int)∧r≤L∧(0<r→f ((r-1:Nat):Int)=some false)∧(r<L→f (r:Int)=some true):=by
 obtain⟨r,c,d⟩:=SV (N:=N) f L a b (KX N) N 0 L (wL _) (wV _) (by omega) (λh=>absurd h (by omega)) (λh=>absurd h (by omega));exact⟨r,c,d⟩
def Jg (n:Int):Prop:=0≤n∧n≤1125899906842624
def DY (c:List A9):Prop:=1≤c.length∧c.length≤32∧∀(k:Nat) p,c[k]? =some p→Jg p.M∧Jg p.Q∧∀q,0<k→c[k-1]? =some q→q.M<p.M∧q.Q≤p.Q
def Wh {N:Nat}(c:List A9) (o:c.length≤32):∀(n k:Nat),c.length<n+k→k≤c.length→∃v,DK N c (Hj N) n (k:Int)=some v∧(v=true→∀(i:Nat) p,k≤i→c[i]? =some p→Jg p.M∧Jg p.Q∧∀q,0<i→c[i-1]? =some q→q.M<p.M∧q.Q≤p.Q)
 |0,k,h,s=>by omega
 |n+1,k,h,s=>by
  unfold DK;by_cases g:k<c.length
  ·rw[show decide ((k:Int)<(c.length:Int))=true by simp;omega,wD,BC g];simp only[wC];cases t:(decide ((c[k]).M<0)||decide (1125899906842624<(c[k]).M)||decide ((c[k]).Q<0)||decide (1125899906842624<(c[k]).Q))
   ·simp only[wE];simp only[xI,xA] at t;obtain⟨v,u,l⟩:=Wh (N:=N) c o n (k+1) (by omega) (by omega);have w:BV ((k:Int)+1)=((k+1:Nat):Int):=by rw[Cw (by omega) (by omega)];rfl
    rw[w,u];by_cases h0:0<k
    ·have x:BV ((k:Int)-1)=((k-1:Nat):Int):=by rw[Cw (by omega) (by omega)];omega
     rw[show decide ((0:Int)<(k:Int))=true by simp;omega,x,BC (show k-1<c.length by omega)];simp only[wD,wC,Eb];cases b:cond (decide ((c[k]).M≤(c[k-1]).M)) true (decide ((c[k]).Q<(c[k-1]).Q))
     ·simp only[wE];refine⟨v,rfl,λd i p m a=>?_⟩;by_cases e:i=k
      ·subst e;have:p=c[i]:=by simpa [g] using a.symm
       subst this;refine⟨⟨by omega,by omega⟩,⟨by omega,by omega⟩,λq _ y=>?_⟩;have:q=c[i-1]:=by simpa [show i-1<c.length by omega] using y.symm
       subst this;cases j:decide ((c[i]).M≤(c[i-1]).M) with
       |true=>rw[j] at b;simp at b
       |false=>
        rw[j] at b;simp only[wE,xA] at b j;omega
      ·exact l d i p (by omega) a
     ·exact⟨false,rfl,λh=>by cases h⟩
    ·have z:k=0:=by omega
     subst z;rw[show decide ((0:Int)<((0:Nat):Int))=false by simp];simp only[wE,wC];refine⟨v,rfl,λd i p m a=>?_⟩;by_cases e:i=0
     ·subst e;have:p=c[0]:=by simpa [g] using a.symm
      subst this;exact⟨⟨by omega,by omega⟩,⟨by omega,by omega⟩,λq h _=>absurd h (by omega)⟩
     ·exact l d i p (by omega) a
   ·exact⟨false,rfl,λh=>by cases h⟩
  ·rw[show decide ((k:Int)<(c.length:Int))=false by simp;omega,wE];refine⟨true,rfl,λ_ i p m a=>?_⟩;have:=(wU.1 a).1;omega
def L8 {N:Nat}(j:33<N) (c:List A9):∃v,EV N c=some v∧(v=true→DY c):=by
 unfold EV;cases a:(decide ((c.length:Int)<1)||decide (32<(c.length:Int)))
 ·simp only[xI,xA] at a;obtain⟨v,b,d⟩:=Wh (N:=N) c (by omega) N 0 (by omega) (by omega);exact⟨v,b,λg=>⟨by omega,by omega,λk p i=>d g k p (by omega) i⟩⟩
 ·exact⟨false,rfl,λh=>by cases h⟩
def V1 {N:Nat}(b:18446744073709551616<N) {c:List A9}(l:1≤c.length) (m:c.length≤32) (x:Int):Df (Fb N c x):=by
 unfold Fb;obtain⟨r,d,n,_⟩:=Ui (N:=N) (λy=>Gc N c x y) c.length (by omega) (by omega) λi g=>by
  unfold Gc;rw[BC g];exact Df.mk _
 rw[d];simp only[wC];refine Df.cond (λ_=>Df.bind (Df.ix (by omega) (by omega)) λ_ _=>Df.mk _) λj=>?_;simp only[xA] at j;have k:BV ((r:Int)-1)=((r-1:Nat):Int):=by rw[Cw (by omega) (by omega)];omega
 rw[k];refine Df.bind (Df.ix (by omega) (by omega)) λ_ _=>Df.cond (λ_=>Df.mk _) λa=>?_;simp only[xA] at a;exact Df.bind (Df.ix (by omega) (by omega)) λ_ _=>Df.bind (Df.ix (by omega) (by omega)) λ_ _=>Df.bind (aB b _ _ _) λ_ _=>Df.mk _
def NA (b x:Bool):cond b true x=(b||x):=by cases b<;>rfl
def Sf (b x:Bool):cond b x false=(b&&x):=by cases b<;>rfl
def BF {k:Nat}(h:k<4611686018427387904):BV ((k:Int)+1)=((k+1:Nat):Int):=by rw[Cw (by omega) (by omega)];rfl
def D2 {k L:Nat}(h:k<L):decide ((k:Int)<(L:Int))=true:=by simp;omega
def Dk {k L:Nat}(h:L≤k):decide ((k:Int)<(L:Int))=false:=by simp;omega
def Ic (L:Nat) (f:Nat→Int→Option Bool) (kj:Option Bool) (P:Nat→Prop) (a:∀n (k:Nat),L≤k→f (n+1) (k:Int)=kj) (b:∀n (k:Nat),k<L→f (n+1) (k:Int)=some false∨(P k∧f (n+1) (k:Int)=f n ((k+1:Nat):Int))):
  ∀n (k:Nat),L<n+k→k≤L→f n (k:Int)=some false∨((∀i,k≤i→i<L→P i)∧f n (k:Int)=kj)
 |0,k,h,l=>by omega
 |n+1,k,h,l=>by
  rcases xB k L with d|d
  ·rcases b n k d with g|⟨g,h2⟩
   ·exact .inl g
   ·rcases Ic L f kj P a b n (k+1) (by omega) (by omega) with j|⟨j,h4⟩
    ·exact .inl (h2.trans j)
    ·refine .inr ⟨λi m c=>?_,h2.trans h4⟩;by_cases e:i=k
     ·subst e;exact g
     ·exact j i (by omega) c
  ·exact .inr ⟨λi m c=>by omega,a n k d⟩
def X8 {σ q:Type}(L:Nat) (f:Nat→Int→σ→Option q) (kj:σ→Option q) (I:σ→Prop) (a:∀n (k:Nat) s,L≤k→f (n+1) (k:Int) s=kj s) (b:∀n (k:Nat) s,I s→k<L→∃s',I s'∧f (n+1) (k:Int) s=f n ((k+1:Nat):Int) s'):
  ∀n (k:Nat) s,I s→L<n+k→k≤L→∃s',I s'∧f n (k:Int) s=kj s'
 |0,k,s,_,h,g=>by omega
 |n+1,k,s,d,h,g=>by
  rcases xB k L with c|c
  ·obtain⟨i,j,l⟩:=b n k s d c;obtain⟨m,o,p⟩:=X8 L f kj I a b n (k+1) i j (by omega) (by omega);exact⟨m,o,l.trans p⟩
  ·exact⟨s,d,a n k s c⟩
def VA (n:Int):Bool:=decide (0≤n)&&decide (n≤1125899906842624)
def Mc {n:Int}(h:VA n=true):Jg n:=by simpa [VA,Jg] using h
def NX (N:Nat) (n:Int):Cr N n=some (VA n):=rfl
def bA (n a b:Int):Bool:=decide (a≤n)&&decide (n≤b)
def OY (N:Nat) (n a b:Int):DA N n a b=some (bA n a b):=rfl
def L7 {n a b:Int}(h:bA n a b=true):a≤n∧n≤b:=by simpa [bA] using h
def Uv (a b:Int):Bool:=(VA a&&VA b)&&(decide (b≠0)||decide (a=0))
def R6 (N:Nat) (a b:Int):IY N a b=some (Uv a b):=by
 simp only[IY,NX,wC,Eb,Sf,Uv]
def Qj {a b:Int}(h:Uv a b=true):Jg a∧Jg b:=by
 simp only[Uv,wI] at h;exact⟨Mc h.1.1,Mc h.1.2⟩
def R0 (N:Nat) (n:Int) {L:Nat}(a:L<4611686018427387904):Gd N n (L:Int)=some (bA n 0 ((L:Int)-1)):=by
 simp only[Gd,OY,wC];rw[Cw (by omega) (by omega)]
def V2 (L:Nat) (fr to:Int):Bool:=decide (to= -1)||(bA to 0 ((L:Int)-1)&&decide (to≠fr))
def ST (N:Nat) (b:AH) (fr to:Int) (a:b.F.length<4611686018427387904):Kf N b fr to=some (V2 b.F.length fr to):=by
 simp only[Kf,R0 N _ a,wC,Eb,NA,V2]
def Xh {L:Nat}{fr to:Int}(h:V2 L fr to=true):to= -1∨(0≤to∧to<L):=by
 simp only[V2,wZ,wI,wW] at h;rcases h with h|h
 ·exact .inl h
 ·have:=L7 h.1;exact .inr ⟨this.1,by omega⟩
structure JT (b:AH):Prop where
 own:b.Z.length≤16
 cells:0≤b.T∧b.T≤64
 pl:b.F.length≤64
 li:b.D.length≤96
 to:b.Ak.length≤40
 ga:b.Ap.length≤128
 ro:b.Aq.length≤128
 sh:b.As.length≤40
def Vg {s:ByteArray}{k:Nat}(h:k<s.size):∃z,YX s (k:Int)=some z:=by
 unfold YX;rw[wF (by omega)];simp only[Aan];exact⟨_,by rw[getElem?_pos s k h];rfl⟩
def fN {N:Nat}(q:1000<N) (b:AH):∃v,KE N b=some v∧(v=true→JT b):=by
 unfold KE;simp only[OY,wC,Eb,NA];generalize d:(_|| !bA b.U 0 1099511627776)=B
 cases B
 ·simp only[xI,xA,zC] at d;obtain⟨⟨⟨⟨⟨⟨⟨⟨⟨⟨s,g⟩,i⟩,j⟩,t⟩,u⟩,w⟩,x⟩,y⟩,l⟩,m⟩:=d;have A:=L7 g;have C:=L7 i;have D:=L7 j;have c:JT b:=⟨by omega,by omega,by omega,by omega,by omega,by omega,by omega,by omega⟩
  simp only[wE];have a:∃v,E3 N b=some v:=by
   unfold E3;rcases Ic b.Ar.length (E0 N b (Hn N)) (Hn N) (λ_=>True) (λn k h=>by
    simp only[E0];rw[Dk h];rfl) (λn k h=>by
    simp only[E0];rw[D2 h,wD,BC h];simp only[wC,NX,BF (show k<4611686018427387904 by omega)];cases VA b.Ar[k]
    ·exact .inl rfl
    ·exact .inr ⟨trivial,rfl⟩) N 0 (by omega) (wL _) with h|⟨_,h⟩
   ·exact⟨_,h⟩
   ·exact⟨true,h⟩
  rcases Ic b.O.size (E2 N b (E3 N b)) (E3 N b) (λ_=>True) (λn k h=>by
    simp only[E2];rw[Dk h];rfl) (λn k h=>by
    simp only[E2];obtain⟨z,o⟩:=Vg h;rw[D2 h,wD,o];simp only[wC,BF (show k<4611686018427387904 by omega)];cases (decide (z<32)||decide (126<z)||decide (z=34)||decide (z=92))
    ·exact .inr ⟨trivial,rfl⟩
    ·exact .inl rfl) N 0 (by omega) (wL _) with h|⟨_,h⟩
  ·exact⟨false,h,λh=>by cases h⟩
  ·obtain⟨v,p⟩:=a;exact⟨v,h.trans p,λ_=>c⟩
 ·exact⟨false,rfl,λh=>by cases h⟩
def ZO {N:Nat}(d:1000<N) (s:ByteArray):Df (LN N s):=by
 unfold LN;cases c:(decide ((s.size:Int)<1)||decide (24<(s.size:Int))||s==ByteArray.mk #[111,117,116])
 ·simp only[xI,xA] at c;obtain⟨z,a⟩:=Vg (s:=s) (k:=0) (by omega);have b:YX s 0=some z:=a;simp only[wE,b,wC,Eb,NA];refine Df.cond (λ_=>Df.mk _) λ_=>?_;rcases Ic s.size (G6 N s (Iw N)) (Iw N) (λ_=>True) (λn k h=>by
    simp only[G6];rw[Dk h];rfl) (λn k h=>by
    simp only[G6];obtain⟨z,a⟩:=Vg h;rw[D2 h,wD,a];simp only[wC,BF (show k<4611686018427387904 by omega)];cases (((decide (z<97)||decide (122<z))&&(decide (z<48)||decide (57<z)))&&decide (z≠95))
    ·exact .inr ⟨trivial,rfl⟩
    ·exact .inl rfl) N 1 (by omega) (by omega) with h|⟨_,h⟩
  ·exact⟨_,h⟩
  ·exact⟨_,h⟩
 ·simp only[wD,wC];exact Df.mk _
def bG {N:Nat}(d:1000<N) (m:List (AG×Bool)) (a b:ByteArray):Df (Lj N m a b):=by
 have c:∀s,Df (Jf N m b s):=λs=>by
  unfold Jf;exact Df.bind (ZO d b) λ_ _=>Df.cond (λ_=>Df.mk _) λ_=>Df.mk _
 unfold Lj;exact Df.cond (λ_=>c _) λ_=>c _
def Nh {N:Nat}(d:1000<N) (m:List (AG×Bool)) (c:Bool) (a b:ByteArray):∃v,De N m c a b=some v:=by
 unfold De;exact Df.bind (bG d m a b) λ_ _=>Df.mk _
def aO {N:Nat}(c:1000<N) {b:AH}(m:JT b):Df (Kn N b):=by
 obtain⟨u,w,x,y,z,A,B,C⟩:=m;have d:∀{σ} (L:Nat) (f:Nat→Int→σ→Option Bool) (kj:σ→Option Bool),L≤128→(∀n (k:Nat) s,L≤k→f (n+1) (k:Int) s=kj s)→(∀n (k:Nat) s,k<L→∃s',f (n+1) (k:Int) s=f n ((k+1:Nat):Int) s')→(∀s,Df (kj s))→∀s,Df (f N 0 s):=λL f kj G g o i s=>by
  obtain⟨s',_,e⟩:=X8 L f kj (λ_=>True) g (λn k s _ h=>by obtain⟨s',h'⟩:=o n k s h;exact⟨s',trivial,h'⟩) N 0 s trivial (by omega) (wL _);obtain⟨v,a⟩:=i s';exact⟨v,e.trans a⟩
 have j:∀s:Bool×List (AG×Bool),Df (Du N b (FP N) N 0 s.1 s.2):=d (σ:=Bool×List (AG×Bool)) b.Aq.length (λn k s=>Du N b (FP N) n k s.1 s.2) (λs=>FP N s.1) (by omega) (λn k s h=>by simp only[Du];rw[Dk h];rfl)
  (λn k s h=>by
   simp only[Du];rw[D2 h,wD,BC h];simp only[wC];obtain⟨v,a⟩:=Nh c s.2 s.1 (ByteArray.mk #[114,111,97,100]) (b.Aq[k]).O;rw[a];simp only[wC,BF (show k<4611686018427387904 by omega)];exact⟨(v.2,v.1),rfl⟩) (λs=>Df.mk _)
 have l:∀s:Bool×List (AG×Bool),Df (Dv N b (FQ N b) N 0 s.1 s.2):=d (σ:=Bool×List (AG×Bool)) b.Ap.length (λn k s=>Dv N b (FQ N b) n k s.1 s.2) (λs=>FQ N b s.1 s.2) (by omega) (λn k s h=>by simp only[Dv];rw[Dk h];rfl)
  (λn k s h=>by
   simp only[Dv];rw[D2 h,wD,BC h];simp only[wC];obtain⟨v,a⟩:=Nh c s.2 s.1 (ByteArray.mk #[103,97,117,103,101]) (b.Ap[k]).O;rw[a];simp only[wC,BF (show k<4611686018427387904 by omega)];exact⟨(v.2,v.1),rfl⟩) (λs=>j s)
 have p:∀s:Bool×List (AG×Bool),Df (D7 N b (Fv N b) N 0 s.1 s.2):=d (σ:=Bool×List (AG×Bool)) b.As.length (λn k s=>D7 N b (Fv N b) n k s.1 s.2) (λs=>Fv N b s.1 s.2) (by omega) (λn k s h=>by simp only[D7];rw[Dk h];rfl)
  (λn k s h=>by
   simp only[D7];rw[D2 h,wD,BC h];simp only[wC];obtain⟨v,a⟩:=Nh c s.2 s.1 (ByteArray.mk #[115,104,101,108,116,101,114]) (b.As[k]).O;rw[a];simp only[wC,BF (show k<4611686018427387904 by omega)];exact⟨(v.2,v.1),rfl⟩) (λs=>l s)
 have q:∀s:Bool×List (AG×Bool),Df (D8 N b (Fw N b) N 0 s.1 s.2):=d (σ:=Bool×List (AG×Bool)) b.Ak.length (λn k s=>D8 N b (Fw N b) n k s.1 s.2) (λs=>Fw N b s.1 s.2) (by omega) (λn k s h=>by simp only[D8];rw[Dk h];rfl)
  (λn k s h=>by
   simp only[D8];rw[D2 h,wD,BC h];simp only[wC];obtain⟨v,a⟩:=Nh c s.2 s.1 (ByteArray.mk #[116,111,119,110]) (b.Ak[k]).O;rw[a];simp only[wC,BF (show k<4611686018427387904 by omega)];exact⟨(v.2,v.1),rfl⟩) (λs=>p s)
 have t:∀s:Bool×List (AG×Bool),Df (D9 N b (Fx N b) N 0 s.1 s.2):=d (σ:=Bool×List (AG×Bool)) b.D.length (λn k s=>D9 N b (Fx N b) n k s.1 s.2) (λs=>Fx N b s.1 s.2) (by omega) (λn k s h=>by simp only[D9];rw[Dk h];rfl)
  (λn k s h=>by
   simp only[D9];rw[D2 h,wD,BC h];simp only[wC];obtain⟨v,a⟩:=Nh c s.2 s.1 (ByteArray.mk #[108,105,110,107]) (b.D[k]).O;rw[a];simp only[wC,BF (show k<4611686018427387904 by omega)];exact⟨(v.2,v.1),rfl⟩) (λs=>q s)
 have i:∀s:Bool×List (AG×Bool),Df (EA N b (Fy N b) N 0 s.1 s.2):=d (σ:=Bool×List (AG×Bool)) b.F.length (λn k s=>EA N b (Fy N b) n k s.1 s.2) (λs=>Fy N b s.1 s.2) (by omega) (λn k s h=>by simp only[EA];rw[Dk h];rfl)
  (λn k s h=>by
   simp only[EA];rw[D2 h,wD,BC h];simp only[wC];obtain⟨v,a⟩:=Nh c s.2 s.1 (ByteArray.mk #[112,108,97,99,101]) (b.F[k]).O;rw[a];simp only[wC,BF (show k<4611686018427387904 by omega)];exact⟨(v.2,v.1),rfl⟩) (λs=>t s)
 have g:∀s:Bool×List (AG×Bool),Df (EB N b (F1 N b) N 0 s.1 s.2):=d (σ:=Bool×List (AG×Bool)) b.Z.length (λn k s=>EB N b (F1 N b) n k s.1 s.2) (λs=>F1 N b s.1 s.2) (by omega) (λn k s h=>by simp only[EB];rw[Dk h];rfl)
  (λn k s h=>by
   simp only[EB];rw[D2 h,wD,BC h];simp only[wC];obtain⟨v,a⟩:=Nh c s.2 s.1 (ByteArray.mk #[111,119,110,101,114]) (b.Z[k]);rw[a];simp only[wC,BF (show k<4611686018427387904 by omega)];exact⟨(v.2,v.1),rfl⟩) (λs=>i s)
 exact g (true,[])
structure MM (b:AH) (p:EW):Prop where
 lev:DY p.Bk
 num:Jg p.W
 den:Jg p.R
 down:p.Ao= -1∨(0≤p.Ao∧p.Ao<b.F.length)
 cap:Jg p.Ah
 delay:0≤p.Y∧p.Y≤240
def V7 {N:Nat}(p:EW) (kj:Int→Option Bool) (b:p.Bc.length≤16):∀(n:Nat) (s:Int) (k:Nat),p.Bc.length<n+k→k≤p.Bc.length→Dt N p kj n s (k:Int)=some false∨∃s',Dt N p kj n s (k:Int)=kj s'
 |0,s,k,h,c=>by omega
 |n+1,s,k,h,c=>by
  simp only[Dt];rcases xB k p.Bc.length with a|a
  ·rw[D2 a,wD,BC a];simp only[wC,NX,BF (show k<4611686018427387904 by omega)];cases VA p.Bc[k]
   ·exact .inl rfl
   ·exact V7 (N:=N) p kj b n _ (k+1) (by omega) (by omega)
  ·rw[Dk a];exact .inr ⟨s,rfl⟩
def Xw {N:Nat}(b:AH) (p:EW) (a:Int) (kj:Int→Option Bool) (g:0≤b.T∧b.T≤64):∀(n:Nat) (s:Int) (k:Nat), -1≤s→s≤64→65<n+s→k<100→(k:Int)≤s+1→Dr N b p a kj n s (k:Int)=some false∨Dr N b p a kj n s (k:Int)=kj a
 |0,s,k,i,j,l,m,o=>by omega
 |n+1,s,k,i,j,l,m,o=>by
  simp only[Dr];rcases xB k p.Ba.length with c|c
  ·rw[D2 c,wD,BC c];simp only[wC,NX,Eb,NA,BF (show k<4611686018427387904 by omega)];cases d:(decide ((p.Ba[k]).Bg≤s)||decide (b.T≤(p.Ba[k]).Bg)|| !VA (p.Ba[k]).Br)
   ·simp only[xI,xA] at d;obtain⟨⟨q,t⟩,u⟩:=d;exact Xw (N:=N) b p a kj g n _ (k+1) (by omega) (by omega) (by omega) (by omega) (by omega)
   ·exact .inl rfl
  ·rw[Dk c];exact .inr rfl
def Un {N:Nat}(o:1000<N) (b:AH) (a:JT b):∀(n:Nat) (s:Int) (k:Nat),b.F.length<n+k→k≤b.F.length→∃v,CI N b (Cg N) n s (k:Int)=some v∧(v=true→∀(i:Nat) p,k≤i→b.F[i]? =some p→MM b p)
 |0,s,k,h,q=>by omega
 |n+1,s,k,h,q=>by
  have M:=a.pl;simp only[CI];rcases xB k b.F.length with c|c
  ·rw[D2 c,wD,BC c];obtain⟨Q,g,j⟩:=L8 (N:=N) (by omega) (b.F[k]).Bk;simp only[wC,OY,NX,R6,g,ST N b _ _ (show b.F.length<4611686018427387904 by omega),Eb,NA];generalize l:(_|| !V2 b.F.length (k:Int) (b.F[k]).Ao)=B
   cases B
   ·simp only[xI,xA,zC] at l;obtain⟨⟨⟨⟨⟨⟨⟨⟨U,V⟩,t⟩,u⟩,W⟩,w⟩,x⟩,m⟩,y⟩:=l;have z:(b.F[k]).Bc.length=b.Z.length:=by
     have:((b.F[k]).Bc.length:Int)=(b.Z.length:Int):=by simpa using x
     omega
    have A:MM b b.F[k]:=⟨j w,(Qj m).1,(Qj m).2,Xh y,Mc u,L7 t⟩
    simp only[wE];rcases V7 (N:=N) b.F[k] (FO N b b.F[k] (DH N (k:Int) (CI N b (Cg N) n))) (by have:=a.own;omega) N s 0 (by have:=a.own;omega) (wL _) with e|⟨s',e⟩
    ·exact⟨false,e,λh=>by cases h⟩
    ·have C:Dt N b.F[k] (FO N b b.F[k] (DH N (k:Int) (CI N b (Cg N) n))) N s 0=_:=e;rw[C];unfold FO;rcases Xw (N:=N) b b.F[k] s' (DH N (k:Int) (CI N b (Cg N) n)) a.cells N (-1) 0 (by omega) (by omega) (by omega) (by omega) (by omega) with e|e
     ·exact⟨false,e,λh=>by cases h⟩
     ·have D:Dr N b b.F[k] s' (DH N (k:Int) (CI N b (Cg N) n)) N (-1) 0=_:=e;rw[D];unfold DH;rw[BF (show k<4611686018427387904 by omega)];obtain⟨v,G,H⟩:=Un o b a n s' (k+1) (by omega) (by omega);refine⟨v,G,λI i p J d=>?_⟩;by_cases K:i=k
      ·subst K;have:p=b.F[i]:=by simpa [c] using d.symm
       rw[this];exact A
      ·exact H I i p (by omega) d
   ·exact⟨false,rfl,λh=>by cases h⟩
  ·rw[Dk c];refine⟨_,rfl,λ_ i p J d=>?_⟩;have:=(wU.1 d).1;omega
def Y9 {N:Nat}(c:1000<N) (b:AH) (a:JT b):∃v,KQ N b=some v∧(v=true→∀p∈b.F,MM b p):=by
 obtain⟨v,d,g⟩:=Un c b a N 0 0 (by have:=a.pl;omega) (wL _);refine⟨v,d,λj p k=>?_⟩;obtain⟨i,l,rfl⟩:=yZ.1 k;exact g j i _ (wL _) (by simp [l])
structure Ld (b:AH) (l:AS):Prop where
 kind:0≤l.I∧l.I≤5
 fr:0≤l.V∧l.V<b.F.length
 to:l.C= -1∨(0≤l.C∧l.C<b.F.length)
 delay:0≤l.Y∧l.Y≤240
 gate:l.I=0→DY l.Au∧DY l.Ac.B∧DY l.Ac.A∧Jg l.Aj∧Jg l.Ag
 part:l.I=1∨l.I=5∨l.I=3→Jg l.W∧1≤l.R∧l.R≤1125899906842624
 seep:l.I=4→Jg l.W∧1≤l.R∧l.R≤1125899906842624∧Jg l.Aj∧Jg l.Ag∧l.C≠ -1
def Zt {N:Nat}(d:18446744073709551616<N) (a b:List A9) (g:1≤a.length) (c:a.length≤32) (i:b.length≤32):Df (Dg N a b):=by
 unfold Dg;rcases Ic b.length (EL N a b (Gi N)) (Gi N) (λ_=>True) (λn k h=>by
  simp only[EL];rw[Dk h];rfl) (λn k h=>by
  simp only[EL];obtain⟨v,j⟩:=V1 d g c (b[k]).M;rw[D2 h,wD,BC h];simp only[wC,j,BF (show k<4611686018427387904 by omega)];cases (decide ((b[k]).Q<v.1)||decide (v.1=(b[k]).Q)&&v.2)
  ·exact .inr ⟨trivial,rfl⟩
  ·exact .inl rfl) N 0 (by omega) (wL _) with h|⟨_,h⟩
 ·exact⟨_,h⟩
 ·exact⟨true,h⟩
def Rn {N:Nat}(d:18446744073709551616<N) (a b:List A9):Df (Fd N a b):=by
 unfold Fd;obtain⟨s,i,j⟩:=L8 (N:=N) (by omega) a;obtain⟨t,l,m⟩:=L8 (N:=N) (by omega) b;simp only[i,l,wC,Eb,NA];refine Df.cond (λ_=>Df.mk _) λh=>?_;simp only[xI,zC] at h;obtain⟨o,p,_⟩:=j h.1;obtain⟨q,g,_⟩:=m h.2;rcases Ic a.length (D3 N a b (Dg N a b)) (Dg N a b) (λ_=>True) (λn k h=>by
  simp only[D3];rw[Dk h];rfl) (λn k h=>by
  simp only[D3];obtain⟨v,c⟩:=V1 d q g (a[k]).M;rw[D2 h,wD,BC h];simp only[wC,c,BF (show k<4611686018427387904 by omega)];cases decide (v.1<(a[k]).Q)
  ·exact .inr ⟨trivial,rfl⟩
  ·exact .inl rfl) N 0 (by omega) (wL _) with h|⟨_,h⟩
 ·exact⟨_,h⟩
 ·obtain⟨v,c⟩:=Zt d a b o p g;exact⟨v,h.trans c⟩
def Uy {N:Nat}(m:18446744073709551616<N) (l:AS):∃v,Gz N l=some v∧(v=true→
  (l.I=0→DY l.Au∧DY l.Ac.B∧DY l.Ac.A∧Jg l.Aj∧Jg l.Ag)∧(l.I=1∨l.I=5∨l.I=3→Jg l.W∧1≤l.R∧l.R≤1125899906842624)∧
  (¬(l.I=0∨l.I=1∨l.I=5∨l.I=2∨l.I=3)→Jg l.W∧1≤l.R∧l.R≤1125899906842624∧Jg l.Aj∧Jg l.Ag∧l.C≠ -1)):=by
 obtain⟨G,q,s⟩:=L8 (N:=N) (by omega) l.Au;obtain⟨H,t,u⟩:=L8 (N:=N) (by omega) l.Ac.B;obtain⟨J,w,x⟩:=L8 (N:=N) (by omega) l.Ac.A;obtain⟨K,y⟩:=Rn m l.Ac.B l.Au;obtain⟨M,z⟩:=Rn m l.Au l.Ac.A;unfold Gz;by_cases k0:l.I=0
 ·rw[show decide (l.I=0)=true by simp [k0],wD];simp only[q,t,w,y,z,OY,NX,R6,wC,Eb,Sf];refine⟨_,rfl,λh=>?_⟩;simp only[wI] at h;obtain⟨⟨⟨⟨⟨⟨⟨⟨⟨d,a⟩,b⟩,i⟩,D⟩,Q⟩,U⟩,V⟩,n⟩,F⟩:=h;exact⟨λ_=>⟨s d,u a,x b,(Qj n).1,(Qj n).2⟩,λh=>by omega,λh=>absurd (.inl k0) h⟩
 ·rw[show decide (l.I=0)=false by simp [k0],wE];have o:∀c:Bool,(c=true↔l.I=1∨l.I=5)→∃v,ES N l c=some v∧(v=true→
    (l.I=0→DY l.Au∧DY l.Ac.B∧DY l.Ac.A∧Jg l.Aj∧Jg l.Ag)∧(l.I=1∨l.I=5∨l.I=3→Jg l.W∧1≤l.R∧l.R≤1125899906842624)∧
    (¬(l.I=0∨l.I=1∨l.I=5∨l.I=2∨l.I=3)→Jg l.W∧1≤l.R∧l.R≤1125899906842624∧Jg l.Aj∧Jg l.Ag∧l.C≠ -1)):=λc p=>by
   unfold ES;simp only[OY,NX,R6,wC,Eb,Sf];cases c
   ·have X:¬(l.I=1∨l.I=5):=λh=>by have:=p.2 h;cases this
    rw[wE];by_cases j:l.I=2
    ·rw[show decide (l.I=2)=true by simp [j],wD];exact⟨_,rfl,λ_=>⟨λh=>absurd h k0,λh=>by omega,λh=>absurd (.inr (.inr (.inr (.inl j)))) h⟩⟩
    ·rw[show decide (l.I=2)=false by simp [j],wE];by_cases k:l.I=3
     ·rw[show decide (l.I=3)=true by simp [k],wD];refine⟨_,rfl,λh=>?_⟩;simp only[wI] at h;obtain⟨⟨⟨⟨d,a⟩,b⟩,i⟩,D⟩:=h;exact⟨λh=>absurd h k0,λ_=>⟨Mc d,L7 a⟩,λh=>absurd (.inr (.inr (.inr (.inr k)))) h⟩
     ·rw[show decide (l.I=3)=false by simp [k],wE];refine⟨_,rfl,λh=>?_⟩;simp only[wI,wW] at h;obtain⟨⟨⟨d,a⟩,b⟩,i⟩:=h;exact⟨λh=>absurd h k0,λh=>by omega,λ_=>⟨Mc d,(L7 a).1,(L7 a).2,(Qj b).1,(Qj b).2,i⟩⟩
   ·have Y:=p.1 rfl;rw[wD];refine⟨_,rfl,λh=>?_⟩;simp only[wI] at h;obtain⟨⟨d,a⟩,b⟩:=h;exact⟨λh=>absurd h k0,λ_=>⟨Mc a,L7 b⟩,λh=>by omega⟩
  by_cases g:l.I=1
  ·rw[show decide (l.I=1)=true by simp [g],wD];exact o true (by simp [g])
  ·rw[show decide (l.I=1)=false by simp [g],wE];exact o _ (by simp [g])
def Ue (N:Nat) (l:AS):Df (Gy N l):=by
 unfold Gy;exact Df.cond (λ_=>Df.mk _) λ_=>Df.cond (λ_=>Df.mk _) λ_=>Df.cond (λ_=>Df.mk _) λ_=>Df.cond (λ_=>Df.mk _) λ_=>Df.cond (λ_=>Df.mk _) λ_=>Df.mk _
def aU {N:Nat}(m:18446744073709551616<N) (b:AH) (c:JT b):∃v,GY N b=some v∧(v=true→∀l∈b.D,Ld b l):=by
 have H:=c.pl;have I:=c.li;unfold GY;rcases Ic b.D.length (DB N b (EC N)) (EC N) (λi=>∀l,b.D[i]? =some l→Ld b l) (λn k h=>by
  simp only[DB];rw[Dk h];rfl) (λn k h=>by
  simp only[DB];obtain⟨J,o,p⟩:=Uy m b.D[k];obtain⟨q,s⟩:=Ue N b.D[k];rw[D2 h,wD,BC h];simp only[wC,OY,R0 N _ (show b.F.length<4611686018427387904 by omega),ST N b _ _ (show b.F.length<4611686018427387904 by omega),o,s,Eb,NA,BF (show k<4611686018427387904 by omega)];generalize d:(_|| !q)=B
  cases B
  ·simp only[xI,zC] at d;obtain⟨⟨⟨⟨⟨t,u⟩,w⟩,g⟩,x⟩,K⟩:=d;have y:=L7 t;have z:=L7 u;obtain⟨A,C,G⟩:=p x;refine .inr ⟨λl a=>?_,rfl⟩;have:l=b.D[k]:=by simpa [h] using a.symm
   rw[this];exact⟨y,⟨z.1,by omega⟩,Xh w,L7 g,A,C,λg=>G (by omega)⟩
  ·exact .inl rfl) N 0 (by omega) (wL _) with h|⟨hp,h⟩
 ·exact⟨false,h,λh=>by cases h⟩
 ·refine⟨true,h,λ_ l a=>?_⟩;obtain⟨i,j,rfl⟩:=yZ.1 a;exact hp i (wL _) j _ (by simp [j])
def X6 (N:Nat) (b:AH) (o to:Int) (h:to= -1∨(0≤to∧to<b.F.length)):Df (LT N b o to):=by
 unfold LT;refine Df.cond (λ_=>Df.mk _) λa=>?_;simp only[xA] at a;exact Df.bind (Df.ix (by omega) (by omega)) λ_ _=>Df.mk _
def W9 {N:Nat}(w:1000<N) (b:AH) (m:JT b) (o:∀p∈b.F,MM b p) (q:∀l∈b.D,Ld b l):Df (In N b):=by
 have y:=m.pl;have A:=m.li;have s:Df (EH N b):=by
  unfold EH;rcases Ic b.D.length (EF N b (GL N)) (GL N) (λ_=>True) (λn k h=>by
   simp only[EF];rw[Dk h];rfl) (λn k h=>by
   simp only[EF];have a:=q b.D[k] (wT h);obtain⟨x,t⟩:=Df.ix (l:=b.F) a.fr.1 a.fr.2;obtain⟨v,c⟩:=X6 N b x.Av (b.D[k]).C a.to;rw[D2 h,wD,BC h];simp only[wC,t,c,BF (show k<4611686018427387904 by omega)];have i:∃z,(cond (!v) (some true) ((cond (decide ((b.D[k]).I=4)) ((ix b.F (b.D[k]).C).bind λd=>some (decide (d.Av≠x.Av))) (some false)).bind λg=>some g))=some z:=by
    refine Df.cond (λ_=>Df.mk _) λ_=>Df.bind (Df.cond (λu=>?_) λ_=>Df.mk _) λ_ _=>Df.mk _;have j:(b.D[k]).I=4:=by simpa using u
    have:=(a.seep j).2.2.2.2.2;have:=a.to;exact Df.bind (Df.ix (by omega) (by omega)) λ_ _=>Df.mk _
   obtain⟨z,i⟩:=i;rw[i];simp only[wC];cases z
   ·exact .inr ⟨trivial,rfl⟩
   ·exact .inl rfl) N 0 (by omega) (wL _) with h|⟨_,h⟩
  ·exact⟨_,h⟩
  ·exact⟨true,h⟩
 unfold In;rcases Ic b.F.length (EG N b (EH N b)) (EH N b) (λ_=>True) (λn k h=>by
   simp only[EG];rw[Dk h];rfl) (λn k h=>by
   simp only[EG];have a:=o b.F[k] (wT h);obtain⟨v,c⟩:=X6 N b (b.F[k]).Av (b.F[k]).Ao a.down;rw[D2 h,wD,BC h];simp only[wC,c,BF (show k<4611686018427387904 by omega)];cases v
   ·exact .inl rfl
   ·exact .inr ⟨trivial,rfl⟩) N 0 (by omega) (wL _) with h|⟨_,h⟩
 ·exact⟨_,h⟩
 ·obtain⟨v,c⟩:=s;exact⟨v,h.trans c⟩
def V6 {N:Nat}(d:18446744073709551616<N) (c:List A9) (g:DY c) (kj:Int→Option Int):∀(n:Nat) (s:Int) (k:Nat),c.length<n+k→1≤k→k≤c.length→∃s',Ck N c kj n s (k:Int)=kj s'
 |0,s,k,h,i,j=>by omega
 |n+1,s,k,h,i,j=>by
  obtain⟨l,m,b⟩:=g;simp only[Ck];rcases xB k c.length with a|a
  ·have o:BV ((k:Int)-1)=((k-1:Nat):Int):=by rw[Cw (by omega) (by omega)];omega
   rw[D2 a,wD,o,BC a,BC (show k-1<c.length by omega)];simp only[wC,BF (show k<4611686018427387904 by omega)];obtain⟨p,q,t⟩:=b k c[k] (by simp [a]);obtain⟨u,w,_⟩:=b (k-1) c[k-1] (by simp [show k-1<c.length by omega]);obtain⟨y,z⟩:=t c[k-1] (by omega) (by simp [show k-1<c.length by omega]);unfold Jg at p q u w;obtain⟨v,x⟩:=OQ d (num:=BV ((c[k]).Q-(c[k-1]).Q)) (den:=BV ((c[k]).M-(c[k-1]).M)) (by rw[Cw (by omega) (by omega)];omega) (by rw[Cw (by omega) (by omega)];omega) (by rw[Cw (by omega) (by omega)];omega);rw[x];exact V6 d c ⟨l,m,b⟩ kj n _ (k+1) (by omega) (by omega) (by omega)
  ·rw[Dk a];exact⟨s,rfl⟩
def Z4 {N:Nat}(d:18446744073709551616<N) (cs:List (List A9)) (m:cs.length≤3) (g:∀c∈cs,DY c):Df (Gl N cs):=by
 unfold Gl;have:∀(n:Nat) (s:Int) (k:Nat),cs.length<n+k→k≤cs.length→Df (CL N cs (Cm N) n s (k:Int)):=by
  intro n
  induction n with
  |zero=>intro s k h i;omega
  |succ n j=>
   intro s k h i;simp only[CL];rcases xB k cs.length with a|a
   ·rw[D2 a,wD,BC a];simp only[wC];have b:=g cs[k] (wT a);obtain⟨s',e⟩:=V6 d cs[k] b (DL N (k:Int) (CL N cs (Cm N) n)) N s 1 (by have:=b.2.1;omega) (by omega) b.1;have l:Ck N cs[k] (DL N (k:Int) (CL N cs (Cm N) n)) N s 1=_:=e;rw[l];unfold DL;rw[BF (show k<4611686018427387904 by omega)];exact j s' (k+1) (by omega) (by omega)
   ·rw[Dk a];exact Df.mk _
 exact this N 0 0 (by omega) (wL _)
def Mk {α}(l:List α) (i:Int) (x:α):(upd l i x).length=l.length:=by simp [upd]
def pK {N:Nat}(a:1000<N) (l:List Int) (b:l.length≤64):Df (CH N l):=by
 unfold CH;rcases Ic l.length (Ct N l (Dq N)) (Dq N) (λ_=>True) (λn k h=>by
  simp only[Ct];rw[Dk h];rfl) (λn k h=>by
  simp only[Ct];rw[D2 h,wD,BC h];simp only[wC,BF (show k<4611686018427387904 by omega)];cases decide (1099511627776<l[k])
  ·exact .inr ⟨trivial,rfl⟩
  ·exact .inl rfl) N 0 (by omega) (wL _) with h|⟨_,h⟩
 ·exact⟨_,h⟩
 ·exact⟨true,h⟩
def gX {N:Nat}(o:18446744073709551616<N) (b:AH) (t:JT b) (K:∀l∈b.D,Ld b l) (kj:List Int→Option Bool):∀(n:Nat) (k:Nat) (s:List Int),s.length=b.F.length→b.D.length<n+k→k≤b.D.length→∃s',s'.length=b.F.length∧BW N b kj n (k:Int) s=kj s'
 |0,k,s,a,h,W=>by omega
 |n+1,k,s,a,h,W=>by
  have q3:=t.pl;have q4:=t.li;simp only[BW];rcases xB k b.D.length with g|g
  ·rw[D2 g,wD,BC g];simp only[wC];have d:=K b.D[k] (wT g);generalize b.D[k]=l at d
   have p:∀s:List Int,s.length=b.F.length→∃s',s'.length=b.F.length∧CG N (k:Int) (BW N b kj n) s=kj s':=λs a=>by
    unfold CG;rw[BF (show k<4611686018427387904 by omega)];exact gX o b t K kj n (k+1) s a (by omega) (by omega)
   obtain⟨x,u⟩:=Df.ix (l:=s) d.fr.1 (by rw[a];exact d.fr.2);have w:∀c:Bool,(c=true→l.I=1∨l.I=5∨l.I=3)→∃s',s'.length=b.F.length∧DW N s l (CG N (k:Int) (BW N b kj n)) c=kj s':=λc g=>by
    unfold DW;cases c
    ·rw[wE];by_cases y:l.I=4
     ·rw[show decide (l.I=4)=true by simp [y],wD];obtain⟨z,X,Y,Z,M,h6⟩:=d.seep y;obtain⟨v,q⟩:=OQ o z.1 (show 0≤l.R by omega) (by omega);obtain⟨v2,j⟩:=OQ o Z.1 M.1 (show l.Ag≤_ by have:=M.2;omega);have G:=d.to;obtain⟨x2,m⟩:=Df.ix (l:=upd s l.V (BV (x+BV (2*v)))) (i:=l.C) (by omega) (by rw[Mk,a];omega);simp only[u,q,m,j,wC];exact p _ (by rw[Mk,Mk,a])
     ·rw[show decide (l.I=4)=false by simp [y],wE];exact p s a
    ·rw[wD];obtain⟨z,X,Y⟩:=d.part (g rfl);obtain⟨v,q⟩:=OQ o z.1 (show 0≤l.R by omega) (by omega);simp only[u,q,wC];exact p _ (by rw[Mk,a])
   by_cases k0:l.I=0
   ·rw[show decide (l.I=0)=true by simp [k0],wD];obtain⟨c1,c2,c3,c4,Q⟩:=d.gate k0;obtain⟨v,q⟩:=Z4 o [l.Au,l.Ac.B,l.Ac.A] (by simp) (by simp [c1,c2,c3]);simp only[u,q,wC];by_cases U:l.C= -1
    ·rw[show decide (l.C≠ -1)=false by simp [U],wE];exact p _ (by rw[Mk,a])
    ·rw[show decide (l.C≠ -1)=true by simp [U],wD];have G:=d.to;obtain⟨x2,m⟩:=Df.ix (l:=upd s l.V (BV (x+v))) (i:=l.C) (by omega) (by rw[Mk,a];omega);obtain⟨v2,j⟩:=OQ o c4.1 Q.1 (show l.Ag≤_ by have:=Q.2;omega);simp only[m,j,wC];exact p _ (by rw[Mk,Mk,a])
   ·rw[show decide (l.I=0)=false by simp [k0],wE];by_cases H:l.I=1
    ·rw[show decide (l.I=1)=true by simp [H],wD];exact w true λ_=> .inl H
    ·rw[show decide (l.I=1)=false by simp [H],wE];by_cases J:l.I=5
     ·rw[show decide (l.I=5)=true by simp [J],wD];exact w true λ_=> .inr (.inl J)
     ·rw[show decide (l.I=5)=false by simp [J],wE];exact w _ λh=> .inr (.inr (by simpa using h))
  ·rw[Dk g];exact⟨s,a,rfl⟩
def Y3 {N:Nat}(m:18446744073709551616<N) (b:AH) (c:JT b) (q:∀p∈b.F,MM b p) (t:∀l∈b.D,Ld b l):Df (Fo N b):=by
 have G:=c.pl;have H:=c.li;unfold Fo;rw[show OX (b.F.length:Int) (b.F.length:Int) 8=true by simp [OX];omega];simp only[chk,wD];have u:∀(n:Nat) (k:Nat) (s:List Int),s.length=b.F.length→b.F.length<n+k→k≤b.F.length→∃s',s'.length=b.F.length∧Cu N b (Cf N b) n (k:Int) s=Cf N b s':=by
  intro n
  induction n with
  |zero=>intro k s d h w;omega
  |succ n x=>
   intro k s d h w;simp only[Cu];rcases xB k b.F.length with a|a
   ·have g:=q b.F[k] (wT a);obtain⟨v,y⟩:=OQ m g.num.1 g.den.1 (by have:=g.den.2;omega);rw[D2 a,wD,BC a,BC (show k<s.length by omega)];simp only[wC,y,BF (show k<4611686018427387904 by omega)];exact x (k+1) _ (by rw[Mk,d]) (by omega) (by omega)
   ·rw[Dk a];exact⟨s,d,rfl⟩
 obtain⟨o,z,A⟩:=u N 0 (List.replicate ((b.F.length:Int):Int).toNat 0) (by simp) (by omega) (wL _);have i:Cu N b (Cf N b) N 0 (List.replicate ((b.F.length:Int):Int).toNat 0)=_:=A;rw[i];unfold Cf;obtain⟨B,I,C⟩:=gX m b c t (CH N) N 0 o z (by omega) (wL _);have j:BW N b (CH N) N 0 o=_:=C;rw[j];exact pK (by omega) B (by omega)
def bB (N:Nat) (n z:Int):Gd N n z=some (bA n 0 (BV (z-1))):=rfl
structure Vm (b:AH) (t:Oj):Prop where
 place:0≤t.Ay∧t.Ay<b.F.length
 flood:Jg t.Bs
 lead:0≤t.Bp∧t.Bp≤24
 watch:Jg t.Bt
 quorum:0≤t.Bi∧t.Bi≤128
def Z0 {N:Nat}(w:1000<N) (b:AH) (a:JT b):∃v,Jn N b=some v∧(v=true→∀t∈b.Ak,Vm b t):=by
 have x:=a.pl;have y:=a.to;have z:=a.sh;have j:Df (Eg N b):=by
  unfold Eg;rcases Ic b.As.length (Ee N b (G8 N)) (G8 N) (λ_=>True) (λn k h=>by
   simp only[Ee];rw[Dk h];rfl) (λn k h=>by
   simp only[Ee];rw[D2 h,wD,BC h];simp only[wC,OY,BF (show k<4611686018427387904 by omega)];cases bA (b.As[k]).Ar 0 1073741824
   ·exact .inl rfl
   ·exact .inr ⟨trivial,rfl⟩) N 0 (by omega) (wL _) with h|⟨_,h⟩
  ·exact⟨_,h⟩
  ·exact⟨true,h⟩
 unfold Jn;rcases Ic b.Ak.length (Ef N b (Eg N b)) (Eg N b) (λi=>∀t,b.Ak[i]? =some t→Vm b t) (λn k h=>by
  simp only[Ef];rw[Dk h];rfl) (λn k h=>by
  simp only[Ef];rw[D2 h,wD,BC h];simp only[wC,OY,NX,R0 N _ (show b.F.length<4611686018427387904 by omega),Eb,NA,BF (show k<4611686018427387904 by omega)];generalize d:(_|| !bA (b.Ak[k]).Bi 0 128)=B
  cases B
  ·simp only[xI,zC] at d;obtain⟨⟨⟨⟨⟨l,m⟩,o⟩,A⟩,p⟩,q⟩:=d;refine .inr ⟨λt c=>?_,rfl⟩;have:t=b.Ak[k]:=by simpa [h] using c.symm
   rw[this];have s:=L7 l;exact⟨⟨s.1,by omega⟩,Mc m,L7 o,Mc p,L7 q⟩
  ·exact .inl rfl) N 0 (by omega) (wL _) with h|⟨hp,h⟩
 ·exact⟨false,h,λh=>by cases h⟩
 ·obtain⟨v,u⟩:=j;refine⟨v,h.trans u,λ_ t c=>?_⟩;obtain⟨i,g,rfl⟩:=yZ.1 c;exact hp i (wL _) g _ (by simp [g])
def ZS {N:Nat}(j:1000<N) (b:AH) (c:JT b):Df (JK N b):=by
 have m:=c.ga;unfold JK;rcases Ic b.Ap.length (EQ N b (Gm N)) (Gm N) (λ_=>True) (λn k h=>by
  simp only[EQ];rw[Dk h];rfl) (λn k h=>by
  simp only[EQ];rw[D2 h,wD,BC h];simp only[wC,OY,bB,Eb,NA,BF (show k<4611686018427387904 by omega)];generalize a:(_|| !bA (b.Ap[k]).Bu 0 1440)=B
  cases B
  ·simp only[xI,zC] at a;have d:=L7 a.1.1;obtain⟨z,g⟩:=Df.ix (l:=[(b.F.length:Int),b.T,(b.D.length:Int)]) (i:=(b.Ap[k]).I) d.1 (by simp;omega);rw[g];simp only[wE,wC];cases bA (b.Ap[k]).S 0 (BV (z-1))
   ·exact .inl rfl
   ·exact .inr ⟨trivial,rfl⟩
  ·exact .inl rfl) N 0 (by omega) (wL _) with h|⟨_,h⟩
 ·exact⟨_,h⟩
 ·exact⟨true,h⟩
def aF {N:Nat}(d:1000<N) (b:AH) (a:JT b):Df (Jo N b):=by
 have g:=a.ro;unfold Jo;rcases Ic b.Aq.length (Eh N b (G9 N)) (G9 N) (λ_=>True) (λn k h=>by
  simp only[Eh];rw[Dk h];rfl) (λn k h=>by
  simp only[Eh];rw[D2 h,wD,BC h];simp only[wC,OY,NX,bB,Eb,NA,Sf,BF (show k<4611686018427387904 by omega)];generalize (_|| !VA (b.Aq[k]).Bm)=B
  cases B
  ·simp only[wE];generalize ((decide ((b.Aq[k]).Bl= -1)&&decide ((b.Aq[k]).Bm≠0))||_)=c
   cases c
   ·exact .inr ⟨trivial,rfl⟩
   ·exact .inl rfl
  ·exact .inl rfl) N 0 (by omega) (wL _) with h|⟨_,h⟩
 ·exact⟨_,h⟩
 ·exact⟨true,h⟩
structure Mo (b:AH):Prop where
 head:JT b
 places:∀p∈b.F,MM b p
 links:∀l∈b.D,Ld b l
 towns:∀t∈b.Ak,Vm b t
def chainB {b:Bool}{x:Option Bool}{f:Bool→Option Bool}(Q:Prop) {G:Option Bool→Prop}(h:b=true→∃v,x=some v∧(v=true→Q)) (k:∀c,(c=true→b=true∧Q)→G (f c)):G ((cond b (x.bind λy=>some y) (some false)).bind f):=by
 cases b
 ·exact k false λh=>by cases h
 ·obtain⟨v,a,d⟩:=h rfl;rw[a];exact k v λg=>⟨rfl,d g⟩
def Df.q {x:Option Bool}(h:Df x):∃v,x=some v∧(v=true→True):=by obtain⟨v,a⟩:=h;exact⟨v,a,λ_=>trivial⟩
def WD {N:Nat}(s:18446744073709551616<N) (b:AH):∃v,KM N b=some v∧(v=true→Mo b):=by
 have a:1000<N:=by omega
 unfold KM;obtain⟨H,z,k⟩:=fN a b;rw[z];simp only[wC];refine chainB True (G:=λx=>∃v,x=some v∧(v=true→Mo b)) (λh=>(aO a (k h)).q) λI u=>?_;refine chainB (∀p∈b.F,MM b p) (G:=λx=>∃v,x=some v∧(v=true→Mo b)) (λh=>Y9 a b (k (u h).1)) λA w=>?_;have m:A=true→JT b∧∀p∈b.F,MM b p:=λh=>⟨k (u (w h).1).1,(w h).2⟩
 refine chainB (∀l∈b.D,Ld b l) (G:=λx=>∃v,x=some v∧(v=true→Mo b)) (λh=>aU s b (m h).1) λB n=>?_;have c:B=true→JT b∧(∀p∈b.F,MM b p)∧∀l∈b.D,Ld b l:=λh=>⟨(m (n h).1).1,(m (n h).1).2,(n h).2⟩
 refine chainB True (G:=λx=>∃v,x=some v∧(v=true→Mo b)) (λh=>(W9 a b (c h).1 (c h).2.1 (c h).2.2).q) λJ g=>?_;refine chainB True (G:=λx=>∃v,x=some v∧(v=true→Mo b)) (λh=>(Y3 s b (c (g h).1).1 (c (g h).1).2.1 (c (g h).1).2.2).q) λK i=>?_;refine chainB (∀t∈b.Ak,Vm b t) (G:=λx=>∃v,x=some v∧(v=true→Mo b)) (λh=>Z0 a b (c (g (i h).1).1).1) λM j=>?_;refine chainB True (G:=λx=>∃v,x=some v∧(v=true→Mo b)) (λh=>(ZS a b (c (g (i (j h).1).1).1).1).q) λQ o=>?_;refine chainB True (G:=λx=>∃v,x=some v∧(v=true→Mo b)) (λh=>(aF a b (c (g (i (j (o h).1).1).1).1).1).q) λC y=>?_;refine⟨C,rfl,λh=>?_⟩;have d:=c (g (i (j (o (y h).1).1).1).1).1;exact⟨d.1,d.2.1,d.2.2,(j (o (y h).1).1).2⟩
def Ty {Y b d q r:Nat}(g:q*(Y/4294967296)+r=b):q*(Y%4294967296)≤4294967296*r+d↔q*Y≤b*4294967296+d:=by
 have e:q*Y=4294967296*(q*(Y/4294967296))+q*(Y%4294967296):=by
  conv=>lhs;rw[←Aas Y 4294967296,Nat.mul_add,Nat.mul_left_comm]
 rw[e,←g];generalize q*(Y/4294967296)=a
 generalize q*(Y%4294967296)=c
 omega
def aY {Y a b q:Nat}(d:a<Y) (g:b<4294967296) (c:4294967296≤q):a*4294967296+b<q*Y:=by
 have i:4294967296*Y≤q*Y:=yO _ c;omega
def aZ {Y a b q r:Nat}(c:q*(Y/4294967296)+r=a) (d:1≤q) (g:q≤4294967297) (i:4294967296≤r+Y/4294967296):(q-1)*Y≤a*4294967296+b:=by
 have e:(q-1)*(Y/4294967296)+(r+Y/4294967296)=a:=by
  obtain⟨p,rfl⟩:∃p,q=p+1:=⟨q-1,by omega⟩
  rw[yB] at c;simp only[Aar];omega
 refine(Ty e).1 ?_;have j:(q-1)*(Y%4294967296)≤4294967296*(Y%4294967296):=yO _ (by omega);have k:Y%4294967296<4294967296:=yF _ (by omega);omega
def fM {Y U q:Nat}(c:0<Y) (a:q*Y≤U) (b:U<(q+1)*Y):U/Y=q:=Nat.div_eq_of_lt_le a b
def WV {Y a:Nat}(g:9223372036854775808≤Y) (l:Y<18446744073709551616) (m:a<Y) (d:Nat) (n:d<4294967296):a/(Y/4294967296)≤4294967297∧a/(Y/4294967296)*(Y/4294967296)+a%(Y/4294967296)=a∧a*4294967296+d<(a/(Y/4294967296)+1)*Y∧a%(Y/4294967296)<4294967296:=by
 have i:2147483648≤Y/4294967296:=by omega
 have j:Y/4294967296<4294967296:=by omega
 have b:0<Y/4294967296:=by omega
 have o:a%(Y/4294967296)<Y/4294967296:=yF _ b;have c:a/(Y/4294967296)*(Y/4294967296)+a%(Y/4294967296)=a:=by rw[zZ];exact Aas _ _
 refine⟨?_,c,?_,by omega⟩
 ·refine zT ((Abf b).2 ?_);omega
 ·have k:(a/(Y/4294967296)+1)*(4294967296*(Y/4294967296))≤(a/(Y/4294967296)+1)*Y:=Nat.mul_le_mul_left _ (by omega);rw[Nat.mul_left_comm,yB,Nat.one_mul] at k;omega
def U0 (N:Nat) (p y:Int) (g i:Nat) (Y a b:Nat) (B:Ea .u64 y g=(Y:Int)) (C:Ea .u64 p i=(a:Int)) (s:9223372036854775808≤Y) (d:Y<18446744073709551616) (k:a<18446744073709551616) (D:b<Y) (kj:Int→Option (Int×Int)):
  ∀(n q r:Nat),q<n→q≤4294967297→r<4294967296→q*(Y/4294967296)+r=b→b*4294967296+a/4294967296<(q+1)*Y→
  Dx N p y g i kj n (q:Int) (r:Int)=kj (((b*4294967296+a/4294967296)/Y:Nat):Int)
 |0,q,r,h,_,_,_,_=>by omega
 |n+1,q,r,K,F,M,t,G=>by
  have H:Y/4294967296<4294967296:=by omega
  have l:Y%4294967296<4294967296:=yF _ (by omega);have u:a/4294967296<4294967296:=by omega
  simp only[Dx];rw[B,C,P2,P2,Tx Y d,P7,show(4294967296:Int)=((4294967296:Nat):Int) from rfl,P7,E5 _ (show 4294967296*r<18446744073709551616 by omega),TA,E5 _ (show 4294967296*r+a/4294967296<18446744073709551616 by omega),TA,E5 (r+Y/4294967296) (by omega)];cases o:(decide (((4294967296:Nat):Int)≤(q:Int))||decide (((4294967296*r+a/4294967296:Nat):Int)<IntKind.u64.wrap ((q*(Y%4294967296):Nat):Int)))
  ·simp only[xI,xA] at o;obtain⟨Q,I⟩:=o;have c:q<4294967296:=by omega
   have v:q*(Y%4294967296)<18446744073709551616:=Aa7 (Aat (zT c) (zT l)) (by decide);rw[E5 _ v] at I;rw[wE,fM (by omega) ((Ty t).1 (by omega)) G]
  ·rw[wD];have j:b*4294967296+a/4294967296<q*Y:=by
    rcases xB q 4294967296 with c|c
    ·have v:q*(Y%4294967296)<18446744073709551616:=Aa7 (Aat (zT c) (zT l)) (by decide);rw[E5 _ v] at o;simp only[wZ,wW] at o;refine Nat.lt_of_not_le λw=>?_;have:=(Ty t).2 w;omega
    ·exact aY D u c
   have x:1≤q:=by
    rcases Aa8 q with e|e
    ·rw[e,Nat.zero_mul] at j;omega
    ·exact e
   have z:IntKind.u64.wrap ((q:Int)-1)=((q-1:Nat):Int):=by rw[show (q:Int)-1=((q-1:Nat):Int) by omega];exact E5 _ (by omega)
   rw[z];have A:q-1+1=q:=by omega
   cases m:decide (((4294967296:Nat):Int)≤((r+Y/4294967296:Nat):Int))
   ·rw[wE];have J:(q-1)*(Y/4294967296)+(r+Y/4294967296)=b:=by
     have:q*(Y/4294967296)=(q-1)*(Y/4294967296)+Y/4294967296:=by
      conv=>lhs;rw[←A,yB,Nat.one_mul]
     omega
    simp only[xA] at m;exact U0 N p y g i Y a b B C s d k D kj n (q-1) (r+Y/4294967296) (by omega) (by omega) (by omega) J (by rw[A];exact j)
   ·rw[wD];simp only[wW] at m;rw[fM (by omega) (aZ t x F (by omega)) (by rw[A];exact j)]
def Uz (N:Nat) (p y:Int) (i j:Nat) (Y a b:Nat) (B:Ea .u64 y i=(Y:Int)) (C:Ea .u64 p j=(a:Int)) (s:9223372036854775808≤Y) (d:Y<18446744073709551616) (g:a<18446744073709551616) (D:b<Y) (kj:Int→Option (Int×Int)):
  ∀(n q r:Nat),q<n→q≤4294967297→r<4294967296→q*(Y/4294967296)+r=b→b*4294967296+a%4294967296<(q+1)*Y→
  EM N p y i j kj n (r:Int) (q:Int)=kj (((b*4294967296+a%4294967296)/Y:Nat):Int)
 |0,q,r,h,_,_,_,_=>by omega
 |n+1,q,r,K,F,M,t,G=>by
  have H:Y/4294967296<4294967296:=by omega
  have l:Y%4294967296<4294967296:=yF _ (by omega);have u:a%4294967296<4294967296:=yF _ (by omega);simp only[EM];rw[B,C,P2,Tx a g,Tx Y d,P7,show(4294967296:Int)=((4294967296:Nat):Int) from rfl,P7,E5 _ (show 4294967296*r<18446744073709551616 by omega),TA,E5 _ (show 4294967296*r+a%4294967296<18446744073709551616 by omega),TA,E5 (r+Y/4294967296) (by omega)];cases o:(decide (((4294967296:Nat):Int)≤(q:Int))||decide (((4294967296*r+a%4294967296:Nat):Int)<IntKind.u64.wrap ((q*(Y%4294967296):Nat):Int)))
  ·simp only[xI,xA] at o;obtain⟨Q,I⟩:=o;have c:q<4294967296:=by omega
   have v:q*(Y%4294967296)<18446744073709551616:=Aa7 (Aat (zT c) (zT l)) (by decide);rw[E5 _ v] at I;rw[wE,fM (by omega) ((Ty t).1 (by omega)) G]
  ·rw[wD];have k:b*4294967296+a%4294967296<q*Y:=by
    rcases xB q 4294967296 with c|c
    ·have v:q*(Y%4294967296)<18446744073709551616:=Aa7 (Aat (zT c) (zT l)) (by decide);rw[E5 _ v] at o;simp only[wZ,wW] at o;refine Nat.lt_of_not_le λw=>?_;have:=(Ty t).2 w;omega
    ·exact aY D u c
   have x:1≤q:=by
    rcases Aa8 q with e|e
    ·rw[e,Nat.zero_mul] at k;omega
    ·exact e
   have z:IntKind.u64.wrap ((q:Int)-1)=((q-1:Nat):Int):=by rw[show (q:Int)-1=((q-1:Nat):Int) by omega];exact E5 _ (by omega)
   rw[z];have A:q-1+1=q:=by omega
   cases m:decide (((4294967296:Nat):Int)≤((r+Y/4294967296:Nat):Int))
   ·rw[wE];have J:(q-1)*(Y/4294967296)+(r+Y/4294967296)=b:=by
     have:q*(Y/4294967296)=(q-1)*(Y/4294967296)+Y/4294967296:=by
      conv=>lhs;rw[←A,yB,Nat.one_mul]
     omega
    simp only[xA] at m;exact Uz N p y i j Y a b B C s d g D kj n (q-1) (r+Y/4294967296) (by omega) (by omega) (by omega) J (by rw[A];exact k)
   ·rw[wD];simp only[wW] at m;rw[fM (by omega) (aZ t x F (by omega)) (by rw[A];exact k)]
def kJ (a b:Nat) (h:b≠0) (c:a<18446744073709551616):Qq .u64 (a:Int) (b:Int)=some ((a/b:Nat):Int):=by
 unfold Qq;rw[wF (by omega)];have e:(a:Int).tdiv (b:Int)=((a/b:Nat):Int):=rfl;have:a/b≤a:=Nat.div_le_self _ _;rw[e,E5 _ (by omega)]
def pP (a b:Nat) (h:b≠0):UV (a:Int) (b:Int)=some ((a%b:Nat):Int):=by
 unfold UV;rw[wF (by omega)];rfl
def jT (a s:Nat) (d:s≤64):Ea .u64 (a:Int) s=((a*2^s%18446744073709551616:Nat):Int):=by
 unfold Ea;have b:min s IntKind.u64.bits=s:=by simp [IntKind.bits];omega
 have c:((a:Int)*2^s)=((a*2^s:Nat):Int):=by simp
 rw[b,c];exact gV _
def orN (a b:Nat) (g:a<18446744073709551616) (i:b<18446744073709551616):Jp .or .u64 (a:Int) (b:Int)=((a|||b:Nat):Int):=by
 have c:(BitVec.ofInt 64 (a:Int)).toNat=a:=by rw[Aa5,Aa6];exact zL (by omega)
 have d:(BitVec.ofInt 64 (b:Int)).toNat=b:=by rw[Aa5,Aa6];exact zL (by omega)
 have j:a|||b<2^64:=Nat.or_lt_two_pow (by omega) (by omega)
 show IntKind.u64.wrap (((BitVec.ofInt 64 (a:Int))|||(BitVec.ofInt 64 (b:Int))).toNat:Int)=_
 rw[BitVec.toNat_or,c,d,E5 _ (by omega)]
def Wc (a b:Nat):a=a/b*b+a%b:=by rw[zZ];exact(Aas a b).symm
def Zz {Y A B u:Nat}(a:0<Y):(A*B+u)/Y=A/Y*B+(A%Y*B+u)/Y∧(A*B+u)%Y=(A%Y*B+u)%Y:=by
 have b:=Aas A Y;have e:A*B+u=Y*(A/Y*B)+(A%Y*B+u):=by
  conv=>lhs;rw[←b,yB,Nat.mul_assoc,Nat.add_assoc]
 rw[e];exact⟨by rw[Nat.mul_add_div a],by rw[Nat.mul_add_mod]⟩
def Om {a b q Y R:Nat}(h:a=q*Y+R) (c:R<18446744073709551616) (d:b=a%18446744073709551616):IntKind.u64.wrap ((b:Int)-IntKind.u64.wrap ((q*Y:Nat):Int))=(R:Int):=by
 rw[OL,OL];generalize q*Y=t at h
 omega
def ZX {N:Nat}(X:18446744073709551616<N) (w l y:Int) (s:Nat) (Z:s≤63) (m n:Nat) (Y c g k d:Nat) (p:Ea .u64 y s=(Y:Int)) (q:Ea .u64 l s=(c:Int)) (x:Jp .or .u64 (Ea .u64 w m) (E6 .u64 l n)=(g:Int))
  (o:9223372036854775808≤Y) (i:Y<18446744073709551616) (j:c<18446744073709551616) (hu:g<Y) (D:(g*4294967296+c/4294967296)=k*Y+d) (A:d<Y) (F:k<4294967296):
  EN N w l y (s:Int) s m n s (k:Int)=some (((k*4294967296+(d*4294967296+c%4294967296)/Y:Nat):Int),(((d*4294967296+c%4294967296)%Y/2^s:Nat):Int)):=by
 have G:0<Y/4294967296:=by omega
 have H:Y/4294967296<4294967296:=by omega
 have u:c%4294967296<4294967296:=yF _ (by omega);have B:IntKind.u64.wrap (IntKind.u64.wrap (IntKind.u64.wrap ((g:Int)*4294967296)+E6 .u64 (Ea .u64 l s) 32)-IntKind.u64.wrap ((k:Int)*(Y:Int)))=(d:Int):=by
  rw[q,P2,P7];refine(wH (λz=>IntKind.u64.wrap (z-_)) ?_).trans (Om (b:=(g*4294967296+c/4294967296)%18446744073709551616) D (by omega) rfl);rw[OL,OL];omega
 obtain⟨I,C,J,K⟩:=WV o i A (c%4294967296) u;unfold EN;rw[x,p,B,P2,kJ _ _ (by omega) (by omega)];simp only[wC];have M:IntKind.u64.wrap ((d:Int)-IntKind.u64.wrap (((d/(Y/4294967296):Nat):Int)*((Y/4294967296:Nat):Int)))=((d%(Y/4294967296):Nat):Int):=by
  rw[P7];exact Om (a:=d) C.symm (by omega) (by omega)
 rw[M,Uz N l y s s Y c d p q o i j A _ N _ _ (by omega) I K C J];unfold GO;have Q:RY (IntKind.u64.wrap (s:Int))=some s:=by
  rw[E5 s (by omega)];unfold RY;rw[wF (by omega)];simp
 rw[x,p,Q,B,q,Tx c j];simp only[wC];have hd:=Aas (d*4294967296+c%4294967296) Y;have v:(d*4294967296+c%4294967296)/Y<4294967296:=(Abf (by omega)).2 (by omega);have U:(d*4294967296+c%4294967296)%Y<Y:=yF _ (by omega);have V:IntKind.u64.wrap (IntKind.u64.wrap (IntKind.u64.wrap ((d:Int)*4294967296)+((c%4294967296:Nat):Int))-IntKind.u64.wrap (((((d*4294967296+c%4294967296)/Y:Nat)):Int)*(Y:Int)))=(((d*4294967296+c%4294967296)%Y:Nat):Int):=by
  rw[P7];refine(wH (λz=>IntKind.u64.wrap (z-_)) ?_).trans (Om (a:=d*4294967296+c%4294967296) (b:=(d*4294967296+c%4294967296)%18446744073709551616) (Wc _ _) (by omega) rfl);rw[OL,OL];omega
 have W:IntKind.u64.wrap (IntKind.u64.wrap ((k:Int)*4294967296)+((((d*4294967296+c%4294967296)/Y:Nat)):Int))=((k*4294967296+(d*4294967296+c%4294967296)/Y:Nat):Int):=by
  rw[OL,OL];generalize (d*4294967296+c%4294967296)/Y=t at v
  omega
 rw[V,W,W0 _ s (by omega)]
def fP (a u:Nat):(a*4294967296+u/4294967296)*4294967296+u%4294967296=a*18446744073709551616+u:=by omega
def bQ {N:Nat}(D:18446744073709551616<N) (o m y:Int) (s:Nat) (F:s≤63) (g i:Nat) (Y c b:Nat) (p:Ea .u64 y s=(Y:Int)) (w:Ea .u64 m s=(c:Int)) (x:Jp .or .u64 (Ea .u64 o g) (E6 .u64 m i)=(b:Int))
  (l:9223372036854775808≤Y) (j:Y<18446744073709551616) (k:c<18446744073709551616) (q:b<Y):
  ((Qq .u64 (Jp .or .u64 (Ea .u64 o g) (E6 .u64 m i)) (E6 .u64 (Ea .u64 y s) 32)).bind λn=>
   Dx N m y s s (EN N o m y (s:Int) s g i s) N n (IntKind.wrap .u64 ((Jp .or .u64 (Ea .u64 o g) (E6 .u64 m i))-(IntKind.wrap .u64 (n*(E6 .u64 (Ea .u64 y s) 32))))))=
  some ((((b*18446744073709551616+c)/Y:Nat):Int),(((b*18446744073709551616+c)%Y/2^s:Nat):Int)):=by
 have d:0<Y:=by omega
 have t:c/4294967296<4294967296:=by omega
 obtain⟨G,z,H,I⟩:=WV l j q (c/4294967296) t;obtain⟨C,t2⟩:=Zz (Y:=Y) (A:=b*4294967296+c/4294967296) (B:=4294967296) (u:=c%4294967296) d;rw[fP] at C t2;rw[C,t2,x,p,P2,kJ _ _ (by omega) (by omega)];simp only[wC];have J:IntKind.u64.wrap ((b:Int)-IntKind.u64.wrap (((b/(Y/4294967296):Nat):Int)*((Y/4294967296:Nat):Int)))=((b%(Y/4294967296):Nat):Int):=by
  rw[P7];exact Om (a:=b) z.symm (by omega) (by omega)
 have v:(b*4294967296+c/4294967296)/Y<4294967296:=(Abf d).2 (by omega);rw[J,U0 N _ _ s s Y c b p w l j k q _ N _ _ (by omega) G I z H];exact ZX D _ _ _ s F g i Y c b _ _ p w x l j k q (Wc _ _) (yF _ d) v
def Z9 {h l s M:Nat}(b:M=2^64) (d:s≤63):(h*2^s+l/2^(64-s))*M+l*2^s%M=(h*M+l)*2^s:=by
 have e:(2:Nat)^64=2^(64-s)*2^s:=by rw[←Nat.pow_add];congr 1;omega
 have c:l*2^s/M=l/2^(64-s):=by
  rw[b,e,Nat.mul_div_mul_right _ _ (Aaq s)]
 have a:=Aas (l*2^s) M;rw[c] at a;rw[yB,yB,Nat.mul_right_comm h,Nat.add_assoc,zZ (l/2^(64-s)) M];exact wH _ a
def We {N:Nat}(o:18446744073709551616<N) (h l y:Nat) (c:l<18446744073709551616) (p:y<18446744073709551616) (k:h<y):
  G4 N (h:Int) (l:Int) (y:Int)=some ((((h*18446744073709551616+l)/y:Nat):Int),(((h*18446744073709551616+l)%y:Nat):Int)):=by
 unfold G4;rw[show decide ((y:Int)=0)=false by simp;omega,show decide ((y:Int)≤(h:Int))=false by simp;omega,wE,wE];rcases Aa8 h with e|hp
 ·subst e;rw[show decide (((0:Nat):Int)=0)=true by simp,wD,kJ _ _ (by omega) c,pP _ _ (by omega),Nat.zero_mul,xM];rfl
 ·rw[show decide ((h:Int)=0)=false by simp;omega,wE];obtain⟨s,q,m,u,d⟩:=iE N (show 0<y by omega) p;have n:∀t:Nat,t≤64→RY (IntKind.u64.wrap (t:Int))=some t:=λt A=>by
   rw[E5 t (by omega)];unfold RY;rw[wF (by omega)];simp
  have g:(64:Int)-IntKind.u64.wrap (s:Int)=((64-s:Nat):Int):=by rw[E5 s (by omega)];omega
  rw[q,wC,g,n s (by omega),n (64-s) (by omega),wC,wC,wC,wC];have a:h*2^s<18446744073709551616:=Aa7 (yO _ (Nat.le_of_lt k)) d;have b:l/2^(64-s)<2^s:=by
   refine(Abf (Aaq _)).2 ?_;rw[←Nat.pow_add,show s+(64-s)=64 by omega];exact c
  have i:l/2^(64-s)<18446744073709551616:=Aa7 (Nat.div_le_self _ _) c;have j:h*2^s|||l/2^(64-s)=h*2^s+l/2^(64-s):=by
   rw[zZ h];exact(Nat.two_pow_add_eq_or_of_lt b h).symm
  have v:Ea .u64 (y:Int) s=((y*2^s:Nat):Int):=by rw[jT _ _ (by omega),zL d]
  have w:Ea .u64 (l:Int) s=((l*2^s%18446744073709551616:Nat):Int):=jT _ _ (by omega);have x:Jp .or .u64 (Ea .u64 (h:Int) s) (E6 .u64 (l:Int) (64-s))=((h*2^s+l/2^(64-s):Nat):Int):=by
   rw[jT _ _ (by omega),W0 _ _ (by omega),zL a,orN _ _ a i,j]
  have z:h*2^s+l/2^(64-s)<y*2^s:=by
   have:(h+1)*2^s≤y*2^s:=yO _ k;rw[yB,Nat.one_mul] at this;exact wX (Nat.add_lt_add_left b _) this
  have hd:=bQ o (h:Int) (l:Int) (y:Int) s m s (64-s) _ _ _ v w x u d (yF _ (by omega)) z;rw[Z9 (M:=18446744073709551616) rfl m,Nat.mul_div_mul_right _ _ (Aaq s),Nat.mul_mod_mul_right,Nat.mul_div_cancel _ (Aaq s)] at hd;exact hd
def eI (a n d:Int):Int×Int×Bool:=if (0≤a∧a≤1125899906842624)∧(0≤n∧n≤1125899906842624)∧(1≤d∧d≤1125899906842624)∧a*n/d≤1125899906842624 then (a*n/d,a*n%d,true) else (0,0,false)
def jU {t d:Nat}(hd:0<d) (h:d≤t/18446744073709551616):18446744073709551616≤t/d:=by
 refine(Nat.le_div_iff_mul_le hd).2 ?_;omega
def MA {N:Nat}(t:18446744073709551616<N) (a n d:Int):HC N a n d=some (eI a n d):=by
 unfold HC eI;cases m:(((((decide (a<0)||decide (1125899906842624<a))||decide (n<0))||decide (1125899906842624<n))||decide (d<1))||decide (1125899906842624<d))
 ·simp only[xI,xA] at m;obtain⟨⟨⟨⟨⟨y,z⟩,A⟩,B⟩,C⟩,D⟩:=m;obtain⟨b,rfl⟩:∃k:Nat,a=k:=⟨a.toNat,by omega⟩
  obtain⟨c,rfl⟩:∃k:Nat,n=k:=⟨n.toNat,by omega⟩
  obtain⟨g,rfl⟩:∃k:Nat,d=k:=⟨d.toNat,by omega⟩
  rw[wE,E5 b (by omega),E5 c (by omega),E5 g (by omega),Rv N b c (by omega) (by omega)];simp only[wC];have u:(b:Int)*(c:Int)/(g:Int)=((b*c/g:Nat):Int):=by rw[Int.natCast_ediv,zO]
  have v:(b:Int)*(c:Int)%(g:Int)=((b*c%g:Nat):Int):=by rw[Int.natCast_emod,zO]
  rw[u,v];have o:b*c/18446744073709551616*18446744073709551616+b*c%18446744073709551616=b*c:=(Wc _ _).symm;have j:0<g:=by omega
  by_cases l:g≤b*c/18446744073709551616
  ·rw[show decide ((g:Int)≤((b*c/18446744073709551616:Nat):Int))=true from wJ (Int.ofNat_le.2 l),wD,wF];intro h;have p:=h.2.2.2;have w:=jU j l;generalize b*c/g=q at p w
   omega
  ·have s:¬(g:Int)≤((b*c/18446744073709551616:Nat):Int):=λh=>l (Int.ofNat_le.1 h);rw[wM s,wE,We t _ _ _ (yF _ (by omega)) (by omega) (Nat.lt_of_not_le l),o];simp only[wC];have x:b*c%g<g:=yF _ j;generalize b*c/g=q
   generalize b*c%g=r at x
   by_cases p:q≤1125899906842624
   ·have i:¬(1125899906842624:Int)<(q:Int):=by omega
    rw[wM i,wE,wG ⟨by omega,by omega,by omega,by omega⟩,Cw (by omega) (by omega),Cw (by omega) (by omega)]
   ·have i:(1125899906842624:Int)<(q:Int):=by omega
    rw[wJ i,wD,wF (λh=>p (by have:=h.2.2.2;omega))]
 ·rw[wD,wF];intro h;simp only[wZ,wW] at m;omega
end Go.Proofs.YtibidnaedddfdaaGreat
