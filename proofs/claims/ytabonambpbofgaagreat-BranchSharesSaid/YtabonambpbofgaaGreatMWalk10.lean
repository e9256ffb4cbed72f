import Derived.Test.YtabonambpbofgaaGreatMInst
import Derived.Test.YtabonambpbofgaaGreatMForms
import Derived.Test.YtabonambpbofgaaGreatMSort5
import Derived.Test.YtabonambpbofgaaGreatMCore47
import Derived.Test.YtabonambpbofgaaGreatMSortD
import Derived.Test.YtabonambpbofgaaGreatMWalk6
import Derived.Test.YtabonambpbofgaaGreatMWalk9
namespace Go.Proofs.YtabonambpbofgaaGreat
set_option linter.all false
open Go.RowKit
open Go.Proofs.Tryz
set_option maxRecDepth 10000
set_option maxHeartbeats 20000000
variable {N:Nat}{S:Nat→Prop}{L:List HP}{h:AO}
def PN {g:Nat}{p0_w:AK}{af:Value}{ag:Value}{ah:Value}{ai:Value}{aj:Value}{ak:Value}{am:Value}{an:Value}{Y:Value}{Z:Value}{ab:Value}{ac:Value}{l:Value}{d:Value}{q:Value}{ad:Value}{t:Value}{u:Value}{x:Value}{y:Value}{z:Value}{Q:Value}(hs:St S (Bx g 112 [.string p0_w.b.D,af,vI p0_w.b.J,ag,ah,ai,aj,ak,am,an,vI p0_w.b.K,Y,Z,ab,ac,l,vI p0_w.s.B,d,q,ad,t,u,x,y,z,Q]::OO AB 3 29 d p0_w.s.G::OS AB 3 q p0_w.s.N::OS BQ 107 t p0_w.s.R::OS AB 3 u p0_w.s.L::OS AB 3 x p0_w.s.O::OS B7 116 y p0_w.moves::OS AB 3 z p0_w.peaks::OS AX 103 Q p0_w.sent::L) h) (ce:p0_w.b.D.size≤maxLen) (ar:Sl S h A5.str af p0_w.b.H) (cf:AA p0_w.b.J) (aw:Sl S h BY ag p0_w.b.A) (cg:Sl S h B8 ah p0_w.b.C) (ch:Sl S h G7 ai p0_w.b.Af) (ci:Sl S h Eg aj p0_w.b.Ah) (cj:Sl S h Gr ak p0_w.b.Ai) (ck:Sl S h DM am p0_w.b.Ak) (cl:Sl S h AB an p0_w.b.Aj) (bl:AA p0_w.b.K) (bm:Sl S h AB Y p0_w.in_.T) (bn:Sl S h Cm Z p0_w.in_.Ab) (bo:Sl S h FD ab p0_w.in_.Ac) (bp:Sl S h DE ac p0_w.in_.U) (au:Sl S h Da l p0_w.in_.Ae) (bq:AA p0_w.s.B) (br:Sl S h AX ad p0_w.s.I) {r:(List (List Int))}(E:FY N p0_w=some r):
 CJ prog 59 #[vP g 0] S h (λv S' h'=>∃av:Value,v= .tuple #[]∧St S' (Bx g 112 [.string p0_w.b.D,af,vI p0_w.b.J,ag,ah,ai,aj,ak,am,an,vI p0_w.b.K,Y,Z,ab,ac,l,vI p0_w.s.B,av,q,ad,t,u,x,y,z,Q]::OO AB 3 29 av r::OS AB 3 q p0_w.s.N::OS BQ 107 t p0_w.s.R::OS AB 3 u p0_w.s.L::OS AB 3 x p0_w.s.O::OS B7 116 y p0_w.moves::OS AB 3 z p0_w.peaks::OS AX 103 Q p0_w.sent::L) h'):=by
 refine CJ.go 70 func59 O ntmps59 O λB=>?_;rw[FY] at E;refine AU ?_;refine A4 (A6 (λn0=>λa w=>∃(i5:Int) (l7:List (List Int)),IV B S h (70,[]) a w [(9,vI (↑p0_w.in_.Ae.length:Int)),(8,l),(0,vP g 0),(10,vI i5)] (Bx g 112 [.string p0_w.b.D,af,vI p0_w.b.J,ag,ah,ai,aj,ak,am,an,vI p0_w.b.K,Y,Z,ab,ac,l,vI p0_w.s.B,d,q,ad,t,u,x,y,z,Q]::OO AB 3 29 d l7::OS AB 3 q p0_w.s.N::OS BQ 107 t p0_w.s.R::OS AB 3 u p0_w.s.L::OS AB 3 x p0_w.s.O::OS B7 116 y p0_w.moves::OS AB 3 z p0_w.peaks::OS AX 103 Q p0_w.sent::L) λ_ _=>AA i5∧Cy N p0_w n0 i5 l7=some r) N ?_ ?_ ?_)
 ·intro aa ww hf hw;exact⟨0,p0_w.s.G,_,_,hf.sub (kp [9,8,0,10] O),hw,hs,(BF.refl S h),(iq (n:=0) O),E⟩
 ·rintro aa ww ⟨_,_,_,_,_,_,_,_,_,E⟩;rw[Cy] at E;cases E
 rintro n0 aa ww ⟨i5,l7,S8,h9,hf,hw,bj,cm,r6,E⟩;refine AL ?_ hf hw;clear hf hw ww aa;rw[Cy] at E;refine AU ?_;refine AH O E (λde E=>?_) (λde E=>?_)
 ·refine AU ?_;refine AS (λa w=>∃(bi:List (List Int)),IV B S8 h9 (70,[]) a w [(9,vI (↑p0_w.in_.Ae.length:Int)),(8,l),(0,vP g 0),(10,vI i5)] (Bx g 112 [.string p0_w.b.D,af,vI p0_w.b.J,ag,ah,ai,aj,ak,am,an,vI p0_w.b.K,Y,Z,ab,ac,l,vI p0_w.s.B,d,q,ad,t,u,x,y,z,Q]::OO AB 3 29 d bi::OS AB 3 q p0_w.s.N::OS BQ 107 t p0_w.s.R::OS AB 3 u p0_w.s.L::OS AB 3 x p0_w.s.O::OS B7 116 y p0_w.moves::OS AB 3 z p0_w.peaks::OS AX 103 Q p0_w.sent::L) λ_ _=>Gv N i5 (Cy N p0_w n0) bi=some r) ?_ ?_
  ·refine AU ?_;have df:=au.mono' cm;refine BH E O O df aT.1 O λao E fo dg=>?_;obtain⟨fp,_,dh⟩:=dg.lv;refine AU ?_;refine Dp nA O bj λax fq cn co=>?_;have di:=dh.mono co;obtain⟨rfl,⟨bs,cp,cq,dj⟩⟩:=Da.ex di;refine Eh O O O O nQ.1 O cn .head O λfr cr dk=>AU ?_;refine CW (.inr ⟨mo,by kernel_rfl⟩) cr ?_;have dl:=aw.nw;have dm:=dl.le;refine AU ?_;refine BA E O O O Oi O (λcs ct h' o=>Hk (St.all h') bs (K4 dm) ct) λcs E=>AU ?_;obtain⟨cu,ap,E⟩:=bd E;refine AY 10 33 (.bool cu) ?_ ?_
   ·cases cv:cs
    ·have ap:=HM cv ap;cases ap;exact BE O O
    have ap:=HL cv ap;have dn:=ar.nw;have dp:=dn.le;refine AU ?_;refine BA ap O O O Oi O (λdq cw h' o=>Hk (St.all h') cp (K4 dp) cw) λdq ap=>AU ?_;cases ap;exact AZ O
   refine AU ?_;obtain⟨dr,aq,E⟩:=bd E;refine AY 10 44 (.bool dr) ?_ ?_
   ·cases cx:cu
    ·have aq:=HM cx aq;cases aq;exact BE O O
    have aq:=HL cx aq;have ds:=ar.nw;have dt:=ds.le;refine AU ?_;refine BA aq O O O Oi O (λdu cy h' o=>Hk (St.all h') cq (K4 dt) cy) λdu aq=>AU ?_;cases aq;exact AZ O
   refine BW (kp [44,3,9,8,0,10] O) λdv c dw=>AH O E (λdx E=>?_) (λdx E=>?_)
   ·obtain ⟨fs,cz,E⟩:=bd E;obtain⟨dy,c0,E⟩:=bd E;obtain⟨c1,c2,E⟩:=bd E;obtain⟨ft,c3,E⟩:=bd E;refine Ux (m:=[(3,vP ax 0),(9,vI (↑p0_w.in_.Ae.length:Int)),(8,l),(0,vP g 0),(10,vI i5)]) [24] [] [] (by kernel_rfl) (λgv X F i v hh=>match i with|0=>v=vP g 0|1=>v=vP g 0|2=>v=vP g 16|3=>v=vP g 17|4=>v=d|5=>v=vP ax 0|6=>v=vI ao.Ap∧AA ao.Ap|7=>v=vP g 0|8=>v=vP g 0|9=>v=vP g 16|10=>v=vP g 17|11=>v=d|12=>v=vP ax 0|13=>v=vI ao.Ap∧AA ao.Ap|14=>EP d (ao.Ap.toNat*((A5.sl AB)).sz+0) v|15=>Sl (λb=>b<hh.size) hh AB v dy|16=>v=vP ax 1|17=>v=vI ao.M∧AA ao.M|18=>v=vP ax 2|19=>v=vI ao.E∧AA ao.E|20=>v=vP ax 3|21=>v=vI ao.Bd∧AA ao.Bd|22=>OW S8 dv X F [OS AB 3 v c1] hh|23=>EP d (ao.Ap.toNat*((A5.sl AB)).sz+0) v|_=>False) [[],[(0,45)],[(1,46)],[(2,47)],[(3,48)],[],[(5,50)],[],[(7,52)],[(8,53)],[(9,54)],[(10,55)],[],[(12,57)],[(11,56),(13,58)],[(14,59)],[],[(16,61)],[],[(18,63)],[],[(20,65)],[(15,60),(17,62),(19,64),(21,66)],[(4,49),(6,51)],[]] [(22,67),(23,68)] mo (by kernel_rfl) [3,9,8,0,10] O (by kernel_rfl) (by kernel_rfl) (by kernel_rfl) O (kp [3,9,8,0,10] O) (λgv i v h1 h2 X X' F o1 o2 hF u1 u2 V=>?_) (λgv fu X F i v h1 hz V=>?_) ?_ ?_ ?_
    ·match i,V with
      |0,V|1,V|2,V|3,V|4,V|5,V|6,V|7,V|8,V|9,V|10,V|11,V|12,V|13,V|14,V|16,V|17,V|18,V|19,V|20,V|21,V|23,V=>exact V
      |15,V=>exact Sl.mono V (λb hb=>Aa8 hb o2.siz) (λb hb=>o2.same b hb)
      |22,V=>exact OW.mono c.1 o1 o2 hF u1 u2 V
      |_+24,V=>exact V.elim
    ·match i,V with
      |0,V|1,V|2,V|3,V|4,V|5,V|6,V|7,V|8,V|9,V|10,V|11,V|12,V|13,V|14,V|15,V|16,V|17,V|18,V|19,V|20,V|21,V|22,V|23,V=>exact V
      |_+24,V=>exact V.elim
    ·exact trivial
    ·refine C3.cons O O ?_ ?_
     ·intro gv X mq hh o hX;have W:=o.st c;refine AU ?_;exact BV O
     refine C3.cons O O ?_ ?_
     ·intro gv X mq hh o hX;have W:=o.st c;intro fv bt;obtain⟨ek,_,_,bt⟩:=bt;cases bt;refine AU ?_;exact BV O
     refine C3.cons O O ?_ ?_
     ·intro gv X mq hh o hX;have W:=o.st c;intro fw bu;obtain⟨el,_,_,bu⟩:=bu;cases bu;refine AU ?_;exact BV O
     refine C3.cons O O ?_ ?_
     ·intro gv X mq hh o hX;have W:=o.st c;intro fx bv;obtain⟨em,_,_,bv⟩:=bv;cases bv;refine AU ?_;exact BV O
     refine C3.cons O O ?_ ?_
     ·intro gv X mq hh o hX;have W:=o.st c;intro fy bw;obtain⟨en,_,_,bw⟩:=bw;cases bw;refine AU ?_;exact BV O
     refine C3.cons O O ?_ ?_
     ·intro gv X mq hh o hX;have W:=o.st c;refine AU ?_;exact BV O
     refine C3.cons O O ?_ ?_
     ·intro gv X mq hh o hX;have W:=o.st c;intro f0 bx;obtain⟨eo,_,_,bx⟩:=bx;cases bx;refine AU ?_;exact BV ⟨O,bs⟩
     refine C3.cons O O ?_ ?_
     ·intro gv X mq hh o hX;have W:=o.st c;refine AU ?_;exact BV O
     refine C3.cons O O ?_ ?_
     ·intro gv X mq hh o hX;have W:=o.st c;intro f1 bz;obtain⟨ep,_,_,bz⟩:=bz;cases bz;refine AU ?_;exact BV O
     refine C3.cons O O ?_ ?_
     ·intro gv X mq hh o hX;have W:=o.st c;intro f2 b0;obtain⟨eq,_,_,b0⟩:=b0;cases b0;refine AU ?_;exact BV O
     refine C3.cons O O ?_ ?_
     ·intro gv X mq hh o hX;have W:=o.st c;intro f3 b1;obtain⟨er,_,_,b1⟩:=b1;cases b1;refine AU ?_;exact BV O
     refine C3.cons O O ?_ ?_
     ·intro gv X mq hh o hX;have W:=o.st c;intro f4 ay;obtain⟨dz,_,_,ay⟩:=ay;cases ay;refine AU ?_;exact BV O
     refine C3.cons O O ?_ ?_
     ·intro gv X mq hh o hX;have W:=o.st c;refine AU ?_;exact BV O
     refine C3.cons O O ?_ ?_
     ·intro gv X mq hh o hX;have W:=o.st c;intro es az;obtain⟨d0,_,_,az⟩:=az;cases az;refine AU ?_;exact BV ⟨O,bs⟩
     refine C3.cons O O ?_ ?_
     ·intro gv X mq hh o hX;have W:=o.st c;intro eu a0 ev a1;obtain⟨d1,_,_,a0⟩:=a0;cases a0;obtain⟨d2,_,_,a1⟩:=a1;obtain⟨rfl,ew⟩:=a1;refine AU ?_;refine Qm (r:=AB) W (mt (mt mh)) O O Jl.1 cz O λey b2=>AU ?_;exact BV b2
     refine C3.cons O O ?_ ?_
     ·intro gv X mq hh o hX;have W:=o.st c;intro ez a2;obtain⟨d3,_,_,a2⟩:=a2;refine AU ?_;refine U6 (r:=AB) Hi W (mt (mt mh)) O c0 a2 GD.1 O λe0 d4 c4=>AU ?_;exact BV c4
     refine C3.cons O O ?_ ?_
     ·intro gv X mq hh o hX;have W:=o.st c;refine AU ?_;exact BV O
     refine C3.cons O O ?_ ?_
     ·intro gv X mq hh o hX;have W:=o.st c;intro e1 a3;obtain⟨d5,_,_,a3⟩:=a3;cases a3;refine AU ?_;exact BV ⟨O,cp⟩
     refine C3.cons O O ?_ ?_
     ·intro gv X mq hh o hX;have W:=o.st c;refine AU ?_;exact BV O
     refine C3.cons O O ?_ ?_
     ·intro gv X mq hh o hX;have W:=o.st c;intro e2 a4;obtain⟨d6,_,_,a4⟩:=a4;cases a4;refine AU ?_;exact BV ⟨O,cq⟩
     refine C3.cons O O ?_ ?_
     ·intro gv X mq hh o hX;have W:=o.st c;refine AU ?_;exact BV O
     refine C3.cons O O ?_ ?_
     ·intro gv X mq hh o hX;have W:=o.st c;intro e3 a5;obtain⟨d7,_,_,a5⟩:=a5;cases a5;refine AU ?_;exact BV ⟨O,dj⟩
     refine O1 O O ?_ ?_
     ·intro gv X mq hh o hX;have W:=SX.fz (X:=X) c o;intro e4 a6 e5 a7 e6 a8 e7 a9;obtain⟨d8,_,_,a6⟩:=a6;obtain⟨d9,_,_,a7⟩:=a7;obtain⟨rfl,c5⟩:=a7;obtain⟨ea,_,_,a8⟩:=a8;obtain⟨rfl,c6⟩:=a8;obtain⟨eb,_,_,a9⟩:=a9;obtain⟨rfl,c7⟩:=a9;refine FZ O O O rW O W (TZ (St.all _) a6 c5 c6 c7 c2) λe8 e9 fa ec c8 c9 p=>?_;have b3:=p;have ba:=W.join c9 b3 ⟨OS.flat (λ{_ _ _ _ _ _} k=>k),trivial⟩;simp only[Aa5,Aa6] at ba;have ed:=ba.pick (.tail .head);obtain⟨da,b4,db,fb,dc⟩:=OW.done c.1 o hX c8 ed;exact A7 db ⟨da,b4,dc⟩
     refine C3.cons O O ?_ ?_
     ·intro gv X mq hh o hX;have W:=o.st c;intro fc bb fd bc;obtain⟨ee,_,_,bb⟩:=bb;cases bb;obtain⟨ef,_,_,bc⟩:=bc;obtain⟨rfl,fe⟩:=bc;refine AU ?_;refine Qm (r:=AB) W (mt (mt mh)) O O Jl.1 c3 O λff b5=>AU ?_;exact BV b5
     exact C3.skip (by kernel_rfl) (trivial)
    intro fg eg eh bk be b6 fh bf fi bg;obtain⟨ei,bf⟩:=bf;obtain⟨ej,bg⟩:=bg;have bh:=(XK.cons (XK.nil c bk be) b6 (j:=22) O bf).st;simp only[Aa5,Aa6] at bh;have b7:=bh.sel [0,2,0,0,0,0,0,0,0,0,0] 0 O;obtain⟨fj,b8,E⟩:=bd E;refine Yj (r:=AB) (i:=ao.Ap) O O bg b8 GD.1 b7 λfk b9 dd=>AU ?_;refine WF.nil (λaa ww hf hw=>?_);have ca:=b9.sel [2,0,1,1,1,1,1,1,1] 1 O;have cb:=co.trans (dk.trans (dw.trans ((SX.ext c.1 bk (gG be)).trans dd)));exact⟨(upd l7 ao.Ap c1),_,_,hf.sub (kp [9,8,0,10] O),hw,ca,cb,E⟩
   refine AU ?_;refine WF.nil (λaa ww hf hw=>?_);have cc:=c.sel [1,1,1,1,1,1,1,1,1] 1 O;exact⟨l7,_,_,hf.sub (kp [9,8,0,10] O),hw,cc,EX,E⟩
  rintro aa ww ⟨bi,fl,fm,hf,hw,cd,fn,E⟩;refine AL ?_ hf hw;clear hf hw ww aa;rw[Gv] at E;refine AU ?_;refine WF.nil (λaa ww hf hw=>?_);exact⟨(BO (i5+1)),bi,_,_,hf.sub (kp [9,8,0,10] O),hw,cd,EX,(BT _),E⟩
 refine JB O (WF.nil (λaa ww hf hw=>?_));cases E;exact Kv hf O hw Ku O cm ⟨_,O,bj⟩
def Pp {u:Nat}{p0_w:AK}{af:Value}{ag:Value}{ah:Value}{ai:Value}{aj:Value}{ak:Value}{am:Value}{an:Value}{Q:Value}{V:Value}{X:Value}{Y:Value}{Z:Value}{q:Value}{c:Value}{z:Value}{d:Value}{t:Value}{g:Value}{ab:Value}{k:Value}{p:Value}(hs:St S (Bx u 112 [.string p0_w.b.D,af,vI p0_w.b.J,ag,ah,ai,aj,ak,am,an,vI p0_w.b.K,Q,V,X,Y,Z,vI p0_w.s.B,q,c,z,d,t,g,ab,k,p]::OO AB 3 29 q p0_w.s.G::OS AB 3 c p0_w.s.N::OS BQ 107 d p0_w.s.R::OS AB 3 t p0_w.s.L::OS AB 3 g p0_w.s.O::OS B7 116 ab p0_w.moves::OS AB 3 k p0_w.peaks::OS AX 103 p p0_w.sent::L) h) (dc:p0_w.b.D.size≤maxLen) (bi:Sl S h A5.str af p0_w.b.H) (dd:AA p0_w.b.J) (bj:Sl S h BY ag p0_w.b.A) (de:Sl S h B8 ah p0_w.b.C) (df:Sl S h G7 ai p0_w.b.Af) (dg:Sl S h Eg aj p0_w.b.Ah) (dh:Sl S h Gr ak p0_w.b.Ai) (di:Sl S h DM am p0_w.b.Ak) (dj:Sl S h AB an p0_w.b.Aj) (ca:AA p0_w.b.K) (au:Sl S h AB Q p0_w.in_.T) (cb:Sl S h Cm V p0_w.in_.Ab) (cc:Sl S h FD X p0_w.in_.Ac) (cd:Sl S h DE Y p0_w.in_.U) (ce:Sl S h Da Z p0_w.in_.Ae) (cf:AA p0_w.s.B) (a3:Sl S h AX z p0_w.s.I) {r:(List (List Int))×(List Int)×(List AT)}(E:JP N p0_w=some r):
 CJ prog 60 #[vP u 0] S h (λv S' h'=>∃a5 a6 a7:Value,v= .tuple #[]∧St S' (Bx u 112 [.string p0_w.b.D,af,vI p0_w.b.J,ag,ah,ai,aj,ak,am,an,vI p0_w.b.K,Q,V,X,Y,Z,vI p0_w.s.B,a5,c,z,d,a6,g,a7,k,p]::OO AB 3 29 a5 r.1::OS AB 3 c p0_w.s.N::OS BQ 107 d p0_w.s.R::OS AB 3 a6 r.2.1::OS AB 3 g p0_w.s.O::OS B7 116 a7 r.2.2::OS AB 3 k p0_w.peaks::OS AX 103 p p0_w.sent::L) h'):=by
 refine CJ.go 137 func60 O ntmps60 O λB=>?_;rw[JP] at E;refine AU ?_;refine fH hs (mt mh) O Jl.1 O λb1=>AU ?_;refine AS (λa w=>∃(i2:Int),IV B S h (137,[]) a w [(0,vP u 0),(2,vI i2)] (Bx u 112 [.string p0_w.b.D,af,vI p0_w.b.J,ag,ah,ai,aj,ak,am,an,vI p0_w.b.K,Q,V,X,Y,Z,vI p0_w.s.B,q,c,z,d,t,g,ab,k,p]::OO AB 3 29 q p0_w.s.G::OS AB 3 c p0_w.s.N::OS BQ 107 d p0_w.s.R::OS AB 3 t p0_w.s.L::OS AB 3 g p0_w.s.O::OS B7 116 ab p0_w.moves::OS AB 3 k p0_w.peaks::OS AX 103 p p0_w.sent::L) λ_ _=>AA i2∧Ec N p0_w i2=some r) ?_ ?_
 ·refine A6 (λn1=>λa w=>∃(i8:Int) (bl:Int),IV B S h (137,[]) a w [(16,vI (↑p0_w.s.G.length:Int)),(15,q),(0,vP u 0),(2,vI i8),(17,vI bl)] (Bx u 112 [.string p0_w.b.D,af,vI p0_w.b.J,ag,ah,ai,aj,ak,am,an,vI p0_w.b.K,Q,V,X,Y,Z,vI p0_w.s.B,q,c,z,d,t,g,ab,k,p]::OO AB 3 29 q p0_w.s.G::OS AB 3 c p0_w.s.N::OS BQ 107 d p0_w.s.R::OS AB 3 t p0_w.s.L::OS AB 3 g p0_w.s.O::OS B7 116 ab p0_w.moves::OS AB 3 k p0_w.peaks::OS AX 103 p p0_w.sent::L) λ_ _=>AA i8∧AA bl∧Ea N p0_w (Ec N p0_w) n1 i8 bl=some r) N ?_ ?_ ?_
  ·intro aa ww hf hw;exact⟨0,0,_,_,hf.sub (kp [16,15,0,2,17] O),hw,hs,(BF.refl S h),(iq (n:=0) O),(iq (n:=0) O),E⟩
  ·rintro aa ww ⟨_,_,_,_,_,_,_,_,_,_,E⟩;rw[Ea] at E;cases E
  rintro n1 aa ww ⟨i8,bl,hi,hj,hf,hw,a8,e7,r9,hk,E⟩;refine AL ?_ hf hw;clear hf hw ww aa;rw[Ea] at E;refine AU ?_;refine AH O E (λe8 E=>?_) (λe8 E=>?_)
  ·refine AU ?_;refine A4 (AU ?_);obtain⟨hl,dk,E⟩:=bd E;refine Qm (r:=AB) a8 (mt mh) O O Jl.1 dk O λhm dl=>?_;obtain⟨hn,dm,E⟩:=bd E;refine U6 (r:=AB) Hi a8 (mt mh) O dm dl GD.1 O λho ft e9=>AU ?_;refine CW (.inl O) a8 (AU ?_);refine DF E O O O Pd O (λdn dp h' o=>GZ (St.all h') (e9.mono (λb hb=>Aa8 hb o.siz) (λb hb=>o.same b hb)) dp) λdn E fa=>?_;have hp:=fa;refine AU ?_;refine BW (kp [2,16,15,0,17] O) λhq dq hr=>BK (AU ?_);refine WF.nil (λaa ww hf hw=>?_);exact⟨(BO (i8+dn)),(BO (bl+1)),_,_,hf.sub (kp [16,15,0,2,17] O),hw,dq,EX,(BT _),(BT _),E⟩
  refine BL O (λaa ww hf hw=>?_);exact⟨i8,_,_,hf.sub (kp [0,2] O),hw,a8,e7,r9,E⟩
 rintro aa ww ⟨i2,cg,ch,hf,hw,dr,fb,r3,E⟩;refine AL ?_ hf hw;clear hf hw ww aa;rw[Ec] at E;have fc:=a3.mono' fb;refine AU ?_;refine AS (λa w=>∃(bm:Int),IV B cg ch (137,[]) a w [(0,vP u 0),(2,vI bm)] (Bx u 112 [.string p0_w.b.D,af,vI p0_w.b.J,ag,ah,ai,aj,ak,am,an,vI p0_w.b.K,Q,V,X,Y,Z,vI p0_w.s.B,q,c,z,d,t,g,ab,k,p]::OO AB 3 29 q p0_w.s.G::OS AB 3 c p0_w.s.N::OS BQ 107 d p0_w.s.R::OS AB 3 t p0_w.s.L::OS AB 3 g p0_w.s.O::OS B7 116 ab p0_w.moves::OS AB 3 k p0_w.peaks::OS AX 103 p p0_w.sent::L) λ_ _=>AA bm∧Eb N p0_w bm=some r) ?_ ?_
 ·refine A6 (λn3=>λa w=>∃(bk:Int) (bn:Int),IV B cg ch (137,[]) a w [(31,vI (↑p0_w.s.I.length:Int)),(30,z),(0,vP u 0),(2,vI bk),(32,vI bn)] (Bx u 112 [.string p0_w.b.D,af,vI p0_w.b.J,ag,ah,ai,aj,ak,am,an,vI p0_w.b.K,Q,V,X,Y,Z,vI p0_w.s.B,q,c,z,d,t,g,ab,k,p]::OO AB 3 29 q p0_w.s.G::OS AB 3 c p0_w.s.N::OS BQ 107 d p0_w.s.R::OS AB 3 t p0_w.s.L::OS AB 3 g p0_w.s.O::OS B7 116 ab p0_w.moves::OS AB 3 k p0_w.peaks::OS AX 103 p p0_w.sent::L) λ_ _=>AA bk∧AA bn∧EZ N p0_w (Eb N p0_w) n3 bk bn=some r) N ?_ ?_ ?_
  ·intro aa ww hf hw;exact⟨i2,0,_,_,hf.sub (kp [31,30,0,2,32] O),hw,dr,(BF.refl cg ch),r3,(iq (n:=0) O),E⟩
  ·rintro aa ww ⟨_,_,_,_,_,_,_,_,_,_,E⟩;rw[EZ] at E;cases E
  rintro n3 aa ww ⟨bk,bn,ht,hu,hf,hw,b3,ds,fd,hv,E⟩;refine AL ?_ hf hw;clear hf hw ww aa;rw[EZ] at E;refine AU ?_;refine AH O E (λfe E=>?_) (λfe E=>?_)
  ·refine AU ?_;refine A4 (AU ?_);have ff:=fc.mono' ds;refine BH E O O ff QI.1 O λhx E hy fg=>?_;obtain⟨hz,_,fh⟩:=fg.lv;refine AU ?_;refine Dp WY O b3 λh0 h1 dt fi=>?_;have fj:=fh.mono fi;obtain⟨h2,rfl,h3,h4,fk⟩:=AX.ex fj;refine JZ O O O ON We.1 O dt .head O λh5 b4 fl=>AU ?_;refine CW (.inl O) b4 (AU ?_);have fm:=fk.mono' fl;refine DF E O O O Pd O (λdu dv h' o=>GZ (St.all h') (fm.mono' (o.all b4.1)) dv) λdu E fn=>?_;have h6:=fn;refine AU ?_;refine BW (kp [2,31,30,0,32] O) λh7 dw h8=>BK (AU ?_);refine WF.nil (λaa ww hf hw=>?_);have dx:=dw.sel [1,1,1,1,1,1,1,1,1] 1 O;exact⟨(BO (bk+du)),(BO (bn+1)),_,_,hf.sub (kp [31,30,0,2,32] O),hw,dx,EX,(BT _),(BT _),E⟩
  refine BL O (λaa ww hf hw=>?_);exact⟨bk,_,_,hf.sub (kp [0,2] O),hw,b3,ds,fd,E⟩
 rintro aa ww ⟨bm,dy,h9,hf,hw,b5,ia,fo,E⟩;refine AL ?_ hf hw;clear hf hw ww aa;rw[Eb] at E;refine AU ?_;refine CW (.inl O) b5 (AU ?_);refine DF E O O O Pd O (λdz d0 h' o=>GZ (St.all h') ((b5.oslAll (mt (mt (mt (mt mh))))).mono (λb hb=>Aa8 hb o.siz) (λb hb=>o.same b hb)) d0) λdz E fp=>?_;have fq:=fp;refine AU ?_;refine BW (kp [7,0,2] O) λd1 d2 ib=>?_;have ic:=bj.nw;refine AU ?_;refine A4 (A6 (λn4=>λa w=>∃(ao:Int) (ap:Int) (F:Int) (av:Value) (aq:List AT) (aw:List (List Int)) (ar:List Int),IV B dy d1 (137,[]) a w [(53,vI (↑p0_w.b.A.length:Int)),(0,vP u 0),(2,vI ao),(7,vI ap),(54,vI F)] (OS B7 116 av aq::Bx u 112 [.string p0_w.b.D,af,vI p0_w.b.J,ag,ah,ai,aj,ak,am,an,vI p0_w.b.K,Q,V,X,Y,Z,vI p0_w.s.B,q,c,z,d,t,g,av,k,p]::OO AB 3 29 q aw::OS AB 3 c p0_w.s.N::OS BQ 107 d p0_w.s.R::OS AB 3 t ar::OS AB 3 g p0_w.s.O::OS AB 3 k p0_w.peaks::OS AX 103 p p0_w.sent::L) λ_ _=>AA ao∧AA ap∧AA F∧DD N p0_w n4 ao ap F aq aw ar=some r) N ?_ ?_ ?_)
 ·intro aa ww hf hw;have ci:=d2.sel [6,0,0,0,0,0,0,0,0] 0 O;exact⟨bm,dz,0,ab,p0_w.moves,p0_w.s.G,p0_w.s.L,_,_,hf.sub (kp [53,0,2,7,54] O),hw,ci,(BF.refl dy d1),fo,fq,(iq (n:=0) O),E⟩
 ·rintro aa ww ⟨_,_,_,_,_,_,_,_,_,_,_,_,_,_,_,_,E⟩;rw[DD] at E;cases E
 rintro n4 aa ww ⟨ao,ap,F,av,aq,aw,ar,a9,ba,hf,hw,a4,fu,d3,d4,fv,E⟩;refine AL ?_ hf hw;clear hf hw ww aa;rw[DD] at E;refine AU ?_;refine AH O E (λd5 E=>?_) (λd5 E=>?_)
 ·refine AU ?_;refine AS (λa w=>∃(a0:Int) (a1:Int) (bb:Value) (bc:List AT) (be:List (List Int)) (bf:List Int),IV B a9 ba (137,[]) a w [(53,vI (↑p0_w.b.A.length:Int)),(0,vP u 0),(54,vI F),(2,vI a0),(7,vI a1)] (OS B7 116 bb bc::Bx u 112 [.string p0_w.b.D,af,vI p0_w.b.J,ag,ah,ai,aj,ak,am,an,vI p0_w.b.K,Q,V,X,Y,Z,vI p0_w.s.B,q,c,z,d,t,g,bb,k,p]::OO AB 3 29 q be::OS AB 3 c p0_w.s.N::OS BQ 107 d p0_w.s.R::OS AB 3 t bf::OS AB 3 g p0_w.s.O::OS AB 3 k p0_w.peaks::OS AX 103 p p0_w.sent::L) λ_ _=>AA a0∧AA a1∧GJ N F (DD N p0_w n4) a0 a1 bc be bf=some r) ?_ ?_
  ·have fw:=au.nw;refine AU ?_;refine IC (λa w=>∃(ac:Int),IV B a9 ba (137,[]) a w [(8,vI F),(53,vI (↑p0_w.b.A.length:Int)),(0,vP u 0),(2,vI ao),(7,vI ap),(54,vI F),(9,vI ac)] (OS B7 116 av aq::Bx u 112 [.string p0_w.b.D,af,vI p0_w.b.J,ag,ah,ai,aj,ak,am,an,vI p0_w.b.K,Q,V,X,Y,Z,vI p0_w.s.B,q,c,z,d,t,g,av,k,p]::OO AB 3 29 q aw::OS AB 3 c p0_w.s.N::OS BQ 107 d p0_w.s.R::OS AB 3 t ar::OS AB 3 g p0_w.s.O::OS AB 3 k p0_w.peaks::OS AX 103 p p0_w.sent::L) λ_ _=>AA ac∧HH N p0_w ao ap F aq aw ar (GJ N F (DD N p0_w n4)) ac=some r) ?_ ?_
   ·refine AH O E (λd6 E=>?_) (λd6 E=>?_)
    ·refine AU ?_;have d7:=au.nw;refine BH E O O d7 CQ.1 O λd8 E fx d9=>?_;have ea:=d9.i;refine AU ?_;refine kA O O O O (AU ?_);refine WF.nil (λaa ww hf hw=>?_);exact⟨(min (min d8 (BO (1125899906842624-ao))) (BO (1152921504606846976-ap))),_,_,hf.sub (kp [8,53,0,2,7,54,9] O),hw,a4,(BF.refl a9 ba),(NW (NW ea (BT _)) (BT _)),E⟩
    refine AU ?_;refine WF.nil (λaa ww hf hw=>?_);exact⟨0,_,_,hf.sub (kp [8,53,0,2,7,54,9] O),hw,a4,(BF.refl a9 ba),(iq (n:=0) O),E⟩
   rintro aa ww ⟨ac,fy,f0,hf,hw,ay,eb,ec,E⟩;refine AL ?_ hf hw;clear hf hw ww aa;rw[HH] at E;refine AU ?_;refine AH O E (λed E=>?_) (λed E=>?_)
   ·refine BL O (λaa ww hf hw=>?_);exact⟨ao,ap,av,aq,aw,ar,_,_,hf.sub (kp [53,0,54,2,7] O),hw,ay,eb,d3,d4,E⟩
   refine AU ?_;obtain⟨f1,cj,E⟩:=bd E;refine Qm (r:=AB) ay (mt (mt mh)) O O Jl.1 cj O λf2 bo=>?_;obtain⟨ee,bp,E⟩:=bd E;refine U6 (r:=AB) Hi ay (mt (mt mh)) O bp bo GD.1 O λf3 ck b6=>?_;obtain⟨bq,cl,E⟩:=bd E;refine Yc O O b6 CQ.1 cl O λf4 ef e6=>Ez Hi (λ_ x=>x) O ef FE.1 O λf5=>AU ?_;obtain⟨f6,br,E⟩:=bd E;refine Yc O O b6 CQ.1 br O λf7 f8 bz=>AU ?_;have cm:=ay.pick (.tail (.tail .head));refine kQ (r:=AB) (i:=F) (j:=0) (y:=(BO (bq+ac))) O O (⟨_,O,O,(BT _)⟩:Rd _ _ AB _ (BO (bq+ac))) bo ck bz bp br FE.1 (λ_=>rfl) cm λf9 az ga=>AU ?_;obtain⟨gb,cn,E⟩:=bd E;refine BS az (mt (mt (mt (mt (mt mh))))) O O CQ.1 cn O λgc co=>?_;obtain⟨b7,cp,E⟩:=bd E;have eg:=az.epAt (mt (mt (mt (mt (mt mh))))) cp Fd.id co;refine Ez Hi (λ_ x=>x) O eg FE.1 O λge=>AU ?_;obtain⟨gf,cq,E⟩:=bd E;refine BS az (mt (mt (mt (mt (mt mh))))) O O CQ.1 cq O λgg cr=>AU ?_;obtain⟨eh,ct,E⟩:=bd E;refine EM (r:=AB) (l:=ar) (i:=0) (x:=eh) O O (⟨_,O,O,(BT _)⟩:Rd _ _ AB _ (BO (b7+ac))) cr ct L7.id FE.1 (λ_=>rfl) az (.tail (.tail (.tail (.tail (.tail .head))))) λgh cu gi=>?_;have gj:=bi.nw;refine AU ?_;obtain⟨cv,E⟩:=LX E;refine LE (r:=AB) (zx:=0) H5 O ⟨O,by unfold AA;omega⟩ O O cv O O cu λei gl bs gm=>AU ?_;obtain⟨gn,cw,E⟩:=bd E;refine BS bs mh O O CQ.1 cw O λgp cx=>AU ?_;obtain⟨ej,cy,E⟩:=bd E;refine EM (r:=AB) (l:=(List.replicate ((↑p0_w.b.H.length:Int):Int).toNat (0:Int))) (i:=0) (x:=ej) O O (⟨_,O,O,ec⟩:Rd _ _ AB _ ac) cx cy L7.id FE.1 (λ_=>rfl) bs .head λb8 cz gq=>AU ?_;obtain⟨bt,ax,gr,ek⟩:=cz.pubs .head;refine TD (m:=[(10,ei),(7,vI (BO (ap+ac))),(2,vI (BO (ao+ac))),(8,vI F),(53,vI (↑p0_w.b.A.length:Int)),(0,vP u 0),(54,vI F)]) 14 [0] (λi v hh=>match i with|0=>v=vP u 0|1=>v=vP u 0|2=>v=vP u 0|3=>v=vP u 23|4=>v=av|5=>v=vP u 0|6=>v=vP u 0|7=>v=vP u 16|8=>v=vP u 16|9=>v=vI p0_w.s.B∧AA p0_w.s.B|10=>v=vI F∧AA F|11=>Sl bt hh AB v (upd (List.replicate ((↑p0_w.b.H.length:Int):Int).toNat (0:Int)) 0 ac)|12=>Rd bt hh B7 v (⟨p0_w.s.B,(-1),F,(-4),(upd (List.replicate ((↑p0_w.b.H.length:Int):Int).toNat (0:Int)) 0 ac)⟩:AT)|13=>Sl (SN bt b8 hh) hh B7 v ([(⟨p0_w.s.B,(-1),F,(-4),(upd (List.replicate ((↑p0_w.b.H.length:Int):Int).toNat (0:Int)) 0 ac)⟩:AT)]:List AT)∧∃ad,v= .slice (some ad) 1 1|_=>False) [[],[],[(1,120)],[(2,121)],[(3,122)],[],[(5,124)],[(6,125)],[(7,126)],[(8,127)],[],[],[(9,128),(10,129),(11,130)],[(12,131)]] [(0,119),(4,123),(13,132)] mo (by kernel_rfl) [10,7,2,8,53,0,54] O (by kernel_rfl) (by kernel_rfl) (by kernel_rfl) (kp [10,7,2,8,53,0,54] O) MO ?_ ?_ ?_
   ·refine RM.cons [] (by kernel_rfl) O O (by kernel_rfl) ?_ ?_
    ·intro mq hh o;intro a hf;exact⟨vP u 0,NI hf O,O⟩
    exact trivial
   ·refine A3.cons O Fe (A3.cons O Fe (A3.cons O Fe (A3.cons O Fe (A3.cons O Fe (A3.cons O Fe (A3.cons O Fe (A3.cons O Fe (A3.cons O Fe (A3.cons O Fe (A3.cons O Fe (A3.cons O ?_ ?_)))))))))))
    ·intro mq hh o;have c0:=o.st ax;refine AU ?_;have el:=ek.mono' (o.ext ax.1);exact BV el
    refine A3.cons O ?_ ?_
    ·intro mq hh o;intro gs em gu en eo bg;have c0:=o.st ax;obtain⟨rfl,ep⟩:=em;obtain⟨rfl,eq⟩:=en;have bg:Sl _ _ AB eo (upd (List.replicate ((↑p0_w.b.H.length:Int):Int).toNat (0:Int)) 0 ac):=bg;refine AU ?_;obtain⟨c1,b0,rfl,gv⟩:=(bg).len;refine Gs (cs:=[vI p0_w.s.B,vI (-1),vI F,vI (-4),(.slice c1 (upd (List.replicate ((↑p0_w.b.H.length:Int):Int).toNat (0:Int)) 0 ac).length b0)]) aR O O O (AU ?_);exact BV (B7.mk (x:=(⟨p0_w.s.B,(-1),F,(-4),(upd (List.replicate ((↑p0_w.b.H.length:Int):Int).toNat (0:Int)) 0 ac)⟩:AT)) ep (iq (n:=(-1)) O) eq (iq (n:=(-4)) O) bg)
    refine A3.cons O ?_ ?_
    ·intro mq hh o;intro er a2;have c0:=SN.st ax o;have a2:=Rd.sn b8 a2;have a2:Rd _ _ B7 er (⟨p0_w.s.B,(-1),F,(-4),(upd (List.replicate ((↑p0_w.b.H.length:Int):Int).toNat (0:Int)) 0 ac)⟩:AT):=a2;have fr:=c0.fz;obtain⟨gw,rfl,es,eu,ev,ew,b9⟩:=B7.ex a2;obtain⟨c2,b2,rfl,gx⟩:=(b9).len;refine ID (cs:=[vI ((⟨p0_w.s.B,(-1),F,(-4),(upd (List.replicate ((↑p0_w.b.H.length:Int):Int).toNat (0:Int)) 0 ac)⟩:AT).B),vI ((⟨p0_w.s.B,(-1),F,(-4),(upd (List.replicate ((↑p0_w.b.H.length:Int):Int).toNat (0:Int)) 0 ac)⟩:AT).M),vI ((⟨p0_w.s.B,(-1),F,(-4),(upd (List.replicate ((↑p0_w.b.H.length:Int):Int).toNat (0:Int)) 0 ac)⟩:AT).E),vI ((⟨p0_w.s.B,(-1),F,(-4),(upd (List.replicate ((↑p0_w.b.H.length:Int):Int).toNat (0:Int)) 0 ac)⟩:AT).Be),(.slice c2 ((⟨p0_w.s.B,(-1),F,(-4),(upd (List.replicate ((↑p0_w.b.H.length:Int):Int).toNat (0:Int)) 0 ac)⟩:AT).W).length b2)]) YB O O O O O O O fr λgy gz c3 ey=>?_;have ez:=b9.mono' ey;have c4:=c3.bxos (r:=B7) (l:=([(⟨p0_w.s.B,(-1),F,(-4),(upd (List.replicate ((↑p0_w.b.H.length:Int):Int).toNat (0:Int)) 0 ac)⟩:AT)]:List AT)) .head ⟨_,_,O,⟨_,O,es,eu,ev,ew,ez⟩,O⟩ (by simp [maxLen]);obtain⟨g0,c5,g1,e0⟩:=c4.pubs .head;have bu:=Fz.done o EX c5;exact A7 bu.1 ⟨Sl.mono' e0 bu.2,_,O⟩
    exact trivial
   intro g2 e1 g3 e2 g4 e3 g5 bv;have c6:=SN.st ax e1;cases e2;cases e3;obtain⟨bv,fs,rfl⟩:=bv;obtain⟨c7,E⟩:=LX E;refine GU (r:=B7) (l:=aq) (xs:=([(⟨p0_w.s.B,(-1),F,(-4),(upd (List.replicate ((↑p0_w.b.H.length:Int):Int).toNat (0:Int)) 0 ac)⟩:AT)]:List AT)) O O YB O (Sl.src bv) O c7 O c6 (λ_=>(.tail .head)) λg6 g7 bw g8=>AU ?_;obtain⟨bx,bh,rfl,g9⟩:=bw.oslen (mt mh);refine GN (cs':=[.string p0_w.b.D,af,vI p0_w.b.J,ag,ah,ai,aj,ak,am,an,vI p0_w.b.K,Q,V,X,Y,Z,vI p0_w.s.B,q,c,z,d,t,g,(.slice bx (aq++([(⟨p0_w.s.B,(-1),F,(-4),(upd (List.replicate ((↑p0_w.b.H.length:Int):Int).toNat (0:Int)) 0 ac)⟩:AT)]:List AT)).length bh),k,p]) O O O O Z5.1 O bw (.tail (.tail .head)) O O λha c8 hc=>AU ?_;refine WF.nil (λaa ww hf hw=>?_);have c9:=c8.sel [1,1,0,0,0,0,0,0,0] 0 O;exact⟨(BO (ao+ac)),(BO (ap+ac)),(.slice bx (aq++([(⟨p0_w.s.B,(-1),F,(-4),(upd (List.replicate ((↑p0_w.b.H.length:Int):Int).toNat (0:Int)) 0 ac)⟩:AT)]:List AT)).length bh),(aq++([(⟨p0_w.s.B,(-1),F,(-4),(upd (List.replicate ((↑p0_w.b.H.length:Int):Int).toNat (0:Int)) 0 ac)⟩:AT)]:List AT)),(upd aw F (upd ee 0 (BO (bq+ac)))),(upd ar 0 (BO (b7+ac))),_,_,hf.sub (kp [53,0,54,2,7] O),hw,c9,EX,(BT _),(BT _),E⟩
  rintro aa ww ⟨a0,a1,bb,bc,be,bf,hd,he,hf,hw,da,hg,e4,e5,E⟩;refine AL ?_ hf hw;clear hf hw ww aa;rw[GJ] at E;refine AU ?_;refine WF.nil (λaa ww hf hw=>?_);exact⟨a0,a1,(BO (F+1)),bb,bc,be,bf,_,_,hf.sub (kp [53,0,2,7,54] O),hw,da,EX,e4,e5,(BT _),E⟩
 refine JB O (WF.nil (λaa ww hf hw=>?_));have db:=a4.sel [1,1,1,1,1,1,0,0,0] 0 O;cases E;exact Kv hf O hw Ku O EX ⟨_,_,_,O,db⟩
end Go.Proofs.YtabonambpbofgaaGreat
