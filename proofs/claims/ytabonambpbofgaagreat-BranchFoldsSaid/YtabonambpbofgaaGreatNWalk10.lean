import Derived.Test.YtabonambpbofgaaGreatNInst
import Derived.Test.YtabonambpbofgaaGreatNForms
import Derived.Test.YtabonambpbofgaaGreatNSort5
import Derived.Test.YtabonambpbofgaaGreatNSortD
import Derived.Test.YtabonambpbofgaaGreatNWalk6
import Derived.Test.YtabonambpbofgaaGreatNWalk9
namespace Go.Proofs.YtabonambpbofgaaGreat
set_option linter.all false
open Go.RowKit
open Go.Proofs.Tryz
set_option maxRecDepth 10000
set_option maxHeartbeats 20000000
variable {N:Nat}{S:Nat→Prop}{L:List HP}{h:AS}
def Py {g:Nat}{p0_w:AM}{af:Value}{ag:Value}{ah:Value}{ai:Value}{aj:Value}{ak:Value}{am:Value}{an:Value}{W:Value}{Z:Value}{ab:Value}{ac:Value}{l:Value}{d:Value}{q:Value}{ad:Value}{t:Value}{u:Value}{x:Value}{y:Value}{z:Value}{G:Value}(hs:St S (Bx g 112 [.string p0_w.b.F,af,vI p0_w.b.K,ag,ah,ai,aj,ak,am,an,vI p0_w.b.L,W,Z,ab,ac,l,vI p0_w.s.B,d,q,ad,t,u,x,y,z,G]::OO AB 3 29 d p0_w.s.H::OS AB 3 q p0_w.s.N::OS BQ 107 t p0_w.s.P::OS AB 3 u p0_w.s.D::OS AB 3 x p0_w.s.O::OS CA 116 y p0_w.moves::OS AB 3 z p0_w.peaks::OS AY 103 G p0_w.sent::L) h) (ce:p0_w.b.F.size≤maxLen) (ar:Sl S h A5.str af p0_w.b.J) (cf:AA p0_w.b.K) (aw:Sl S h B1 ag p0_w.b.A) (cg:Sl S h CB ah p0_w.b.C) (ch:Sl S h HN ai p0_w.b.Af) (ci:Sl S h Et aj p0_w.b.Ah) (cj:Sl S h G5 ak p0_w.b.Ai) (ck:Sl S h DW am p0_w.b.Ak) (cl:Sl S h AB an p0_w.b.Aj) (bl:AA p0_w.b.L) (bm:Sl S h AB W p0_w.in_.S) (bn:Sl S h Cv Z p0_w.in_.X) (bo:Sl S h FY ab p0_w.in_.Y) (bp:Sl S h DK ac p0_w.in_.U) (au:Sl S h Dj l p0_w.in_.Ad) (bq:AA p0_w.s.B) (br:Sl S h AY ad p0_w.s.I) {r:(List (List Int))}(E:Fw N p0_w=some r):
 CL prog 59 #[vP g 0] S h (λv S' h'=>∃av:Value,v= .tuple #[]∧St S' (Bx g 112 [.string p0_w.b.F,af,vI p0_w.b.K,ag,ah,ai,aj,ak,am,an,vI p0_w.b.L,W,Z,ab,ac,l,vI p0_w.s.B,av,q,ad,t,u,x,y,z,G]::OO AB 3 29 av r::OS AB 3 q p0_w.s.N::OS BQ 107 t p0_w.s.P::OS AB 3 u p0_w.s.D::OS AB 3 x p0_w.s.O::OS CA 116 y p0_w.moves::OS AB 3 z p0_w.peaks::OS AY 103 G p0_w.sent::L) h'):=by
 refine CL.go 70 func59 O ntmps59 O λB=>?_;rw[Fw] at E;refine AU ?_;refine A6 (A9 (λn0=>λa w=>∃(i5:Int) (l7:List (List Int)),IV B S h (70,[]) a w [(9,vI (↑p0_w.in_.Ad.length:Int)),(8,l),(0,vP g 0),(10,vI i5)] (Bx g 112 [.string p0_w.b.F,af,vI p0_w.b.K,ag,ah,ai,aj,ak,am,an,vI p0_w.b.L,W,Z,ab,ac,l,vI p0_w.s.B,d,q,ad,t,u,x,y,z,G]::OO AB 3 29 d l7::OS AB 3 q p0_w.s.N::OS BQ 107 t p0_w.s.P::OS AB 3 u p0_w.s.D::OS AB 3 x p0_w.s.O::OS CA 116 y p0_w.moves::OS AB 3 z p0_w.peaks::OS AY 103 G p0_w.sent::L) λ_ _=>AA i5∧C7 N p0_w n0 i5 l7=some r) N ?_ ?_ ?_)
 ·intro aa ww hf hw;exact⟨0,p0_w.s.H,_,_,hf.sub (kp [9,8,0,10] O),hw,hs,(CJ.refl S h),(iq (n:=0) O),E⟩
 ·rintro aa ww ⟨_,_,_,_,_,_,_,_,_,E⟩;rw[C7] at E;cases E
 rintro n0 aa ww ⟨i5,l7,S8,h9,hf,hw,bj,cm,r6,E⟩;refine AK ?_ hf hw;clear hf hw ww aa;rw[C7] at E;refine AU ?_;refine AH O E (λde E=>?_) (λde E=>?_)
 ·refine AU ?_;refine AV (λa w=>∃(bi:List (List Int)),IV B S8 h9 (70,[]) a w [(9,vI (↑p0_w.in_.Ad.length:Int)),(8,l),(0,vP g 0),(10,vI i5)] (Bx g 112 [.string p0_w.b.F,af,vI p0_w.b.K,ag,ah,ai,aj,ak,am,an,vI p0_w.b.L,W,Z,ab,ac,l,vI p0_w.s.B,d,q,ad,t,u,x,y,z,G]::OO AB 3 29 d bi::OS AB 3 q p0_w.s.N::OS BQ 107 t p0_w.s.P::OS AB 3 u p0_w.s.D::OS AB 3 x p0_w.s.O::OS CA 116 y p0_w.moves::OS AB 3 z p0_w.peaks::OS AY 103 G p0_w.sent::L) λ_ _=>G9 N i5 (C7 N p0_w n0) bi=some r) ?_ ?_
  ·refine AU ?_;have df:=au.mono' cm;refine BK E O O df cB.1 O λao E fo dg=>?_;obtain⟨fp,_,dh⟩:=dg.lv;refine AU ?_;refine Dp pG O bj λax fq cn co=>?_;have di:=dh.mono co;obtain⟨rfl,⟨bs,cp,cq,dj⟩⟩:=Dj.ex di;refine FK O O O O pW.1 O cn .head O λfr cr dk=>AU ?_;refine CX (.inr ⟨mo,by kernel_rfl⟩) cr ?_;have dl:=aw.nw;have dm:=dl.le;refine AU ?_;refine BE E O O O PJ O (λcs ct h' o=>H1 (St.all h') bs (Ls dm) ct) λcs E=>AU ?_;obtain⟨cu,ap,E⟩:=bd E;refine AZ 10 33 (.bool cu) ?_ ?_
   ·cases cv:cs
    ·have ap:=HX cv ap;cases ap;exact BI O O
    have ap:=HW cv ap;have dn:=ar.nw;have dp:=dn.le;refine AU ?_;refine BE ap O O O PJ O (λdq cw h' o=>H1 (St.all h') cp (Ls dp) cw) λdq ap=>AU ?_;cases ap;exact A0 O
   refine AU ?_;obtain⟨dr,aq,E⟩:=bd E;refine AZ 10 44 (.bool dr) ?_ ?_
   ·cases cx:cu
    ·have aq:=HX cx aq;cases aq;exact BI O O
    have aq:=HW cx aq;have ds:=ar.nw;have dt:=ds.le;refine AU ?_;refine BE aq O O O PJ O (λdu cy h' o=>H1 (St.all h') cq (Ls dt) cy) λdu aq=>AU ?_;cases aq;exact A0 O
   refine By (kp [44,3,9,8,0,10] O) λdv c dw=>AH O E (λdx E=>?_) (λdx E=>?_)
   ·obtain ⟨fs,cz,E⟩:=bd E;obtain⟨dy,c0,E⟩:=bd E;obtain⟨c1,c2,E⟩:=bd E;obtain⟨ft,c3,E⟩:=bd E;refine VU (m:=[(3,vP ax 0),(9,vI (↑p0_w.in_.Ad.length:Int)),(8,l),(0,vP g 0),(10,vI i5)]) [24] [] [] (by kernel_rfl) (λgv X F i v hh=>match i with|0=>v=vP g 0|1=>v=vP g 0|2=>v=vP g 16|3=>v=vP g 17|4=>v=d|5=>v=vP ax 0|6=>v=vI ao.Ap∧AA ao.Ap|7=>v=vP g 0|8=>v=vP g 0|9=>v=vP g 16|10=>v=vP g 17|11=>v=d|12=>v=vP ax 0|13=>v=vI ao.Ap∧AA ao.Ap|14=>EP d (ao.Ap.toNat*((A5.sl AB)).sz+0) v|15=>Sl (λb=>b<hh.size) hh AB v dy|16=>v=vP ax 1|17=>v=vI ao.M∧AA ao.M|18=>v=vP ax 2|19=>v=vI ao.E∧AA ao.E|20=>v=vP ax 3|21=>v=vI ao.Be∧AA ao.Be|22=>OW S8 dv X F [OS AB 3 v c1] hh|23=>EP d (ao.Ap.toNat*((A5.sl AB)).sz+0) v|_=>False) [[],[(0,45)],[(1,46)],[(2,47)],[(3,48)],[],[(5,50)],[],[(7,52)],[(8,53)],[(9,54)],[(10,55)],[],[(12,57)],[(11,56),(13,58)],[(14,59)],[],[(16,61)],[],[(18,63)],[],[(20,65)],[(15,60),(17,62),(19,64),(21,66)],[(4,49),(6,51)],[]] [(22,67),(23,68)] mo (by kernel_rfl) [3,9,8,0,10] O (by kernel_rfl) (by kernel_rfl) (by kernel_rfl) O (kp [3,9,8,0,10] O) (λgv i v h1 h2 X X' F o1 o2 hF u1 u2 Q=>?_) (λgv fu X F i v h1 hz Q=>?_) ?_ ?_ ?_
    ·match i,Q with
      |0,Q|1,Q|2,Q|3,Q|4,Q|5,Q|6,Q|7,Q|8,Q|9,Q|10,Q|11,Q|12,Q|13,Q|14,Q|16,Q|17,Q|18,Q|19,Q|20,Q|21,Q|23,Q=>exact Q
      |15,Q=>exact Sl.mono Q (λb hb=>Acv hb o2.siz) (λb hb=>o2.same b hb)
      |22,Q=>exact OW.mono c.1 o1 o2 hF u1 u2 Q
      |_+24,Q=>exact Q.elim
    ·match i,Q with
      |0,Q|1,Q|2,Q|3,Q|4,Q|5,Q|6,Q|7,Q|8,Q|9,Q|10,Q|11,Q|12,Q|13,Q|14,Q|15,Q|16,Q|17,Q|18,Q|19,Q|20,Q|21,Q|22,Q|23,Q=>exact Q
      |_+24,Q=>exact Q.elim
    ·exact trivial
    ·refine DD.cons O O ?_ ?_
     ·intro gv X mq hh o hX;have V:=o.st c;refine AU ?_;exact B0 O
     refine DD.cons O O ?_ ?_
     ·intro gv X mq hh o hX;have V:=o.st c;intro fv bt;obtain⟨ek,_,_,bt⟩:=bt;cases bt;refine AU ?_;exact B0 O
     refine DD.cons O O ?_ ?_
     ·intro gv X mq hh o hX;have V:=o.st c;intro fw bu;obtain⟨el,_,_,bu⟩:=bu;cases bu;refine AU ?_;exact B0 O
     refine DD.cons O O ?_ ?_
     ·intro gv X mq hh o hX;have V:=o.st c;intro fx bv;obtain⟨em,_,_,bv⟩:=bv;cases bv;refine AU ?_;exact B0 O
     refine DD.cons O O ?_ ?_
     ·intro gv X mq hh o hX;have V:=o.st c;intro fy bw;obtain⟨en,_,_,bw⟩:=bw;cases bw;refine AU ?_;exact B0 O
     refine DD.cons O O ?_ ?_
     ·intro gv X mq hh o hX;have V:=o.st c;refine AU ?_;exact B0 O
     refine DD.cons O O ?_ ?_
     ·intro gv X mq hh o hX;have V:=o.st c;intro f0 bx;obtain⟨eo,_,_,bx⟩:=bx;cases bx;refine AU ?_;exact B0 ⟨O,bs⟩
     refine DD.cons O O ?_ ?_
     ·intro gv X mq hh o hX;have V:=o.st c;refine AU ?_;exact B0 O
     refine DD.cons O O ?_ ?_
     ·intro gv X mq hh o hX;have V:=o.st c;intro f1 bz;obtain⟨ep,_,_,bz⟩:=bz;cases bz;refine AU ?_;exact B0 O
     refine DD.cons O O ?_ ?_
     ·intro gv X mq hh o hX;have V:=o.st c;intro f2 b0;obtain⟨eq,_,_,b0⟩:=b0;cases b0;refine AU ?_;exact B0 O
     refine DD.cons O O ?_ ?_
     ·intro gv X mq hh o hX;have V:=o.st c;intro f3 b1;obtain⟨er,_,_,b1⟩:=b1;cases b1;refine AU ?_;exact B0 O
     refine DD.cons O O ?_ ?_
     ·intro gv X mq hh o hX;have V:=o.st c;intro f4 ay;obtain⟨dz,_,_,ay⟩:=ay;cases ay;refine AU ?_;exact B0 O
     refine DD.cons O O ?_ ?_
     ·intro gv X mq hh o hX;have V:=o.st c;refine AU ?_;exact B0 O
     refine DD.cons O O ?_ ?_
     ·intro gv X mq hh o hX;have V:=o.st c;intro es az;obtain⟨d0,_,_,az⟩:=az;cases az;refine AU ?_;exact B0 ⟨O,bs⟩
     refine DD.cons O O ?_ ?_
     ·intro gv X mq hh o hX;have V:=o.st c;intro eu a0 ev a1;obtain⟨d1,_,_,a0⟩:=a0;cases a0;obtain⟨d2,_,_,a1⟩:=a1;obtain⟨rfl,ew⟩:=a1;refine AU ?_;refine RP (r:=AB) V (mt (mt mh)) O O Jl.1 cz O λey b2=>AU ?_;exact B0 b2
     refine DD.cons O O ?_ ?_
     ·intro gv X mq hh o hX;have V:=o.st c;intro ez a2;obtain⟨d3,_,_,a2⟩:=a2;refine AU ?_;refine Vc (r:=AB) Hc V (mt (mt mh)) O c0 a2 GH.1 O λe0 d4 c4=>AU ?_;exact B0 c4
     refine DD.cons O O ?_ ?_
     ·intro gv X mq hh o hX;have V:=o.st c;refine AU ?_;exact B0 O
     refine DD.cons O O ?_ ?_
     ·intro gv X mq hh o hX;have V:=o.st c;intro e1 a3;obtain⟨d5,_,_,a3⟩:=a3;cases a3;refine AU ?_;exact B0 ⟨O,cp⟩
     refine DD.cons O O ?_ ?_
     ·intro gv X mq hh o hX;have V:=o.st c;refine AU ?_;exact B0 O
     refine DD.cons O O ?_ ?_
     ·intro gv X mq hh o hX;have V:=o.st c;intro e2 a4;obtain⟨d6,_,_,a4⟩:=a4;cases a4;refine AU ?_;exact B0 ⟨O,cq⟩
     refine DD.cons O O ?_ ?_
     ·intro gv X mq hh o hX;have V:=o.st c;refine AU ?_;exact B0 O
     refine DD.cons O O ?_ ?_
     ·intro gv X mq hh o hX;have V:=o.st c;intro e3 a5;obtain⟨d7,_,_,a5⟩:=a5;cases a5;refine AU ?_;exact B0 ⟨O,dj⟩
     refine Pa O O ?_ ?_
     ·intro gv X mq hh o hX;have V:=SX.fz (X:=X) c o;intro e4 a6 e5 a7 e6 a8 e7 a9;obtain⟨d8,_,_,a6⟩:=a6;obtain⟨d9,_,_,a7⟩:=a7;obtain⟨rfl,c5⟩:=a7;obtain⟨ea,_,_,a8⟩:=a8;obtain⟨rfl,c6⟩:=a8;obtain⟨eb,_,_,a9⟩:=a9;obtain⟨rfl,c7⟩:=a9;refine E9 O O O tY O V (T0 (St.all _) a6 c5 c6 c7 c2) λe8 e9 fa ec c8 c9 p=>?_;have b3:=p;have ba:=V.join c9 b3 ⟨OS.flat (λ{_ _ _ _ _ _} k=>k),trivial⟩;simp only[Acu,Acs] at ba;have ed:=ba.pick (.tail .head);obtain⟨da,b4,db,fb,dc⟩:=OW.done c.1 o hX c8 ed;exact BB db ⟨da,b4,dc⟩
     refine DD.cons O O ?_ ?_
     ·intro gv X mq hh o hX;have V:=o.st c;intro fc bb fd bc;obtain⟨ee,_,_,bb⟩:=bb;cases bb;obtain⟨ef,_,_,bc⟩:=bc;obtain⟨rfl,fe⟩:=bc;refine AU ?_;refine RP (r:=AB) V (mt (mt mh)) O O Jl.1 c3 O λff b5=>AU ?_;exact B0 b5
     exact DD.skip (by kernel_rfl) (trivial)
    intro fg eg eh bk be b6 fh bf fi bg;obtain⟨ei,bf⟩:=bf;obtain⟨ej,bg⟩:=bg;have bh:=(Xv.cons (Xv.nil c bk be) b6 (j:=22) O bf).st;simp only[Acu,Acs] at bh;have b7:=bh.sel [0,2,0,0,0,0,0,0,0,0,0] 0 O;obtain⟨fj,b8,E⟩:=bd E;refine ZJ (r:=AB) (i:=ao.Ap) O O bg b8 GH.1 b7 λfk b9 dd=>AU ?_;refine WF.nil (λaa ww hf hw=>?_);have ca:=b9.sel [2,0,1,1,1,1,1,1,1] 1 O;have cb:=co.trans (dk.trans (dw.trans ((SX.ext c.1 bk (iY be)).trans dd)));exact⟨(upd l7 ao.Ap c1),_,_,hf.sub (kp [9,8,0,10] O),hw,ca,cb,E⟩
   refine AU ?_;refine WF.nil (λaa ww hf hw=>?_);have cc:=c.sel [1,1,1,1,1,1,1,1,1] 1 O;exact⟨l7,_,_,hf.sub (kp [9,8,0,10] O),hw,cc,EX,E⟩
  rintro aa ww ⟨bi,fl,fm,hf,hw,cd,fn,E⟩;refine AK ?_ hf hw;clear hf hw ww aa;rw[G9] at E;refine AU ?_;refine WF.nil (λaa ww hf hw=>?_);exact⟨(BT (i5+1)),bi,_,_,hf.sub (kp [9,8,0,10] O),hw,cd,EX,(BV _),E⟩
 refine JV O (WF.nil (λaa ww hf hw=>?_));cases E;exact K6 hf O hw K5 O cm ⟨_,O,bj⟩
def QP {u:Nat}{p0_w:AM}{ah:Value}{ai:Value}{aj:Value}{ak:Value}{am:Value}{an:Value}{ao:Value}{ap:Value}{Q:Value}{W:Value}{Z:Value}{ab:Value}{ac:Value}{q:Value}{c:Value}{z:Value}{d:Value}{t:Value}{g:Value}{af:Value}{k:Value}{p:Value}(hs:St S (Bx u 112 [.string p0_w.b.F,ah,vI p0_w.b.K,ai,aj,ak,am,an,ao,ap,vI p0_w.b.L,Q,W,Z,ab,ac,vI p0_w.s.B,q,c,z,d,t,g,af,k,p]::OO AB 3 29 q p0_w.s.H::OS AB 3 c p0_w.s.N::OS BQ 107 d p0_w.s.P::OS AB 3 t p0_w.s.D::OS AB 3 g p0_w.s.O::OS CA 116 af p0_w.moves::OS AB 3 k p0_w.peaks::OS AY 103 p p0_w.sent::L) h) (de:p0_w.b.F.size≤maxLen) (bk:Sl S h A5.str ah p0_w.b.J) (df:AA p0_w.b.K) (bl:Sl S h B1 ai p0_w.b.A) (dg:Sl S h CB aj p0_w.b.C) (dh:Sl S h HN ak p0_w.b.Af) (di:Sl S h Et am p0_w.b.Ah) (dj:Sl S h G5 an p0_w.b.Ai) (dk:Sl S h DW ao p0_w.b.Ak) (dl:Sl S h AB ap p0_w.b.Aj) (cc:AA p0_w.b.L) (aw:Sl S h AB Q p0_w.in_.S) (cd:Sl S h Cv W p0_w.in_.X) (ce:Sl S h FY Z p0_w.in_.Y) (cf:Sl S h DK ab p0_w.in_.U) (cg:Sl S h Dj ac p0_w.in_.Ad) (ch:AA p0_w.s.B) (a5:Sl S h AY z p0_w.s.I) {r:(List (List Int))×(List Int)×(List AX)}(E:Jo N p0_w=some r):
 CL prog 60 #[vP u 0] S h (λv S' h'=>∃a7 a8 a9:Value,v= .tuple #[]∧St S' (Bx u 112 [.string p0_w.b.F,ah,vI p0_w.b.K,ai,aj,ak,am,an,ao,ap,vI p0_w.b.L,Q,W,Z,ab,ac,vI p0_w.s.B,a7,c,z,d,a8,g,a9,k,p]::OO AB 3 29 a7 r.1::OS AB 3 c p0_w.s.N::OS BQ 107 d p0_w.s.P::OS AB 3 a8 r.2.1::OS AB 3 g p0_w.s.O::OS CA 116 a9 r.2.2::OS AB 3 k p0_w.peaks::OS AY 103 p p0_w.sent::L) h'):=by
 refine CL.go 137 func60 O ntmps60 O λB=>?_;rw[Jo] at E;refine AU ?_;refine iC hs (mt mh) O Jl.1 O λb1=>AU ?_;refine AV (λa w=>∃(i2:Int),IV B S h (137,[]) a w [(0,vP u 0),(2,vI i2)] (Bx u 112 [.string p0_w.b.F,ah,vI p0_w.b.K,ai,aj,ak,am,an,ao,ap,vI p0_w.b.L,Q,W,Z,ab,ac,vI p0_w.s.B,q,c,z,d,t,g,af,k,p]::OO AB 3 29 q p0_w.s.H::OS AB 3 c p0_w.s.N::OS BQ 107 d p0_w.s.P::OS AB 3 t p0_w.s.D::OS AB 3 g p0_w.s.O::OS CA 116 af p0_w.moves::OS AB 3 k p0_w.peaks::OS AY 103 p p0_w.sent::L) λ_ _=>AA i2∧Ep N p0_w i2=some r) ?_ ?_
 ·refine A9 (λn1=>λa w=>∃(i8:Int) (bn:Int),IV B S h (137,[]) a w [(16,vI (↑p0_w.s.H.length:Int)),(15,q),(0,vP u 0),(2,vI i8),(17,vI bn)] (Bx u 112 [.string p0_w.b.F,ah,vI p0_w.b.K,ai,aj,ak,am,an,ao,ap,vI p0_w.b.L,Q,W,Z,ab,ac,vI p0_w.s.B,q,c,z,d,t,g,af,k,p]::OO AB 3 29 q p0_w.s.H::OS AB 3 c p0_w.s.N::OS BQ 107 d p0_w.s.P::OS AB 3 t p0_w.s.D::OS AB 3 g p0_w.s.O::OS CA 116 af p0_w.moves::OS AB 3 k p0_w.peaks::OS AY 103 p p0_w.sent::L) λ_ _=>AA i8∧AA bn∧En N p0_w (Ep N p0_w) n1 i8 bn=some r) N ?_ ?_ ?_
  ·intro aa ww hf hw;exact⟨0,0,_,_,hf.sub (kp [16,15,0,2,17] O),hw,hs,(CJ.refl S h),(iq (n:=0) O),(iq (n:=0) O),E⟩
  ·rintro aa ww ⟨_,_,_,_,_,_,_,_,_,_,E⟩;rw[En] at E;cases E
  rintro n1 aa ww ⟨i8,bn,hk,hl,hf,hw,ba,e9,r9,hm,E⟩;refine AK ?_ hf hw;clear hf hw ww aa;rw[En] at E;refine AU ?_;refine AH O E (λfa E=>?_) (λfa E=>?_)
  ·refine AU ?_;refine A6 (AU ?_);obtain⟨hn,dm,E⟩:=bd E;refine RP (r:=AB) ba (mt mh) O O Jl.1 dm O λho dn=>?_;obtain⟨hp,dp,E⟩:=bd E;refine Vc (r:=AB) Hc ba (mt mh) O dp dn GH.1 O λhq fv fb=>AU ?_;refine CX (.inl O) ba (AU ?_);refine DM E O O O QD O (λdq dr h' o=>Gp (St.all h') (fb.mono (λb hb=>Acv hb o.siz) (λb hb=>o.same b hb)) dr) λdq E fc=>?_;have hr:=fc;refine AU ?_;refine By (kp [2,16,15,0,17] O) λht ds hu=>BP (AU ?_);refine WF.nil (λaa ww hf hw=>?_);exact⟨(BT (i8+dq)),(BT (bn+1)),_,_,hf.sub (kp [16,15,0,2,17] O),hw,ds,EX,(BV _),(BV _),E⟩
  refine BM O (λaa ww hf hw=>?_);exact⟨i8,_,_,hf.sub (kp [0,2] O),hw,ba,e9,r9,E⟩
 rintro aa ww ⟨i2,ci,cj,hf,hw,dt,fd,r3,E⟩;refine AK ?_ hf hw;clear hf hw ww aa;rw[Ep] at E;have fe:=a5.mono' fd;refine AU ?_;refine AV (λa w=>∃(bo:Int),IV B ci cj (137,[]) a w [(0,vP u 0),(2,vI bo)] (Bx u 112 [.string p0_w.b.F,ah,vI p0_w.b.K,ai,aj,ak,am,an,ao,ap,vI p0_w.b.L,Q,W,Z,ab,ac,vI p0_w.s.B,q,c,z,d,t,g,af,k,p]::OO AB 3 29 q p0_w.s.H::OS AB 3 c p0_w.s.N::OS BQ 107 d p0_w.s.P::OS AB 3 t p0_w.s.D::OS AB 3 g p0_w.s.O::OS CA 116 af p0_w.moves::OS AB 3 k p0_w.peaks::OS AY 103 p p0_w.sent::L) λ_ _=>AA bo∧Eo N p0_w bo=some r) ?_ ?_
 ·refine A9 (λn3=>λa w=>∃(bm:Int) (bp:Int),IV B ci cj (137,[]) a w [(31,vI (↑p0_w.s.I.length:Int)),(30,z),(0,vP u 0),(2,vI bm),(32,vI bp)] (Bx u 112 [.string p0_w.b.F,ah,vI p0_w.b.K,ai,aj,ak,am,an,ao,ap,vI p0_w.b.L,Q,W,Z,ab,ac,vI p0_w.s.B,q,c,z,d,t,g,af,k,p]::OO AB 3 29 q p0_w.s.H::OS AB 3 c p0_w.s.N::OS BQ 107 d p0_w.s.P::OS AB 3 t p0_w.s.D::OS AB 3 g p0_w.s.O::OS CA 116 af p0_w.moves::OS AB 3 k p0_w.peaks::OS AY 103 p p0_w.sent::L) λ_ _=>AA bm∧AA bp∧Em N p0_w (Eo N p0_w) n3 bm bp=some r) N ?_ ?_ ?_
  ·intro aa ww hf hw;exact⟨i2,0,_,_,hf.sub (kp [31,30,0,2,32] O),hw,dt,(CJ.refl ci cj),r3,(iq (n:=0) O),E⟩
  ·rintro aa ww ⟨_,_,_,_,_,_,_,_,_,_,E⟩;rw[Em] at E;cases E
  rintro n3 aa ww ⟨bm,bp,hv,hx,hf,hw,b5,du,ff,hy,E⟩;refine AK ?_ hf hw;clear hf hw ww aa;rw[Em] at E;refine AU ?_;refine AH O E (λfg E=>?_) (λfg E=>?_)
  ·refine AU ?_;refine A6 (AU ?_);have fh:=fe.mono' du;refine BK E O O fh O2.1 O λhz E h0 fi=>?_;obtain⟨h1,_,fj⟩:=fi.lv;refine AU ?_;refine Dp Sn O b5 λh2 h3 dv fk=>?_;have fl:=fj.mono fk;obtain⟨h4,rfl,h5,h6,fm⟩:=AY.ex fl;refine IH O O O ON Su.1 O dv .head O λh7 b6 fn=>AU ?_;refine CX (.inl O) b6 (AU ?_);have fo:=fm.mono' fn;refine DM E O O O QD O (λdw dx h' o=>Gp (St.all h') (fo.mono' (o.all b6.1)) dx) λdw E fp=>?_;have h8:=fp;refine AU ?_;refine By (kp [2,31,30,0,32] O) λh9 dy ia=>BP (AU ?_);refine WF.nil (λaa ww hf hw=>?_);have dz:=dy.sel [1,1,1,1,1,1,1,1,1] 1 O;exact⟨(BT (bm+dw)),(BT (bp+1)),_,_,hf.sub (kp [31,30,0,2,32] O),hw,dz,EX,(BV _),(BV _),E⟩
  refine BM O (λaa ww hf hw=>?_);exact⟨bm,_,_,hf.sub (kp [0,2] O),hw,b5,du,ff,E⟩
 rintro aa ww ⟨bo,d0,ib,hf,hw,b7,ic,fq,E⟩;refine AK ?_ hf hw;clear hf hw ww aa;rw[Eo] at E;refine AU ?_;refine CX (.inl O) b7 (AU ?_);refine DM E O O O QD O (λd1 d2 h' o=>Gp (St.all h') ((b7.oslAll (mt (mt (mt (mt mh))))).mono (λb hb=>Acv hb o.siz) (λb hb=>o.same b hb)) d2) λd1 E fr=>?_;have fs:=fr;refine AU ?_;refine By (kp [7,0,2] O) λd3 d4 ie=>?_;have ig:=bl.nw;refine AU ?_;refine A6 (A9 (λn4=>λa w=>∃(aq:Int) (ar:Int) (G:Int) (ax:Value) (au:List AX) (ay:List (List Int)) (av:List Int),IV B d0 d3 (137,[]) a w [(53,vI (↑p0_w.b.A.length:Int)),(0,vP u 0),(2,vI aq),(7,vI ar),(54,vI G)] (OS CA 116 ax au::Bx u 112 [.string p0_w.b.F,ah,vI p0_w.b.K,ai,aj,ak,am,an,ao,ap,vI p0_w.b.L,Q,W,Z,ab,ac,vI p0_w.s.B,q,c,z,d,t,g,ax,k,p]::OO AB 3 29 q ay::OS AB 3 c p0_w.s.N::OS BQ 107 d p0_w.s.P::OS AB 3 t av::OS AB 3 g p0_w.s.O::OS AB 3 k p0_w.peaks::OS AY 103 p p0_w.sent::L) λ_ _=>AA aq∧AA ar∧AA G∧DJ N p0_w n4 aq ar G au ay av=some r) N ?_ ?_ ?_)
 ·intro aa ww hf hw;have ck:=d4.sel [6,0,0,0,0,0,0,0,0] 0 O;exact⟨bo,d1,0,af,p0_w.moves,p0_w.s.H,p0_w.s.D,_,_,hf.sub (kp [53,0,2,7,54] O),hw,ck,(CJ.refl d0 d3),fq,fs,(iq (n:=0) O),E⟩
 ·rintro aa ww ⟨_,_,_,_,_,_,_,_,_,_,_,_,_,_,_,_,E⟩;rw[DJ] at E;cases E
 rintro n4 aa ww ⟨aq,ar,G,ax,au,ay,av,bb,bc,hf,hw,a6,fw,d5,d6,fx,E⟩;refine AK ?_ hf hw;clear hf hw ww aa;rw[DJ] at E;refine AU ?_;refine AH O E (λd7 E=>?_) (λd7 E=>?_)
 ·refine AU ?_;refine AV (λa w=>∃(a2:Int) (a3:Int) (be:Value) (bf:List AX) (bg:List (List Int)) (bh:List Int),IV B bb bc (137,[]) a w [(53,vI (↑p0_w.b.A.length:Int)),(0,vP u 0),(54,vI G),(2,vI a2),(7,vI a3)] (OS CA 116 be bf::Bx u 112 [.string p0_w.b.F,ah,vI p0_w.b.K,ai,aj,ak,am,an,ao,ap,vI p0_w.b.L,Q,W,Z,ab,ac,vI p0_w.s.B,q,c,z,d,t,g,be,k,p]::OO AB 3 29 q bg::OS AB 3 c p0_w.s.N::OS BQ 107 d p0_w.s.P::OS AB 3 t bh::OS AB 3 g p0_w.s.O::OS AB 3 k p0_w.peaks::OS AY 103 p p0_w.sent::L) λ_ _=>AA a2∧AA a3∧Gb N G (DJ N p0_w n4) a2 a3 bf bg bh=some r) ?_ ?_
  ·have fy:=aw.nw;refine AU ?_;refine H6 (λa w=>∃(ag:Int),IV B bb bc (137,[]) a w [(8,vI G),(53,vI (↑p0_w.b.A.length:Int)),(0,vP u 0),(2,vI aq),(7,vI ar),(54,vI G),(9,vI ag)] (OS CA 116 ax au::Bx u 112 [.string p0_w.b.F,ah,vI p0_w.b.K,ai,aj,ak,am,an,ao,ap,vI p0_w.b.L,Q,W,Z,ab,ac,vI p0_w.s.B,q,c,z,d,t,g,ax,k,p]::OO AB 3 29 q ay::OS AB 3 c p0_w.s.N::OS BQ 107 d p0_w.s.P::OS AB 3 t av::OS AB 3 g p0_w.s.O::OS AB 3 k p0_w.peaks::OS AY 103 p p0_w.sent::L) λ_ _=>AA ag∧HZ N p0_w aq ar G au ay av (Gb N G (DJ N p0_w n4)) ag=some r) ?_ ?_
   ·refine AH O E (λd8 E=>?_) (λd8 E=>?_)
    ·refine AU ?_;have d9:=aw.nw;refine BK E O O d9 Ck.1 O λea E f0 eb=>?_;have ec:=eb.i;refine AU ?_;refine lZ O O O O (AU ?_);refine WF.nil (λaa ww hf hw=>?_);exact⟨(min (min ea (BT (1125899906842624-aq))) (BT (1152921504606846976-ar))),_,_,hf.sub (kp [8,53,0,2,7,54,9] O),hw,a6,(CJ.refl bb bc),(N2 (N2 ec (BV _)) (BV _)),E⟩
    refine AU ?_;refine WF.nil (λaa ww hf hw=>?_);exact⟨0,_,_,hf.sub (kp [8,53,0,2,7,54,9] O),hw,a6,(CJ.refl bb bc),(iq (n:=0) O),E⟩
   rintro aa ww ⟨ag,f1,f2,hf,hw,a0,ed,ee,E⟩;refine AK ?_ hf hw;clear hf hw ww aa;rw[HZ] at E;refine AU ?_;refine AH O E (λef E=>?_) (λef E=>?_)
   ·refine BM O (λaa ww hf hw=>?_);exact⟨aq,ar,ax,au,ay,av,_,_,hf.sub (kp [53,0,54,2,7] O),hw,a0,ed,d5,d6,E⟩
   refine AU ?_;obtain⟨f3,cl,E⟩:=bd E;refine RP (r:=AB) a0 (mt (mt mh)) O O Jl.1 cl O λf4 bq=>?_;obtain⟨eg,br,E⟩:=bd E;refine Vc (r:=AB) Hc a0 (mt (mt mh)) O br bq GH.1 O λf5 cm b8=>?_;obtain⟨bs,cn,E⟩:=bd E;refine ZA O O b8 Ck.1 cn O λf6 eh e8=>Fs Hc (λ_ x=>x) O eh Fa.1 O λf7=>AU ?_;obtain⟨f8,bt,E⟩:=bd E;refine ZA O O b8 Ck.1 bt O λf9 ga b2=>AU ?_;have co:=a0.pick (.tail (.tail .head));refine mL (r:=AB) (i:=G) (j:=0) (y:=(BT (bs+ag))) O O (⟨_,O,O,(BV _)⟩:Rd _ _ AB _ (BT (bs+ag))) bq cm b2 br bt Fa.1 (λ_=>rfl) co λgb a1 gc=>AU ?_;obtain⟨ge,cp,E⟩:=bd E;refine BY a1 (mt (mt (mt (mt (mt mh))))) O O Ck.1 cp O λgf cq=>?_;obtain⟨b9,cr,E⟩:=bd E;have ei:=a1.epAt (mt (mt (mt (mt (mt mh))))) cr FZ.id cq;refine Fs Hc (λ_ x=>x) O ei Fa.1 O λgg=>AU ?_;obtain⟨gh,ct,E⟩:=bd E;refine BY a1 (mt (mt (mt (mt (mt mh))))) O O Ck.1 ct O λgi cu=>AU ?_;obtain⟨ej,cv,E⟩:=bd E;refine Ed (r:=AB) (l:=av) (i:=0) (x:=ej) O O (⟨_,O,O,(BV _)⟩:Rd _ _ AB _ (BT (b9+ag))) cu cv Mh.id Fa.1 (λ_=>rfl) a1 (.tail (.tail (.tail (.tail (.tail .head))))) λgj cw gl=>?_;have gm:=bk.nw;refine AU ?_;obtain⟨cx,E⟩:=Lt E;refine Lf (r:=AB) (zx:=0) JU O ⟨O,by unfold AA;omega⟩ O O cx O O cw λek gn bu gp=>AU ?_;obtain⟨gq,cy,E⟩:=bd E;refine BY bu mh O O Ck.1 cy O λgr cz=>AU ?_;obtain⟨el,c0,E⟩:=bd E;refine Ed (r:=AB) (l:=(List.replicate ((↑p0_w.b.J.length:Int):Int).toNat (0:Int))) (i:=0) (x:=el) O O (⟨_,O,O,ee⟩:Rd _ _ AB _ ag) cz c0 Mh.id Fa.1 (λ_=>rfl) bu .head λca c1 gs=>AU ?_;obtain⟨bv,az,gu,em⟩:=c1.pubs .head;refine Tj (m:=[(10,ek),(7,vI (BT (ar+ag))),(2,vI (BT (aq+ag))),(8,vI G),(53,vI (↑p0_w.b.A.length:Int)),(0,vP u 0),(54,vI G)]) 14 [0] (λi v hh=>match i with|0=>v=vP u 0|1=>v=vP u 0|2=>v=vP u 0|3=>v=vP u 23|4=>v=ax|5=>v=vP u 0|6=>v=vP u 0|7=>v=vP u 16|8=>v=vP u 16|9=>v=vI p0_w.s.B∧AA p0_w.s.B|10=>v=vI G∧AA G|11=>Sl bv hh AB v (upd (List.replicate ((↑p0_w.b.J.length:Int):Int).toNat (0:Int)) 0 ag)|12=>Rd bv hh CA v (⟨p0_w.s.B,(-1),G,(-4),(upd (List.replicate ((↑p0_w.b.J.length:Int):Int).toNat (0:Int)) 0 ag)⟩:AX)|13=>Sl (SN bv ca hh) hh CA v ([(⟨p0_w.s.B,(-1),G,(-4),(upd (List.replicate ((↑p0_w.b.J.length:Int):Int).toNat (0:Int)) 0 ag)⟩:AX)]:List AX)∧∃ad,v= .slice (some ad) 1 1|_=>False) [[],[],[(1,120)],[(2,121)],[(3,122)],[],[(5,124)],[(6,125)],[(7,126)],[(8,127)],[],[],[(9,128),(10,129),(11,130)],[(12,131)]] [(0,119),(4,123),(13,132)] mo (by kernel_rfl) [10,7,2,8,53,0,54] O (by kernel_rfl) (by kernel_rfl) (by kernel_rfl) (kp [10,7,2,8,53,0,54] O) MO ?_ ?_ ?_
   ·refine Ry.cons [] (by kernel_rfl) O O (by kernel_rfl) ?_ ?_
    ·intro mq hh o;intro a hf;exact⟨vP u 0,Nr hf O,O⟩
    exact trivial
   ·refine A7.cons O Fy (A7.cons O Fy (A7.cons O Fy (A7.cons O Fy (A7.cons O Fy (A7.cons O Fy (A7.cons O Fy (A7.cons O Fy (A7.cons O Fy (A7.cons O Fy (A7.cons O Fy (A7.cons O ?_ ?_)))))))))))
    ·intro mq hh o;have c2:=o.st az;refine AU ?_;have en:=em.mono' (o.ext az.1);exact B0 en
    refine A7.cons O ?_ ?_
    ·intro mq hh o;intro gv eo gw ep eq bi;have c2:=o.st az;obtain⟨rfl,er⟩:=eo;obtain⟨rfl,es⟩:=ep;have bi:Sl _ _ AB eq (upd (List.replicate ((↑p0_w.b.J.length:Int):Int).toNat (0:Int)) 0 ag):=bi;refine AU ?_;obtain⟨c3,b3,rfl,gx⟩:=(bi).len;refine HO (cs:=[vI p0_w.s.B,vI (-1),vI G,vI (-4),(.slice c3 (upd (List.replicate ((↑p0_w.b.J.length:Int):Int).toNat (0:Int)) 0 ag).length b3)]) bZ O O O (AU ?_);exact B0 (CA.mk (x:=(⟨p0_w.s.B,(-1),G,(-4),(upd (List.replicate ((↑p0_w.b.J.length:Int):Int).toNat (0:Int)) 0 ag)⟩:AX)) er (iq (n:=(-1)) O) es (iq (n:=(-4)) O) bi)
    refine A7.cons O ?_ ?_
    ·intro mq hh o;intro eu a4;have c2:=SN.st az o;have a4:=Rd.sn ca a4;have a4:Rd _ _ CA eu (⟨p0_w.s.B,(-1),G,(-4),(upd (List.replicate ((↑p0_w.b.J.length:Int):Int).toNat (0:Int)) 0 ag)⟩:AX):=a4;have ft:=c2.fz;obtain⟨gy,rfl,ev,ew,ey,ez,cb⟩:=CA.ex a4;obtain⟨c4,b4,rfl,gz⟩:=(cb).len;refine Ft (cs:=[vI ((⟨p0_w.s.B,(-1),G,(-4),(upd (List.replicate ((↑p0_w.b.J.length:Int):Int).toNat (0:Int)) 0 ag)⟩:AX).B),vI ((⟨p0_w.s.B,(-1),G,(-4),(upd (List.replicate ((↑p0_w.b.J.length:Int):Int).toNat (0:Int)) 0 ag)⟩:AX).M),vI ((⟨p0_w.s.B,(-1),G,(-4),(upd (List.replicate ((↑p0_w.b.J.length:Int):Int).toNat (0:Int)) 0 ag)⟩:AX).E),vI ((⟨p0_w.s.B,(-1),G,(-4),(upd (List.replicate ((↑p0_w.b.J.length:Int):Int).toNat (0:Int)) 0 ag)⟩:AX).Bf),(.slice c4 ((⟨p0_w.s.B,(-1),G,(-4),(upd (List.replicate ((↑p0_w.b.J.length:Int):Int).toNat (0:Int)) 0 ag)⟩:AX).V).length b4)]) Yn O O O O O O O ft λg0 g1 c5 e0=>?_;have e1:=cb.mono' e0;have c6:=c5.bxos (r:=CA) (l:=([(⟨p0_w.s.B,(-1),G,(-4),(upd (List.replicate ((↑p0_w.b.J.length:Int):Int).toNat (0:Int)) 0 ag)⟩:AX)]:List AX)) .head ⟨_,_,O,⟨_,O,ev,ew,ey,ez,e1⟩,O⟩ (by simp [maxLen]);obtain⟨g2,c7,g3,e2⟩:=c6.pubs .head;have bw:=Fz.done o EX c7;exact BB bw.1 ⟨Sl.mono' e2 bw.2,_,O⟩
    exact trivial
   intro g4 e3 g5 e4 g6 e5 g7 bx;have c8:=SN.st az e3;cases e4;cases e5;obtain⟨bx,fu,rfl⟩:=bx;obtain⟨c9,E⟩:=Lt E;refine Eb (r:=CA) (l:=au) (xs:=([(⟨p0_w.s.B,(-1),G,(-4),(upd (List.replicate ((↑p0_w.b.J.length:Int):Int).toNat (0:Int)) 0 ag)⟩:AX)]:List AX)) O O Yn O (Sl.src bx) O c9 O c8 (λ_=>(.tail .head)) λg8 g9 bz ha=>AU ?_;obtain⟨b0,bj,rfl,hc⟩:=bz.oslen (mt mh);refine Ge (cs':=[.string p0_w.b.F,ah,vI p0_w.b.K,ai,aj,ak,am,an,ao,ap,vI p0_w.b.L,Q,W,Z,ab,ac,vI p0_w.s.B,q,c,z,d,t,g,(.slice b0 (au++([(⟨p0_w.s.B,(-1),G,(-4),(upd (List.replicate ((↑p0_w.b.J.length:Int):Int).toNat (0:Int)) 0 ag)⟩:AX)]:List AX)).length bj),k,p]) O O O O bC.1 O bz (.tail (.tail .head)) O O λhd da he=>AU ?_;refine WF.nil (λaa ww hf hw=>?_);have db:=da.sel [1,1,0,0,0,0,0,0,0] 0 O;exact⟨(BT (aq+ag)),(BT (ar+ag)),(.slice b0 (au++([(⟨p0_w.s.B,(-1),G,(-4),(upd (List.replicate ((↑p0_w.b.J.length:Int):Int).toNat (0:Int)) 0 ag)⟩:AX)]:List AX)).length bj),(au++([(⟨p0_w.s.B,(-1),G,(-4),(upd (List.replicate ((↑p0_w.b.J.length:Int):Int).toNat (0:Int)) 0 ag)⟩:AX)]:List AX)),(upd ay G (upd eg 0 (BT (bs+ag)))),(upd av 0 (BT (b9+ag))),_,_,hf.sub (kp [53,0,54,2,7] O),hw,db,EX,(BV _),(BV _),E⟩
  rintro aa ww ⟨a2,a3,be,bf,bg,bh,hg,hi,hf,hw,dc,hj,e6,e7,E⟩;refine AK ?_ hf hw;clear hf hw ww aa;rw[Gb] at E;refine AU ?_;refine WF.nil (λaa ww hf hw=>?_);exact⟨a2,a3,(BT (G+1)),be,bf,bg,bh,_,_,hf.sub (kp [53,0,2,7,54] O),hw,dc,EX,e6,e7,(BV _),E⟩
 refine JV O (WF.nil (λaa ww hf hw=>?_));have dd:=a6.sel [1,1,1,1,1,1,0,0,0] 0 O;cases E;exact K6 hf O hw K5 O EX ⟨_,_,_,O,dd⟩
end Go.Proofs.YtabonambpbofgaaGreat
