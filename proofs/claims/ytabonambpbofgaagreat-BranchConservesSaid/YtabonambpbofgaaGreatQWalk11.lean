import Derived.Test.YtabonambpbofgaaGreatQInst
import Derived.Test.YtabonambpbofgaaGreatQForms
import Derived.Test.YtabonambpbofgaaGreatQWalk1
import Derived.Test.YtabonambpbofgaaGreatQSortD
import Derived.Test.YtabonambpbofgaaGreatQWalk7
import Derived.Test.YtabonambpbofgaaGreatQWalk9
namespace Go.Proofs.YtabonambpbofgaaGreat
set_option linter.all false
open Go.RowKit
open Go.Proofs.Tryz
set_option maxRecDepth 10000
set_option maxHeartbeats 20000000
variable {H X Y Z a3 ab ac ad af ag ah ai aj ak am an ao ap aq ar au av c d g j k l p t u y:Value}{xj:AS}{A b:Int}{n:BG}{r:(List xq)×(List AY)×(List A8)×xq}
variable{N:Nat}{S:Nat->Prop}{L:List HP}{h:AV}
def Qy{g:Nat}{q:Value}{x:Value}{z:Value}(hs:St S (Bx g 112 [.string xj.b.G,ag,vI xj.b.L,ah,ai,aj,ak,am,an,ao,vI xj.b.M,Z,ab,ac,ad,l,vI xj.s.B,d,q,af,t,u,x,y,z,H]::OO AC 3 29 d xj.s.D::OS AC 3 q xj.s.P::OS BZ 107 t xj.s.Q::OS AC 3 u xj.s.K::OS AC 3 x xj.s.O::OS BY 116 y xj.moves::OS AC 3 z xj.peaks::OS A5 103 H xj.sent::L) h)(cf:xj.b.G.size<=maxLen)(au:Sl S h A9.str ag xj.b.I)(cg:AB xj.b.L)(ax:Sl S h B4 ah xj.b.A)(ch:Sl S h CD ai xj.b.E)(ci:Sl S h Hj aj xj.b.Af)(cj:Sl S h E7 ak xj.b.Ah)(ck:Sl S h HC am xj.b.Ai)(cl:Sl S h Db an xj.b.Ak)(cm:Sl S h AC ao xj.b.Aj)(bm:AB xj.b.M)(bn:Sl S h AC Z xj.in_.U)(bo:Sl S h Ct ab xj.in_.Ab)(bp:Sl S h Fj ac xj.in_.Ac)(bq:Sl S h DU ad xj.in_.V)(av:Sl S h Di l xj.in_.Ad)(br:AB xj.s.B)(bs:Sl S h A5 af xj.s.F){r:List xq}(E:ET N xj=some r):
 CG prog 59 #[vP g 0] S h (λv S' h'=>∃aw:Value,v= .tuple #[]/\St S' (Bx g 112 [.string xj.b.G,ag,vI xj.b.L,ah,ai,aj,ak,am,an,ao,vI xj.b.M,Z,ab,ac,ad,l,vI xj.s.B,aw,q,af,t,u,x,y,z,H]::OO AC 3 29 aw r::OS AC 3 q xj.s.P::OS BZ 107 t xj.s.Q::OS AC 3 u xj.s.K::OS AC 3 x xj.s.O::OS BY 116 y xj.moves::OS AC 3 z xj.peaks::OS A5 103 H xj.sent::L) h'):=by
 refine CG.go 70 func59 O ntmps59 O λB=>?_;rw[ET]at E;refine AU ?_;refine AW (A0 (λn0=>λa w=>∃(i5:Int)(l7:List xq),IV B S h (70,[]) a w [(9,vI (↑xj.in_.Ad.length:Int)),(8,l),(0,vP g 0),(10,vI i5)] (Bx g 112 [.string xj.b.G,ag,vI xj.b.L,ah,ai,aj,ak,am,an,ao,vI xj.b.M,Z,ab,ac,ad,l,vI xj.s.B,d,q,af,t,u,x,y,z,H]::OO AC 3 29 d l7::OS AC 3 q xj.s.P::OS BZ 107 t xj.s.Q::OS AC 3 u xj.s.K::OS AC 3 x xj.s.O::OS BY 116 y xj.moves::OS AC 3 z xj.peaks::OS A5 103 H xj.sent::L) λ_ _=>AB i5/\Co N xj n0 i5 l7=some r) N ?_ ?_ ?_)
 ·intro aa ww hf hw;exact⟨0,xj.s.D,_,_,hf.sub (kp [9,8,0,10] O),hw,hs,(CO.refl S h),(iq (n:=0) O),E⟩
 ·rintro aa ww⟨_,_,_,_,_,_,_,_,_,E⟩;rw[Co]at E;cases E
 rintro n0 aa ww⟨i5,l7,S8,h9,hf,hw,bk,cn,r6,E⟩;refine AL ?_ hf hw;clear hf hw ww aa;rw[Co]at E;refine AU ?_;refine AK O E (λdf E=>?_) (λdf E=>?_)
 ·refine AU ?_;refine AT (λa w=>∃(bj:List xq),IV B S8 h9 (70,[]) a w [(9,vI (↑xj.in_.Ad.length:Int)),(8,l),(0,vP g 0),(10,vI i5)] (Bx g 112 [.string xj.b.G,ag,vI xj.b.L,ah,ai,aj,ak,am,an,ao,vI xj.b.M,Z,ab,ac,ad,l,vI xj.s.B,d,q,af,t,u,x,y,z,H]::OO AC 3 29 d bj::OS AC 3 q xj.s.P::OS BZ 107 t xj.s.Q::OS AC 3 u xj.s.K::OS AC 3 x xj.s.O::OS BY 116 y xj.moves::OS AC 3 z xj.peaks::OS A5 103 H xj.sent::L) λ_ _=>HS N i5 (Co N xj n0) bj=some r) ?_ ?_
  ·refine AU ?_;have dg:=av.mono' cn;refine BE E O O dg Z2.1 O λap E fp dh=>?_;obtain⟨fq,_,di⟩:=dh.lv;refine AU ?_;refine DT uP O bk λay fr co cp=>?_;have dj:=di.mono cp;obtain⟨rfl,⟨bt,cq,cr,dk⟩⟩:=Di.ex dj;refine EM O O O O vG.1 O co .head O λfs cs dl=>AU ?_;refine CP (.inr ⟨mo,Γ⟩) cs ?_;have dm:=ax.nw;have dn:=dm.le;refine AU ?_;refine BD E O O O QD O (λct cu h' o=>IP (St.all h') bt (Mk dn) cu) λct E=>AU ?_;obtain⟨cv,aq,E⟩:=bd E;refine A3 10 33 (.bool cv) ?_ ?_
   ·cases cw:ct
    ·have aq:=Hl cw aq;cases aq;exact BK O O
    have aq:=Hk cw aq;have dp:=au.nw;have dq:=dp.le;refine AU ?_;refine BD aq O O O QD O (λdr cx h' o=>IP (St.all h') cq (Mk dq) cx) λdr aq=>AU ?_;cases aq;exact A4 O
   refine AU ?_;obtain⟨ds,ar,E⟩:=bd E;refine A3 10 44 (.bool ds) ?_ ?_
   ·cases cy:cv
    ·have ar:=Hl cy ar;cases ar;exact BK O O
    have ar:=Hk cy ar;have dt:=au.nw;have du:=dt.le;refine AU ?_;refine BD ar O O O QD O (λdv cz h' o=>IP (St.all h') cr (Mk du) cz) λdv ar=>AU ?_;cases ar;exact A4 O
   refine BW (kp [44,3,9,8,0,10] O) λdw c dx=>AK O E (λdy E=>?_) (λdy E=>?_)
   ·obtain ⟨ft,c0,E⟩:=bd E;obtain⟨dz,c1,E⟩:=bd E;obtain⟨c2,c3,E⟩:=bd E;obtain⟨fu,c4,E⟩:=bd E;refine W7 (m:=[(3,vP ay 0),(9,vI (↑xj.in_.Ad.length:Int)),(8,l),(0,vP g 0),(10,vI i5)]) [24] [] [] Γ (λgv X F i v hh=>match i with|0=>v=vP g 0|1=>v=vP g 0|2=>v=vP g 16|3=>v=vP g 17|4=>v=d|5=>v=vP ay 0|6=>v=vI ap.Ap/\AB ap.Ap|7=>v=vP g 0|8=>v=vP g 0|9=>v=vP g 16|10=>v=vP g 17|11=>v=d|12=>v=vP ay 0|13=>v=vI ap.Ap/\AB ap.Ap|14=>EP d (ap.Ap.toNat*((A9.sl AC)).sz+0) v|15=>Sl (λb=>b<hh.size) hh AC v dz|16=>v=vP ay 1|17=>v=vI ap.J/\AB ap.J|18=>v=vP ay 2|19=>v=vI ap.C/\AB ap.C|20=>v=vP ay 3|21=>v=vI ap.Bd/\AB ap.Bd|22=>OW S8 dw X F [OS AC 3 v c2] hh|23=>EP d (ap.Ap.toNat*((A9.sl AC)).sz+0) v|_=>False) [[],[(0,45)],[(1,46)],[(2,47)],[(3,48)],[],[(5,50)],[],[(7,52)],[(8,53)],[(9,54)],[(10,55)],[],[(12,57)],[(11,56),(13,58)],[(14,59)],[],[(16,61)],[],[(18,63)],[],[(20,65)],[(15,60),(17,62),(19,64),(21,66)],[(4,49),(6,51)],[]] [(22,67),(23,68)] mo Γ [3,9,8,0,10] O Γ Γ Γ O (kp [3,9,8,0,10] O) (λgv i v h1 h2 X X' F o1 o2 hF u1 u2 W=>?_) (λgv fv X F i v h1 hz W=>?_) ?_ ?_ ?_
    ·match i,W with
      |0,W|1,W|2,W|3,W|4,W|5,W|6,W|7,W|8,W|9,W|10,W|11,W|12,W|13,W|14,W|16,W|17,W|18,W|19,W|20,W|21,W|23,W=>exact W
      |15,W=>exact Sl.mono W (λb hb=>Ag6 hb o2.siz) (λb hb=>o2.same b hb)
      |22,W=>exact OW.mono c.1 o1 o2 hF u1 u2 W
      |_+24,W=>exact W.elim
    ·match i,W with
      |0,W|1,W|2,W|3,W|4,W|5,W|6,W|7,W|8,W|9,W|10,W|11,W|12,W|13,W|14,W|15,W|16,W|17,W|18,W|19,W|20,W|21,W|22,W|23,W=>exact W
      |_+24,W=>exact W.elim
    ·exact trivial
    ·refine DH.cons O O ?_ ?_
     ·intro gv X mq hh o hX;have Y:=o.st c;refine AU ?_;exact B1 O
     refine DH.cons O O ?_ ?_
     ·intro gv X mq hh o hX;have Y:=o.st c;intro fw bu;obtain⟨el,_,_,bu⟩:=bu;cases bu;refine AU ?_;exact B1 O
     refine DH.cons O O ?_ ?_
     ·intro gv X mq hh o hX;have Y:=o.st c;intro fx bv;obtain⟨em,_,_,bv⟩:=bv;cases bv;refine AU ?_;exact B1 O
     refine DH.cons O O ?_ ?_
     ·intro gv X mq hh o hX;have Y:=o.st c;intro fy bw;obtain⟨en,_,_,bw⟩:=bw;cases bw;refine AU ?_;exact B1 O
     refine DH.cons O O ?_ ?_
     ·intro gv X mq hh o hX;have Y:=o.st c;intro f0 bx;obtain⟨eo,_,_,bx⟩:=bx;cases bx;refine AU ?_;exact B1 O
     refine DH.cons O O ?_ ?_
     ·intro gv X mq hh o hX;have Y:=o.st c;refine AU ?_;exact B1 O
     refine DH.cons O O ?_ ?_
     ·intro gv X mq hh o hX;have Y:=o.st c;intro f1 bz;obtain⟨ep,_,_,bz⟩:=bz;cases bz;refine AU ?_;exact B1 ⟨O,bt⟩
     refine DH.cons O O ?_ ?_
     ·intro gv X mq hh o hX;have Y:=o.st c;refine AU ?_;exact B1 O
     refine DH.cons O O ?_ ?_
     ·intro gv X mq hh o hX;have Y:=o.st c;intro f2 b0;obtain⟨eq,_,_,b0⟩:=b0;cases b0;refine AU ?_;exact B1 O
     refine DH.cons O O ?_ ?_
     ·intro gv X mq hh o hX;have Y:=o.st c;intro f3 b1;obtain⟨er,_,_,b1⟩:=b1;cases b1;refine AU ?_;exact B1 O
     refine DH.cons O O ?_ ?_
     ·intro gv X mq hh o hX;have Y:=o.st c;intro f4 b2;obtain⟨es,_,_,b2⟩:=b2;cases b2;refine AU ?_;exact B1 O
     refine DH.cons O O ?_ ?_
     ·intro gv X mq hh o hX;have Y:=o.st c;intro f5 az;obtain⟨d0,_,_,az⟩:=az;cases az;refine AU ?_;exact B1 O
     refine DH.cons O O ?_ ?_
     ·intro gv X mq hh o hX;have Y:=o.st c;refine AU ?_;exact B1 O
     refine DH.cons O O ?_ ?_
     ·intro gv X mq hh o hX;have Y:=o.st c;intro eu a0;obtain⟨d1,_,_,a0⟩:=a0;cases a0;refine AU ?_;exact B1 ⟨O,bt⟩
     refine DH.cons O O ?_ ?_
     ·intro gv X mq hh o hX;have Y:=o.st c;intro ev a1 ew a2;obtain⟨d2,_,_,a1⟩:=a1;cases a1;obtain⟨d3,_,_,a2⟩:=a2;obtain⟨rfl,ey⟩:=a2;refine AU ?_;refine Se (r:=AC) Y (mt (mt mh)) O O Js.1 c0 O λez b3=>AU ?_;exact B1 b3
     refine DH.cons O O ?_ ?_
     ·intro gv X mq hh o hX;have Y:=o.st c;intro e0 a3;obtain⟨d4,_,_,a3⟩:=a3;refine AU ?_;refine XH (r:=AC) H4 Y (mt (mt mh)) O c1 a3 GC.1 O λe1 d5 c5=>AU ?_;exact B1 c5
     refine DH.cons O O ?_ ?_
     ·intro gv X mq hh o hX;have Y:=o.st c;refine AU ?_;exact B1 O
     refine DH.cons O O ?_ ?_
     ·intro gv X mq hh o hX;have Y:=o.st c;intro e2 a4;obtain⟨d6,_,_,a4⟩:=a4;cases a4;refine AU ?_;exact B1 ⟨O,cq⟩
     refine DH.cons O O ?_ ?_
     ·intro gv X mq hh o hX;have Y:=o.st c;refine AU ?_;exact B1 O
     refine DH.cons O O ?_ ?_
     ·intro gv X mq hh o hX;have Y:=o.st c;intro e3 a5;obtain⟨d7,_,_,a5⟩:=a5;cases a5;refine AU ?_;exact B1 ⟨O,cr⟩
     refine DH.cons O O ?_ ?_
     ·intro gv X mq hh o hX;have Y:=o.st c;refine AU ?_;exact B1 O
     refine DH.cons O O ?_ ?_
     ·intro gv X mq hh o hX;have Y:=o.st c;intro e4 a6;obtain⟨d8,_,_,a6⟩:=a6;cases a6;refine AU ?_;exact B1 ⟨O,dk⟩
     refine QU O O ?_ ?_
     ·intro gv X mq hh o hX;have Y:=SX.fz (X:=X) c o;intro e5 a7 e6 a8 e7 a9 e8 ba;obtain⟨d9,_,_,a7⟩:=a7;obtain⟨ea,_,_,a8⟩:=a8;obtain⟨rfl,c6⟩:=a8;obtain⟨eb,_,_,a9⟩:=a9;obtain⟨rfl,c7⟩:=a9;obtain⟨ec,_,_,ba⟩:=ba;obtain⟨rfl,c8⟩:=ba;refine El O O O zV O Y (VS (St.all _) a7 c6 c7 c8 c3) λe9 fa fb ed c9 da p=>?_;have b4:=p;have bb:=Y.join da b4 ⟨OS.flat (λ{_ _ _ _ _ _} k=>k),trivial⟩;simp only[Ag4,Ag3]at bb;have ee:=bb.pick (.tail .head);obtain⟨db,b5,dc,fc,dd⟩:=OW.done c.1 o hX c9 ee;exact BB dc ⟨db,b5,dd⟩
     refine DH.cons O O ?_ ?_
     ·intro gv X mq hh o hX;have Y:=o.st c;intro fd bc fe be;obtain⟨ef,_,_,bc⟩:=bc;cases bc;obtain⟨eg,_,_,be⟩:=be;obtain⟨rfl,ff⟩:=be;refine AU ?_;refine Se (r:=AC) Y (mt (mt mh)) O O Js.1 c4 O λfg b6=>AU ?_;exact B1 b6
     exact DH.skip Γ (trivial)
    intro fh eh ei bl bf b7 fi bg fj bh;obtain⟨ej,bg⟩:=bg;obtain⟨ek,bh⟩:=bh;have bi:=(Zg.cons (Zg.nil c bl bf) b7 (j:=22) O bg).st;simp only[Ag4,Ag3]at bi;have b8:=bi.sel [0,2,0,0,0,0,0,0,0,0,0] 0 O;obtain⟨fk,b9,E⟩:=bd E;refine cG (r:=AC) (i:=ap.Ap) O O bh b9 GC.1 b8 λfl ca de=>AU ?_;refine WF.nil (λaa ww hf hw=>?_);have cb:=ca.sel [2,0,1,1,1,1,1,1,1] 1 O;have cc:=cp.trans (dl.trans (dx.trans ((SX.ext c.1 bl (nZ bf)).trans de)));exact⟨(upd l7 ap.Ap c2),_,_,hf.sub (kp [9,8,0,10] O),hw,cb,cc,E⟩
   refine AU ?_;refine WF.nil (λaa ww hf hw=>?_);have cd:=c.sel [1,1,1,1,1,1,1,1,1] 1 O;exact⟨l7,_,_,hf.sub (kp [9,8,0,10] O),hw,cd,EX,E⟩
  rintro aa ww⟨bj,fm,fn,hf,hw,ce,fo,E⟩;refine AL ?_ hf hw;clear hf hw ww aa;rw[HS]at E;refine AU ?_;refine WF.nil (λaa ww hf hw=>?_);exact⟨(BO (i5+1)),bj,_,_,hf.sub (kp [9,8,0,10] O),hw,ce,EX,(BQ _),E⟩
 refine IA O (WF.nil (λaa ww hf hw=>?_));cases E;exact K0 hf O hw Kz O cn ⟨_,O,bk⟩
def RX{u:Nat}{W:Value}{q:Value}{z:Value}(hs:St S (Bx u 112 [.string xj.b.G,ag,vI xj.b.L,ah,ai,aj,ak,am,an,ao,vI xj.b.M,W,X,Y,Z,ab,vI xj.s.B,q,c,z,d,t,g,ac,k,p]::OO AC 3 29 q xj.s.D::OS AC 3 c xj.s.P::OS BZ 107 d xj.s.Q::OS AC 3 t xj.s.K::OS AC 3 g xj.s.O::OS BY 116 ac xj.moves::OS AC 3 k xj.peaks::OS A5 103 p xj.sent::L) h)(dd:xj.b.G.size<=maxLen)(bj:Sl S h A9.str ag xj.b.I)(de:AB xj.b.L)(bk:Sl S h B4 ah xj.b.A)(df:Sl S h CD ai xj.b.E)(dg:Sl S h Hj aj xj.b.Af)(dh:Sl S h E7 ak xj.b.Ah)(di:Sl S h HC am xj.b.Ai)(dj:Sl S h Db an xj.b.Ak)(dk:Sl S h AC ao xj.b.Aj)(cb:AB xj.b.M)(av:Sl S h AC W xj.in_.U)(cc:Sl S h Ct X xj.in_.Ab)(cd:Sl S h Fj Y xj.in_.Ac)(ce:Sl S h DU Z xj.in_.V)(cf:Sl S h Di ab xj.in_.Ad)(cg:AB xj.s.B)(a4:Sl S h A5 z xj.s.F){r:(List xq)×xq×(List AM)}(E:KG N xj=some r):
 CG prog 60 #[vP u 0] S h (λv S' h'=>∃a6 a7 a8:Value,v= .tuple #[]/\St S' (Bx u 112 [.string xj.b.G,ag,vI xj.b.L,ah,ai,aj,ak,am,an,ao,vI xj.b.M,W,X,Y,Z,ab,vI xj.s.B,a6,c,z,d,a7,g,a8,k,p]::OO AC 3 29 a6 r.1::OS AC 3 c xj.s.P::OS BZ 107 d xj.s.Q::OS AC 3 a7 r.2.1::OS AC 3 g xj.s.O::OS BY 116 a8 r.2.2::OS AC 3 k xj.peaks::OS A5 103 p xj.sent::L) h'):=by
 refine CG.go 137 func60 O ntmps60 O λB=>?_;rw[KG]at E;refine AU ?_;refine nE hs (mt mh) O Js.1 O λb1=>AU ?_;refine AT (λa w=>∃(i2:Int),IV B S h (137,[]) a w [(0,vP u 0),(2,vI i2)] (Bx u 112 [.string xj.b.G,ag,vI xj.b.L,ah,ai,aj,ak,am,an,ao,vI xj.b.M,W,X,Y,Z,ab,vI xj.s.B,q,c,z,d,t,g,ac,k,p]::OO AC 3 29 q xj.s.D::OS AC 3 c xj.s.P::OS BZ 107 d xj.s.Q::OS AC 3 t xj.s.K::OS AC 3 g xj.s.O::OS BY 116 ac xj.moves::OS AC 3 k xj.peaks::OS A5 103 p xj.sent::L) λ_ _=>AB i2/\Ez N xj i2=some r) ?_ ?_
 ·refine A0 (λn1=>λa w=>∃(i8:Int)(bm:Int),IV B S h (137,[]) a w [(16,vI (↑xj.s.D.length:Int)),(15,q),(0,vP u 0),(2,vI i8),(17,vI bm)] (Bx u 112 [.string xj.b.G,ag,vI xj.b.L,ah,ai,aj,ak,am,an,ao,vI xj.b.M,W,X,Y,Z,ab,vI xj.s.B,q,c,z,d,t,g,ac,k,p]::OO AC 3 29 q xj.s.D::OS AC 3 c xj.s.P::OS BZ 107 d xj.s.Q::OS AC 3 t xj.s.K::OS AC 3 g xj.s.O::OS BY 116 ac xj.moves::OS AC 3 k xj.peaks::OS A5 103 p xj.sent::L) λ_ _=>AB i8/\AB bm/\Ex N xj (Ez N xj) n1 i8 bm=some r) N ?_ ?_ ?_
  ·intro aa ww hf hw;exact⟨0,0,_,_,hf.sub (kp [16,15,0,2,17] O),hw,hs,(CO.refl S h),(iq (n:=0) O),(iq (n:=0) O),E⟩
  ·rintro aa ww⟨_,_,_,_,_,_,_,_,_,_,E⟩;rw[Ex]at E;cases E
  rintro n1 aa ww⟨i8,bm,hj,hk,hf,hw,a9,e8,r9,hl,E⟩;refine AL ?_ hf hw;clear hf hw ww aa;rw[Ex]at E;refine AU ?_;refine AK O E (λe9 E=>?_) (λe9 E=>?_)
  ·refine AU ?_;refine AW (AU ?_);obtain⟨hm,dl,E⟩:=bd E;refine Se (r:=AC) a9 (mt mh) O O Js.1 dl O λhn dm=>?_;obtain⟨ho,dn,E⟩:=bd E;refine XH (r:=AC) H4 a9 (mt mh) O dn dm GC.1 O λhp fu fa=>AU ?_;refine CP (.inl O) a9 (AU ?_);refine DO E O O O OR O (λdp dq h' o=>ES (St.all h') (fa.mono (λb hb=>Ag6 hb o.siz) (λb hb=>o.same b hb)) dq) λdp E fb=>?_;have hq:=fb;refine AU ?_;refine BW (kp [2,16,15,0,17] O) λhr dr ht=>BF (AU ?_);refine WF.nil (λaa ww hf hw=>?_);exact⟨(BO (i8+dp)),(BO (bm+1)),_,_,hf.sub (kp [16,15,0,2,17] O),hw,dr,EX,(BQ _),(BQ _),E⟩
  refine BL O (λaa ww hf hw=>?_);exact⟨i8,_,_,hf.sub (kp [0,2] O),hw,a9,e8,r9,E⟩
 rintro aa ww⟨i2,ch,ci,hf,hw,ds,fc,r3,E⟩;refine AL ?_ hf hw;clear hf hw ww aa;rw[Ez]at E;have fd:=a4.mono' fc;refine AU ?_;refine AT (λa w=>∃(bn:Int),IV B ch ci (137,[]) a w [(0,vP u 0),(2,vI bn)] (Bx u 112 [.string xj.b.G,ag,vI xj.b.L,ah,ai,aj,ak,am,an,ao,vI xj.b.M,W,X,Y,Z,ab,vI xj.s.B,q,c,z,d,t,g,ac,k,p]::OO AC 3 29 q xj.s.D::OS AC 3 c xj.s.P::OS BZ 107 d xj.s.Q::OS AC 3 t xj.s.K::OS AC 3 g xj.s.O::OS BY 116 ac xj.moves::OS AC 3 k xj.peaks::OS A5 103 p xj.sent::L) λ_ _=>AB bn/\Ey N xj bn=some r) ?_ ?_
 ·refine A0 (λn3=>λa w=>∃(bl:Int)(bo:Int),IV B ch ci (137,[]) a w [(31,vI (↑xj.s.F.length:Int)),(30,z),(0,vP u 0),(2,vI bl),(32,vI bo)] (Bx u 112 [.string xj.b.G,ag,vI xj.b.L,ah,ai,aj,ak,am,an,ao,vI xj.b.M,W,X,Y,Z,ab,vI xj.s.B,q,c,z,d,t,g,ac,k,p]::OO AC 3 29 q xj.s.D::OS AC 3 c xj.s.P::OS BZ 107 d xj.s.Q::OS AC 3 t xj.s.K::OS AC 3 g xj.s.O::OS BY 116 ac xj.moves::OS AC 3 k xj.peaks::OS A5 103 p xj.sent::L) λ_ _=>AB bl/\AB bo/\Ew N xj (Ey N xj) n3 bl bo=some r) N ?_ ?_ ?_
  ·intro aa ww hf hw;exact⟨i2,0,_,_,hf.sub (kp [31,30,0,2,32] O),hw,ds,(CO.refl ch ci),r3,(iq (n:=0) O),E⟩
  ·rintro aa ww⟨_,_,_,_,_,_,_,_,_,_,E⟩;rw[Ew]at E;cases E
  rintro n3 aa ww⟨bl,bo,hu,hv,hf,hw,b4,dt,fe,hx,E⟩;refine AL ?_ hf hw;clear hf hw ww aa;rw[Ew]at E;refine AU ?_;refine AK O E (λff E=>?_) (λff E=>?_)
  ·refine AU ?_;refine AW (AU ?_);have fg:=fd.mono' dt;refine BE E O O fg On.1 O λhy E hz fh=>?_;obtain⟨h0,_,fi⟩:=fh.lv;refine AU ?_;refine DT RP O b4 λh1 h2 du fj=>?_;have fk:=fi.mono fj;obtain⟨h3,rfl,h4,h5,fl⟩:=A5.ex fk;refine H5 O O O ON RW.1 O du .head O λh6 b5 fm=>AU ?_;refine CP (.inl O) b5 (AU ?_);have fn:=fl.mono' fm;refine DO E O O O OR O (λdv dw h' o=>ES (St.all h') (fn.mono' (o.all b5.1)) dw) λdv E fo=>?_;have h7:=fo;refine AU ?_;refine BW (kp [2,31,30,0,32] O) λh8 dx h9=>BF (AU ?_);refine WF.nil (λaa ww hf hw=>?_);have dy:=dx.sel [1,1,1,1,1,1,1,1,1] 1 O;exact⟨(BO (bl+dv)),(BO (bo+1)),_,_,hf.sub (kp [31,30,0,2,32] O),hw,dy,EX,(BQ _),(BQ _),E⟩
  refine BL O (λaa ww hf hw=>?_);exact⟨bl,_,_,hf.sub (kp [0,2] O),hw,b4,dt,fe,E⟩
 rintro aa ww⟨bn,dz,ia,hf,hw,b6,ib,fp,E⟩;refine AL ?_ hf hw;clear hf hw ww aa;rw[Ey]at E;refine AU ?_;refine CP (.inl O) b6 (AU ?_);refine DO E O O O OR O (λd0 d1 h' o=>ES (St.all h') ((b6.oslAll (mt (mt (mt (mt mh))))).mono (λb hb=>Ag6 hb o.siz) (λb hb=>o.same b hb)) d1) λd0 E fq=>?_;have fr:=fq;refine AU ?_;refine BW (kp [7,0,2] O) λd2 d3 ic=>?_;have ie:=bk.nw;refine AU ?_;refine AW (A0 (λn4=>λa w=>∃(ap:Int)(aq:Int)(H:Int)(aw:Value)(ar:List AM)(ax:List xq)(au:xq),IV B dz d2 (137,[]) a w [(53,vI (↑xj.b.A.length:Int)),(0,vP u 0),(2,vI ap),(7,vI aq),(54,vI H)] (OS BY 116 aw ar::Bx u 112 [.string xj.b.G,ag,vI xj.b.L,ah,ai,aj,ak,am,an,ao,vI xj.b.M,W,X,Y,Z,ab,vI xj.s.B,q,c,z,d,t,g,aw,k,p]::OO AC 3 29 q ax::OS AC 3 c xj.s.P::OS BZ 107 d xj.s.Q::OS AC 3 t au::OS AC 3 g xj.s.O::OS AC 3 k xj.peaks::OS A5 103 p xj.sent::L) λ_ _=>AB ap/\AB aq/\AB H/\DQ N xj n4 ap aq H ar ax au=some r) N ?_ ?_ ?_)
 ·intro aa ww hf hw;have cj:=d3.sel [6,0,0,0,0,0,0,0,0] 0 O;exact⟨bn,d0,0,ac,xj.moves,xj.s.D,xj.s.K,_,_,hf.sub (kp [53,0,2,7,54] O),hw,cj,(CO.refl dz d2),fp,fr,(iq (n:=0) O),E⟩
 ·rintro aa ww⟨_,_,_,_,_,_,_,_,_,_,_,_,_,_,_,_,E⟩;rw[DQ]at E;cases E
 rintro n4 aa ww⟨ap,aq,H,aw,ar,ax,au,ba,bb,hf,hw,a5,fv,d4,d5,fw,E⟩;refine AL ?_ hf hw;clear hf hw ww aa;rw[DQ]at E;refine AU ?_;refine AK O E (λd6 E=>?_) (λd6 E=>?_)
 ·refine AU ?_;refine AT (λa w=>∃(a1:Int)(a2:Int)(bc:Value)(be:List AM)(bf:List xq)(bg:xq),IV B ba bb (137,[]) a w [(53,vI (↑xj.b.A.length:Int)),(0,vP u 0),(54,vI H),(2,vI a1),(7,vI a2)] (OS BY 116 bc be::Bx u 112 [.string xj.b.G,ag,vI xj.b.L,ah,ai,aj,ak,am,an,ao,vI xj.b.M,W,X,Y,Z,ab,vI xj.s.B,q,c,z,d,t,g,bc,k,p]::OO AC 3 29 q bf::OS AC 3 c xj.s.P::OS BZ 107 d xj.s.Q::OS AC 3 t bg::OS AC 3 g xj.s.O::OS AC 3 k xj.peaks::OS A5 103 p xj.sent::L) λ_ _=>AB a1/\AB a2/\Gm N H (DQ N xj n4) a1 a2 be bf bg=some r) ?_ ?_
  ·have fx:=av.nw;refine AU ?_;refine It (λa w=>∃(af:Int),IV B ba bb (137,[]) a w [(8,vI H),(53,vI (↑xj.b.A.length:Int)),(0,vP u 0),(2,vI ap),(7,vI aq),(54,vI H),(9,vI af)] (OS BY 116 aw ar::Bx u 112 [.string xj.b.G,ag,vI xj.b.L,ah,ai,aj,ak,am,an,ao,vI xj.b.M,W,X,Y,Z,ab,vI xj.s.B,q,c,z,d,t,g,aw,k,p]::OO AC 3 29 q ax::OS AC 3 c xj.s.P::OS BZ 107 d xj.s.Q::OS AC 3 t au::OS AC 3 g xj.s.O::OS AC 3 k xj.peaks::OS A5 103 p xj.sent::L) λ_ _=>AB af/\Hv N xj ap aq H ar ax au (Gm N H (DQ N xj n4)) af=some r) ?_ ?_
   ·refine AK O E (λd7 E=>?_) (λd7 E=>?_)
    ·refine AU ?_;have d8:=av.nw;refine BE E O O d8 CW.1 O λd9 E fy ea=>?_;have eb:=ea.i;refine AU ?_;refine rK O O O O (AU ?_);refine WF.nil (λaa ww hf hw=>?_);exact⟨(min (min d9 (BO (1125899906842624-ap))) (BO (1152921504606846976-aq))),_,_,hf.sub (kp [8,53,0,2,7,54,9] O),hw,a5,(CO.refl ba bb),(Ox (Ox eb (BQ _)) (BQ _)),E⟩
    refine AU ?_;refine WF.nil (λaa ww hf hw=>?_);exact⟨0,_,_,hf.sub (kp [8,53,0,2,7,54,9] O),hw,a5,(CO.refl ba bb),(iq (n:=0) O),E⟩
   rintro aa ww⟨af,f0,f1,hf,hw,az,ec,ed,E⟩;refine AL ?_ hf hw;clear hf hw ww aa;rw[Hv]at E;refine AU ?_;refine AK O E (λee E=>?_) (λee E=>?_)
   ·refine BL O (λaa ww hf hw=>?_);exact⟨ap,aq,aw,ar,ax,au,_,_,hf.sub (kp [53,0,54,2,7] O),hw,az,ec,d4,d5,E⟩
   refine AU ?_;obtain⟨f2,ck,E⟩:=bd E;refine Se (r:=AC) az (mt (mt mh)) O O Js.1 ck O λf3 bp=>?_;obtain⟨ef,bq,E⟩:=bd E;refine XH (r:=AC) H4 az (mt (mt mh)) O bq bp GC.1 O λf4 cl b7=>?_;obtain⟨br,cm,E⟩:=bd E;refine bX O O b7 CW.1 cm O λf5 eg e7=>FA H4 (λ_ x=>x) O eg Fl.1 O λf6=>AU ?_;obtain⟨f7,bs,E⟩:=bd E;refine bX O O b7 CW.1 bs O λf8 f9 b0=>AU ?_;have cn:=az.pick (.tail (.tail .head));refine rY (r:=AC) (i:=H) (j:=0) (y:=(BO (br+af))) O O (⟨_,O,O,(BQ _)⟩:Rd _ _ AC _ (BO (br+af))) bp cl b0 bq bs Fl.1 (λ_=>rfl) cn λga a0 gb=>AU ?_;obtain⟨gc,co,E⟩:=bd E;refine BU a0 (mt (mt (mt (mt (mt mh))))) O O CW.1 co O λge cp=>?_;obtain⟨b8,cq,E⟩:=bd E;have eh:=a0.epAt (mt (mt (mt (mt (mt mh))))) cq FB.id cp;refine FA H4 (λ_ x=>x) O eh Fl.1 O λgf=>AU ?_;obtain⟨gg,cr,E⟩:=bd E;refine BU a0 (mt (mt (mt (mt (mt mh))))) O O CW.1 cr O λgh ct=>AU ?_;obtain⟨ei,cu,E⟩:=bd E;refine Ei (r:=AC) (l:=au) (i:=0) (x:=ei) O O (⟨_,O,O,(BQ _)⟩:Rd _ _ AC _ (BO (b8+af))) ct cu NQ.id Fl.1 (λ_=>rfl) a0 (.tail (.tail (.tail (.tail (.tail .head))))) λgi cv gj=>?_;have gl:=bj.nw;refine AU ?_;obtain⟨cw,E⟩:=MF E;refine L4 (r:=AC) (zx:=0) JY O ⟨O,by unfold AB;omega⟩ O O cw O O cv λej gm bt gn=>AU ?_;obtain⟨gp,cx,E⟩:=bd E;refine BU bt mh O O CW.1 cx O λgq cy=>AU ?_;obtain⟨ek,cz,E⟩:=bd E;refine Ei (r:=AC) (l:=(List.replicate ((↑xj.b.I.length:Int):Int).toNat (0:Int))) (i:=0) (x:=ek) O O (⟨_,O,O,ed⟩:Rd _ _ AC _ af) cy cz NQ.id Fl.1 (λ_=>rfl) bt .head λb9 c0 gr=>AU ?_;obtain⟨bu,ay,gs,el⟩:=c0.pubs .head;refine U5 (m:=[(10,ej),(7,vI (BO (aq+af))),(2,vI (BO (ap+af))),(8,vI H),(53,vI (↑xj.b.A.length:Int)),(0,vP u 0),(54,vI H)]) 14 [0] (λi v hh=>match i with|0=>v=vP u 0|1=>v=vP u 0|2=>v=vP u 0|3=>v=vP u 23|4=>v=aw|5=>v=vP u 0|6=>v=vP u 0|7=>v=vP u 16|8=>v=vP u 16|9=>v=vI xj.s.B/\AB xj.s.B|10=>v=vI H/\AB H|11=>Sl bu hh AC v (upd (List.replicate ((↑xj.b.I.length:Int):Int).toNat (0:Int)) 0 af)|12=>Rd bu hh BY v (⟨xj.s.B,(-1),H,(-4),(upd (List.replicate ((↑xj.b.I.length:Int):Int).toNat (0:Int)) 0 af)⟩:AM)|13=>Sl (SN bu b9 hh) hh BY v ([(⟨xj.s.B,(-1),H,(-4),(upd (List.replicate ((↑xj.b.I.length:Int):Int).toNat (0:Int)) 0 af)⟩:AM)]:List AM)/\∃ad,v= .slice (some ad) 1 1|_=>False) [[],[],[(1,120)],[(2,121)],[(3,122)],[],[(5,124)],[(6,125)],[(7,126)],[(8,127)],[],[],[(9,128),(10,129),(11,130)],[(12,131)]] [(0,119),(4,123),(13,132)] mo Γ [10,7,2,8,53,0,54] O Γ Γ Γ (kp [10,7,2,8,53,0,54] O) MO ?_ ?_ ?_
   ·refine TQ.cons [] Γ O O Γ ?_ ?_
    ·intro mq hh o;intro a hf;exact⟨vP u 0,Oh hf O,O⟩
    exact trivial
   ·refine A7.cons O F9 (A7.cons O F9 (A7.cons O F9 (A7.cons O F9 (A7.cons O F9 (A7.cons O F9 (A7.cons O F9 (A7.cons O F9 (A7.cons O F9 (A7.cons O F9 (A7.cons O F9 (A7.cons O ?_ ?_)))))))))))
    ·intro mq hh o;have c1:=o.st ay;refine AU ?_;have em:=el.mono' (o.ext ay.1);exact B1 em
    refine A7.cons O ?_ ?_
    ·intro mq hh o;intro gu en gv eo ep bh;have c1:=o.st ay;obtain⟨rfl,eq⟩:=en;obtain⟨rfl,er⟩:=eo;have bh:Sl _ _ AC ep (upd (List.replicate ((↑xj.b.I.length:Int):Int).toNat (0:Int)) 0 af):=bh;refine AU ?_;obtain⟨c2,b2,rfl,gw⟩:=(bh).len;refine GP (cs:=[vI xj.s.B,vI (-1),vI H,vI (-4),(.slice c2 (upd (List.replicate ((↑xj.b.I.length:Int):Int).toNat (0:Int)) 0 af).length b2)]) iF O O O (AU ?_);exact B1 (BY.mk (x:=(⟨xj.s.B,(-1),H,(-4),(upd (List.replicate ((↑xj.b.I.length:Int):Int).toNat (0:Int)) 0 af)⟩:AM)) eq (iq (n:=(-1)) O) er (iq (n:=(-4)) O) bh)
    refine A7.cons O ?_ ?_
    ·intro mq hh o;intro es a3;have c1:=SN.st ay o;have a3:=Rd.sn b9 a3;have a3:Rd _ _ BY es (⟨xj.s.B,(-1),H,(-4),(upd (List.replicate ((↑xj.b.I.length:Int):Int).toNat (0:Int)) 0 af)⟩:AM):=a3;have fs:=c1.fz;obtain⟨gx,rfl,eu,ev,ew,ey,ca⟩:=BY.ex a3;obtain⟨c3,b3,rfl,gy⟩:=(ca).len;refine IX (cs:=[vI ((⟨xj.s.B,(-1),H,(-4),(upd (List.replicate ((↑xj.b.I.length:Int):Int).toNat (0:Int)) 0 af)⟩:AM).B),vI ((⟨xj.s.B,(-1),H,(-4),(upd (List.replicate ((↑xj.b.I.length:Int):Int).toNat (0:Int)) 0 af)⟩:AM).J),vI ((⟨xj.s.B,(-1),H,(-4),(upd (List.replicate ((↑xj.b.I.length:Int):Int).toNat (0:Int)) 0 af)⟩:AM).C),vI ((⟨xj.s.B,(-1),H,(-4),(upd (List.replicate ((↑xj.b.I.length:Int):Int).toNat (0:Int)) 0 af)⟩:AM).Be),(.slice c3 ((⟨xj.s.B,(-1),H,(-4),(upd (List.replicate ((↑xj.b.I.length:Int):Int).toNat (0:Int)) 0 af)⟩:AM).N).length b3)]) YS O O O O O O O fs λgz g0 c4 ez=>?_;have e0:=ca.mono' ez;have c5:=c4.bxos (r:=BY) (l:=([(⟨xj.s.B,(-1),H,(-4),(upd (List.replicate ((↑xj.b.I.length:Int):Int).toNat (0:Int)) 0 af)⟩:AM)]:List AM)) .head ⟨_,_,O,⟨_,O,eu,ev,ew,ey,e0⟩,O⟩ (by simp[maxLen]);obtain⟨g1,c6,g2,e1⟩:=c5.pubs .head;have bv:=Fz.done o EX c6;exact BB bv.1 ⟨Sl.mono' e1 bv.2,_,O⟩
    exact trivial
   intro g3 e2 g4 e3 g5 e4 g6 bw;have c7:=SN.st ay e2;cases e3;cases e4;obtain⟨bw,ft,rfl⟩:=bw;obtain⟨c8,E⟩:=MF E;refine Eg (r:=BY) (l:=ar) (xs:=([(⟨xj.s.B,(-1),H,(-4),(upd (List.replicate ((↑xj.b.I.length:Int):Int).toNat (0:Int)) 0 af)⟩:AM)]:List AM)) O O YS O (Sl.src bw) O c8 O c7 (λ_=>(.tail .head)) λg7 g8 bx g9=>AU ?_;obtain⟨bz,bi,rfl,ha⟩:=bx.oslen (mt mh);refine Gq (cs':=[.string xj.b.G,ag,vI xj.b.L,ah,ai,aj,ak,am,an,ao,vI xj.b.M,W,X,Y,Z,ab,vI xj.s.B,q,c,z,d,t,g,(.slice bz (ar++([(⟨xj.s.B,(-1),H,(-4),(upd (List.replicate ((↑xj.b.I.length:Int):Int).toNat (0:Int)) 0 af)⟩:AM)]:List AM)).length bi),k,p]) O O O O gE.1 O bx (.tail (.tail .head)) O O λhc c9 hd=>AU ?_;refine WF.nil (λaa ww hf hw=>?_);have da:=c9.sel [1,1,0,0,0,0,0,0,0] 0 O;exact⟨(BO (ap+af)),(BO (aq+af)),(.slice bz (ar++([(⟨xj.s.B,(-1),H,(-4),(upd (List.replicate ((↑xj.b.I.length:Int):Int).toNat (0:Int)) 0 af)⟩:AM)]:List AM)).length bi),(ar++([(⟨xj.s.B,(-1),H,(-4),(upd (List.replicate ((↑xj.b.I.length:Int):Int).toNat (0:Int)) 0 af)⟩:AM)]:List AM)),(upd ax H (upd ef 0 (BO (br+af)))),(upd au 0 (BO (b8+af))),_,_,hf.sub (kp [53,0,54,2,7] O),hw,da,EX,(BQ _),(BQ _),E⟩
  rintro aa ww⟨a1,a2,bc,be,bf,bg,he,hg,hf,hw,db,hi,e5,e6,E⟩;refine AL ?_ hf hw;clear hf hw ww aa;rw[Gm]at E;refine AU ?_;refine WF.nil (λaa ww hf hw=>?_);exact⟨a1,a2,(BO (H+1)),bc,be,bf,bg,_,_,hf.sub (kp [53,0,2,7,54] O),hw,db,EX,e5,e6,(BQ _),E⟩
 refine IA O (WF.nil (λaa ww hf hw=>?_));have dc:=a5.sel [1,1,1,1,1,1,0,0,0] 0 O;cases E;exact K0 hf O hw Kz O EX ⟨_,_,_,O,dc⟩
def PD(hs:St S L h){b:xq}(s:Sl S h AC j b){c:xq}(t:Sl S h AC d c){r:xq}(E:Hs N b c=some r):
 CG prog 119 #[j,d] S h (λv S' h'=>St S' (OS AC 3 v r::L) h'):=by
 refine CG.go 35 func119 O ntmps119 O λB=>?_;rw[Hs]at E;refine AU ?_;refine TK O O O (AU ?_);obtain⟨X,E⟩:=MF E;refine L4 (r:=AC) (zx:=0) JY O ⟨O,by unfold AB;omega⟩ O O X O O hs λW h5 Y e7=>AU ?_;have k8:=s.mono' e7;refine XM (r:=AC) (l:=(List.replicate ((max (↑b.length:Int) (↑c.length:Int)):Int).toNat (0:Int))) (xs:=b) O O CW.1 (Sl.src k8) O Y .head λZ D al=>?_;have ab:=t.nw;refine AU ?_;refine AT (λa w=>∃(y:xq),IV B S Z (35,[]) a w [(5,W)] (OS AC 3 W y::L) λ_ _=>Iy N y=some r) ?_ ?_
 ·refine A0 (λn1=>λa w=>∃(g:Int)(m:xq),IV B S Z (35,[]) a w [(18,vI (↑c.length:Int)),(17,d),(5,W),(19,vI g)] (OS AC 3 W m::L) λ_ _=>AB g/\G7 N c (Iy N) n1 g m=some r) N ?_ ?_ ?_
  ·intro z A o q;exact⟨0,(Qp (List.replicate ((max (↑b.length:Int) (↑c.length:Int)):Int).toNat (0:Int)) b),_,_,o.sub (kp [18,17,5,19] O),q,D,(CO.refl S Z),(iq (n:=0) O),E⟩
  ·rintro z A⟨_,_,_,_,_,_,_,_,_,E⟩;rw[G7]at E;cases E
  rintro n1 z A⟨g,m,am,an,o,q,k,F,ao,E⟩;refine AL ?_ o q;clear o q A z;rw[G7]at E;refine AU ?_;refine AK O E (λac E=>?_) (λac E=>?_)
  ·refine AU ?_;refine AW (AU ?_);have ad:=ab.mono' F;refine BE E O O ad CW.1 O λap E aq ae=>?_;have af:=ae.i;refine AU ?_;refine Cj (AU ?_);obtain⟨ar,G,E⟩:=bd E;refine BU k mh O O CW.1 G O λau H=>?_;obtain⟨av,I,E⟩:=bd E;have ag:=k.epAt mh I FB.id H;refine FA H4 (λ_ x=>x) O ag Fl.1 O λah=>AU ?_;refine Dc E O O O Ux O k (λC J=>KA (St.all _) ah af J) λC E aw ax ay u az a0 p=>?_;obtain⟨rfl,ai,ak⟩:=p;refine AU ?_;obtain⟨a1,K,E⟩:=bd E;refine BU u mh O O CW.1 K O λa2 M=>AU ?_;obtain⟨aj,Q,E⟩:=bd E;refine Ei (r:=AC) (l:=m) (i:=g) (x:=aj) O O (⟨_,O,O,ai⟩:Rd _ _ AC _ C) M Q NQ.id Fl.1 (λ_=>rfl) u .head λa3 U a4=>AU ?_;refine BF (AU ?_);refine WF.nil (λz A o q=>?_);exact⟨(BO (g+1)),(upd m g C),_,_,o.sub (kp [18,17,5,19] O),q,U,EX,(BQ _),E⟩
  refine BL O (λz A o q=>?_);exact⟨m,_,_,o.sub (kp [5] O),q,k,F,E⟩
 rintro z A⟨y,a5,a6,o,q,V,a7,E⟩;refine AL ?_ o q;clear o q A z;rw[Iy]at E;refine AU ?_;cases E;exact GF V O O EX
def VP(hs:St S L h){u:List AY}(ag:Sl S h A5 d u)(a7:AB b){z:Int}(J:AB z)(K:AB A){r:(List xq)×(List AY)}(E:NJ N u b z A=some r):
 CG prog 118 #[d,vI b,vI z,vI A] S h (λv S' h'=>∃b7 b8:Value,v= .tuple #[b7,b8]/\St S' (OS (A9.sl AC) 29 b7 r.1::OS A5 103 b8 r.2::L) h'):=by
 refine CG.go 79 func118 O ntmps118 O λB=>?_;rw[NJ]at E;refine AU ?_;refine CP (.inl O) hs (AU ?_);refine DO E O O O bC O (λy1 dq h' o=>Lm (St.all h') J (iq (n:=0) O) (iq (n:=64) O) dq) λy1 E r2=>?_;have r3:=r2;refine AU ?_;refine BW (kp [2,0,1,3] O) λh4 dr e6=>AU ?_;refine CP (.inl O) dr (AU ?_);refine DO E O O O bC O (λy7 ds h' o=>Lm (St.all h') K (iq (n:=0) O) (iq (n:=16) O) ds) λy7 E r8=>?_;have r9:=r8;refine AU ?_;refine BW (kp [3,2,0,1] O) λfr b9 fs=>AU ?_;obtain⟨ca,E⟩:=MF E;refine L4 (r:=(A9.sl AC)) (zx:=[]) Uv O ⟨_,O,.inl ⟨O,O⟩⟩ O O ca O O b9 λt a8 cb ft=>AU ?_;refine AT (λa w=>∃(av:List xq),IV B S a8 (79,[]) a w [(8,t),(2,vI y1),(0,d),(1,vI b)] (OS (A9.sl AC) 29 t av::L) λ_ _=>Hr N u b y1 av=some r) ?_ ?_
 ·refine A0 (λn1=>λa w=>∃(Z:Int)(ai:List xq),IV B S a8 (79,[]) a w [(20,vI (↑(List.replicate (y1:Int).toNat ([]:xq)).length:Int)),(8,t),(3,vI y7),(2,vI y1),(0,d),(1,vI b),(21,vI Z)] (OS (A9.sl AC) 29 t ai::L) λ_ _=>AB Z/\Hq N y1 y7 (Hr N u b y1) n1 Z ai=some r) N ?_ ?_ ?_
  ·intro H I s y;exact⟨0,(List.replicate (y1:Int).toNat ([]:xq)),_,_,s.sub (kp [20,8,3,2,0,1,21] O),y,cb,(CO.refl S a8),(iq (n:=0) O),E⟩
  ·rintro H I⟨_,_,_,_,_,_,_,_,_,E⟩;rw[Hq]at E;cases E
  rintro n1 H I⟨Z,ai,fu,fv,s,y,a1,dt,fw,E⟩;refine AL ?_ s y;clear s y I H;rw[Hq]at E;refine AU ?_;refine AK O E (λdu E=>?_) (λdu E=>?_)
  ·refine AU ?_;refine AW (AU ?_);obtain⟨cc,E⟩:=MF E;refine L4 (r:=AC) (zx:=0) JY O ⟨O,by unfold AB;omega⟩ O O cc O O a1 λfx fy a2 f0=>AU ?_;obtain⟨f1,cd,E⟩:=bd E;refine BU a2 (mt mh) O O Js.1 cd O λf2 ce=>AU ?_;obtain⟨dv,cf,E⟩:=bd E;obtain⟨f3,cg,f4,dw⟩:=a2.pubs .head;refine Ei (r:=(A9.sl AC)) (l:=ai) (i:=Z) (x:=dv) O O (Kx dw) ce cf NQ.id GC.1 (λ_=>rfl) cg .head λf5 ch f6=>AU ?_;refine BF (AU ?_);refine WF.nil (λH I s y=>?_);exact⟨(BO (Z+1)),(upd ai Z (List.replicate (y7:Int).toNat (0:Int))),_,_,s.sub (kp [20,8,3,2,0,1,21] O),y,ch,EX,(BQ _),E⟩
  refine BL O (λH I s y=>?_);exact⟨ai,_,_,s.sub (kp [8,2,0,1] O),y,a1,dt,E⟩
 rintro H I⟨av,a9,ba,s,y,ci,f7,E⟩;refine AL ?_ s y;clear s y I H;rw[Hr]at E;have dx:=ag.nw;refine AU ?_;refine AN 1 (rG O O O dx On.1 O λa3=>AU ?_);have cj:=ci.zs A5 103 a3;have dy:=ag.nw;refine AU ?_;refine AT (λa w=>∃(bb:Value)(bc:List AY)(be:List xq),IV B a9 ba (79,[]) a w [(8,t),(9,bb)] (OS A5 103 bb bc::OS (A9.sl AC) 29 t be::L) λ_ _=>JJ N bc be=some r) ?_ ?_
 ·refine A0 (λn3=>λa w=>∃(Q:Value)(ab:List AY)(M:Int)(ac:List xq),IV B a9 ba (79,[]) a w [(33,vI (↑u.length:Int)),(32,d),(8,t),(2,vI y1),(1,vI b),(9,Q),(34,vI M)] (OS A5 103 Q ab::OS (A9.sl AC) 29 t ac::L) λ_ _=>AB M/\G6 N u b y1 (JJ N) n3 ab M ac=some r) N ?_ ?_ ?_
  ·intro H I s y;exact⟨(.slice a3 0 0),([]:List AY),0,av,_,_,s.sub (kp [33,32,8,2,1,9,34] O),y,cj,(CO.refl a9 ba),(iq (n:=0) O),E⟩
  ·rintro H I⟨_,_,_,_,_,_,_,_,_,_,_,E⟩;rw[G6]at E;cases E
  rintro n3 H I⟨Q,ab,M,ac,U,dz,s,y,a4,ck,f8,E⟩;refine AL ?_ s y;clear s y I H;rw[G6]at E;refine AU ?_;refine AK O E (λd0 E=>?_) (λd0 E=>?_)
  ·refine AU ?_;refine AT (λa w=>∃(aw:Value)(ax:List AY)(ay:List xq),IV B U dz (79,[]) a w [(33,vI (↑u.length:Int)),(32,d),(8,t),(2,vI y1),(1,vI b),(34,vI M),(9,aw)] (OS A5 103 aw ax::OS (A9.sl AC) 29 t ay::L) λ_ _=>K5 N M (G6 N u b y1 (JJ N) n3) ax ay=some r) ?_ ?_
   ·refine AU ?_;have d1:=dy.mono' ck;refine BE E O O d1 On.1 O λc E f9 d2=>?_;obtain⟨ga,_,d3⟩:=d2.lv;refine AU ?_;refine DT RP O a4 λV gb cl d4=>?_;have d5:=d3.mono d4;obtain⟨gc,rfl,ge,gf,cm⟩:=A5.ex d5;refine H5 O O O ON RW.1 O cl .head O λaf j gg=>AU ?_;refine AK O E (λcn E=>?_) (λcn E=>?_)
    ·obtain ⟨d9,bf,E⟩:=bd E;obtain⟨a5,bg,E⟩:=bd E;obtain⟨aj,bh,E⟩:=bd E;obtain⟨eb,bi,E⟩:=bd E;refine OA (m:=[(12,vP V 0),(33,vI (↑u.length:Int)),(32,d),(8,t),(2,vI y1),(1,vI b),(9,Q),(34,vI M)]) 12 (λi v G=>match i with|0=>v=t|1=>v=vP V 1|2=>v=vI c.C/\AB c.C|3=>v=t|4=>v=vP V 1|5=>v=vI c.C/\AB c.C|6=>EP t (c.C.toNat*((A9.sl AC)).sz+0) v|7=>Sl U G AC v a5|8=>v=vP V 2|9=>Sl U G AC v c.N|10=>Sl (SN U af G) G AC v aj|11=>EP t (c.C.toNat*((A9.sl AC)).sz+0) v|_=>False) [[],[],[(1,54)],[],[],[(4,57)],[(3,56),(5,58)],[(6,59)],[],[(8,61)],[(7,60),(9,62)],[(0,53),(2,55)]] [(10,63),(11,64)] mo Γ [12,33,32,8,2,1,9,34] O Γ Γ Γ (kp [12,33,32,8,2,1,9,34] O) MO ?_ ?_
     ·refine A7.cons O F9 (A7.cons O F9 (A7.cons O F9 (A7.cons O F9 (A7.cons O F9 (A7.cons O F9 (A7.cons O ?_ ?_))))))
      ·intro mq G o;intro ec co ed cp;have D:=o.st j;cases co;obtain⟨rfl,ee⟩:=cp;refine AU ?_;refine BU D (mt (mt mh)) O O Js.1 bf O λef bj=>AU ?_;exact B1 bj
      refine A7.cons O ?_ ?_
      ·intro mq G o;intro eg cq;have D:=o.st j;refine AU ?_;have cr:=D.epAt (mt (mt mh)) bg FB.id cq;refine GB H4 (λ_ x=>x) O cr GC.1 O λeh ct=>AU ?_;exact B1 ct
      refine A7.cons O F9 (A7.cons O ?_ ?_)
      ·intro mq G o;intro ei cu;have D:=o.st j;cases cu;refine AU ?_;have cv:=cm.nw;exact B1 cv
      refine A7.cons O ?_ ?_
      ·intro mq G o;intro cw W cx X;have D:=SN.st j o;have W:=Sl.sn af W;have W:Sl _ _ AC cw a5:=W;have X:=Sl.sn af X;have X:Sl _ _ AC cx c.N:=X;have F:=D.fz;refine El O O O ZU O F (PD (St.all _) (W.mono F.ea.1 F.ea.2) (X.mono F.ea.1 F.ea.2) bh) λej ek el d6 em cy p=>?_;have bk:=p;have ak:=F.join cy bk ⟨OS.flat (λ{_ _ _ _ _ _} k=>k),trivial⟩;simp only[Ag4,Ag3]at ak;obtain⟨en,bl,eo,cz⟩:=ak.pubs .head;have am:=Fz.done o EX bl;exact BB am.1 (Sl.mono' cz am.2)
      refine A7.cons O ?_ ?_
      ·intro mq G o;intro ep c0 eq c1;have D:=o.st j;cases c0;obtain⟨rfl,er⟩:=c1;refine AU ?_;refine BU D (mt (mt mh)) O O Js.1 bi O λes bm=>AU ?_;exact B1 bm
      exact trivial
     intro eu c2 c3 an ev c4;have bn:=SN.st j c2;have an:Sl _ _ AC c3 aj:=an;obtain⟨c5,bo,E⟩:=bd E;refine Ei (r:=(A9.sl AC)) (l:=ac) (i:=c.C) (x:=c5) O O (Kx an) c4 bo NQ.id GC.1 (λ_=>rfl) bn (.tail (.tail .head)) λew bp ey=>AU ?_;refine WF.nil (λH I s y=>?_);have bq:=bp.sel [1,1] 1 O;exact⟨Q,ab,(upd ac c.C aj),_,_,s.sub (kp [33,32,8,2,1,34,9] O),y,bq,EX,E⟩
    obtain⟨g,br,E⟩:=bd E;refine OA (m:=[(12,vP V 0),(33,vI (↑u.length:Int)),(32,d),(8,t),(2,vI y1),(1,vI b),(9,Q),(34,vI M)]) 10 (λi v G=>match i with|0=>v=Q|1=>v=vP V 0|2=>v=vI c.Av/\AB c.Av|3=>v=vP V 1|4=>v=vI c.C/\AB c.C|5=>v=vP V 2|6=>Sl U G AC v c.N|7=>Sl (SN U af G) G AC v g|8=>Rd (SN U af G) G A5 v ({ c with N:=g}:AY)|9=>Sl (SN U af G) G A5 v ([({ c with N:=g}:AY)]:List AY)/\∃ad,v= .slice (some ad) 1 1|_=>False) [[],[],[(1,66)],[],[(3,68)],[],[(5,70)],[(6,71)],[(2,67),(4,69),(7,72)],[(8,73)]] [(0,65),(9,74)] mo Γ [12,33,32,8,2,1,9,34] O Γ Γ Γ (kp [12,33,32,8,2,1,9,34] O) MO ?_ ?_
    ·refine A7.cons O F9 (A7.cons O F9 (A7.cons O F9 (A7.cons O F9 (A7.cons O F9 (A7.cons O F9 (A7.cons O ?_ ?_))))))
     ·intro mq G o;intro ez c6;have D:=o.st j;cases c6;refine AU ?_;have c7:=cm.nw;exact B1 c7
     refine A7.cons O ?_ ?_
     ·intro mq G o;intro c8 Y;have D:=SN.st j o;have Y:=Sl.sn af Y;have Y:Sl _ _ AC c8 c.N:=Y;have F:=D.fz;refine El O O O N9 O F (B9 (St.all _) (Y.mono F.ea.1 F.ea.2) br) λe0 e1 e2 d7 e3 c9 p=>?_;have bs:=p;have ao:=F.join c9 bs ⟨OS.flat (λ{_ _ _ _ _ _} k=>k),trivial⟩;simp only[Ag4,Ag3]at ao;obtain⟨e4,bt,e5,da⟩:=ao.pubs .head;have ap:=Fz.done o EX bt;exact BB ap.1 (Sl.mono' da ap.2)
     refine A7.cons O ?_ ?_
     ·intro mq G o;intro e7 db e8 dc dd ah;have D:=SN.st j o;obtain⟨rfl,de⟩:=db;obtain⟨rfl,df⟩:=dc;have ah:Sl _ _ AC dd g:=ah;refine AU ?_;obtain⟨bu,az,rfl,e9⟩:=(ah).len;refine GP (cs:=[vI c.Av,vI c.C,(.slice bu g.length az)]) iG O O O (AU ?_);exact B1 (A5.mk (x:=({ c with N:=g}:AY)) de df ah)
     refine A7.cons O ?_ ?_
     ·intro mq G o;intro dg aq;have D:=SN.st j o;have aq:Rd _ _ A5 dg ({ c with N:=g}:AY):=aq;have F:=D.fz;obtain⟨fa,rfl,dh,di,a6⟩:=A5.ex aq;obtain⟨bv,a0,rfl,fb⟩:=(a6).len;refine IX (cs:=[vI (({ c with N:=g}:AY).Av),vI (({ c with N:=g}:AY).C),(.slice bv (({ c with N:=g}:AY).N).length a0)]) Te O O O O O O O F λfc fd bw dj=>?_;have dk:=a6.mono' dj;have bx:=bw.bxos (r:=A5) (l:=([({ c with N:=g}:AY)]:List AY)) .head ⟨_,_,O,⟨_,O,dh,di,dk⟩,O⟩ (by simp[maxLen]);obtain⟨fe,bz,ff,dl⟩:=bx.pubs .head;have ar:=Fz.done o EX bz;exact BB ar.1 ⟨Sl.mono' dl ar.2,_,O⟩
     exact trivial
    intro fg dm fh dn fi au;have b0:=SN.st j dm;cases dn;obtain⟨au,d8,rfl⟩:=au;obtain⟨b1,E⟩:=MF E;refine Eg (r:=A5) (l:=ab) (xs:=([({ c with N:=g}:AY)]:List AY)) O O Te O (Sl.src au) O b1 O b0 (λ_=>(.tail .head)) λdp fj b2 fk=>AU ?_;refine WF.nil (λH I s y=>?_);have b3:=b2.sel [1,1] 1 O;exact⟨dp,(ab++([({ c with N:=g}:AY)]:List AY)),ac,_,_,s.sub (kp [33,32,8,2,1,34,9] O),y,b3,EX,E⟩
   rintro H I⟨aw,ax,ay,fl,fm,s,y,b4,fn,E⟩;refine AL ?_ s y;clear s y I H;rw[K5]at E;refine AU ?_;refine WF.nil (λH I s y=>?_);exact⟨aw,ax,(BO (M+1)),ay,_,_,s.sub (kp [33,32,8,2,1,9,34] O),y,b4,EX,(BQ _),E⟩
  refine BL O (λH I s y=>?_);exact⟨Q,ab,ac,_,_,s.sub (kp [8,9] O),y,a4,ck,E⟩
 rintro H I⟨bb,bc,be,fo,fp,s,y,b5,fq,E⟩;refine AL ?_ s y;clear s y I H;rw[JJ]at E;refine AU ?_;refine CM (λH I s y=>?_);have b6:=b5.sel [1,0] 0 O;cases E;exact K0 s O y (Iv (KR s (v:=_) O) (Iv (KR s (v:=_) O) Kz)) O EX ⟨_,_,O,b6⟩
def Tr(hs:St S L h)(l:Rd S h CD c n){b:A8}(m:Rd S h BZ d b){k:Int}(K:AB k){r:A8}(E:IL N n b k=some r):
 CG prog 120 #[c,d,vI k] S h (λv S' h'=>v= .agg #[vI r.Z,vI r.Aa,.bool r.Ay,.bool r.Am]/\A8.ok r/\St S' (L) h'):=by
 refine CG.go 24 func120 O ntmps120 O λB=>?_;rw[IL]at E;refine AU ?_;refine CC O l CE O hs λq1 S2 h3 M e5 k6=>?_;have k7:=m.mono e5;obtain⟨rfl,⟨Y,u⟩⟩:=BZ.ex k7;refine OD O O O M λx ab y ac=>DT UE O y λz A g ad=>?_;have ae:=k6.nw;refine AU ?_;refine AK O E (λQ E=>?_) (λQ E=>?_)
 ·refine AU ?_;refine EM O O O O Ja.1 O g .head O λaf C ag=>AU ?_;refine CM (λs t i j=>?_);have o:=C.drop (.tail .head);have D:=o.drop .head;cases E;exact K0 i O j (Iv (Xu i j o O mh Ja.1 O) Kz) O EX ⟨O,⟨Y,u⟩,D⟩
 refine AU ?_;refine AT (λa w=>∃(q:Bool),IV B S2 A (24,[]) a w [(6,vP z 0),(4,vP x 0)] (Bx z 107 [vI 0,vI 0,.bool false,.bool false]::Bx x 107 [vI b.Z,vI b.Aa,.bool b.Ay,.bool q]::L) λ_ _=>KJ N b q=some r) ?_ ?_
 ·refine AU ?_;refine AK O E (λU E=>?_) (λU E=>?_)
  ·refine AU ?_;refine Gq (cs':=[vI b.Z,vI b.Aa,.bool b.Ay,.bool true]) O O O O Yw.1 O g (.tail .head) O O λah F V=>AU ?_;refine WF.nil (λs t i j=>?_);exact⟨true,_,_,i.sub (kp [6,4] O),j,F,V,E⟩
  refine AU ?_;refine AK O E (λW E=>?_) (λW E=>?_)
  ·refine AU ?_;refine Gq (cs':=[vI b.Z,vI b.Aa,.bool b.Ay,.bool false]) O O O O Yw.1 O g (.tail .head) O O λai G X=>AU ?_;refine WF.nil (λs t i j=>?_);exact⟨false,_,_,i.sub (kp [6,4] O),j,G,X,E⟩
  refine AU ?_;refine WF.nil (λs t i j=>?_);exact⟨b.Am,_,_,i.sub (kp [6,4] O),j,g,(CO.refl S2 A),E⟩
 rintro s t⟨q,aj,ak,i,j,H,am,E⟩;refine AL ?_ i j;clear i j t s;rw[KJ]at E;refine AU ?_;refine EM O O O O Ja.1 O H .head O λan I ao=>AU ?_;refine CM (λs t i j=>?_);have p:=I.drop (.tail .head);have J:=p.drop .head;cases E;exact K0 i O j (Iv (Xu i j p O mh Ja.1 O) Kz) O EX ⟨O,⟨Y,u⟩,J⟩
def PB{c:Nat}{z:Value}(hs:St S (Bx c 112 [.string xj.b.G,an,vI xj.b.L,ao,ag,ap,aq,ar,au,av,vI xj.b.M,ah,ai,aj,ak,am,vI xj.s.B,d,g,a3,ac,t,u,y,ad,z]::OO AC 3 29 d xj.s.D::OS AC 3 g xj.s.P::OS BZ 107 ac xj.s.Q::OS AC 3 t xj.s.K::OS AC 3 u xj.s.O::OS BY 116 y xj.moves::OS AC 3 ad xj.peaks::OS A5 103 z xj.sent::L) h)(fn:xj.b.G.size<=maxLen)(bs:Sl S h A9.str an xj.b.I)(fo:AB xj.b.L)(a7:Sl S h B4 ao xj.b.A)(bt:Sl S h CD ag xj.b.E)(fp:Sl S h Hj ap xj.b.Af)(fq:Sl S h E7 aq xj.b.Ah)(fr:Sl S h HC ar xj.b.Ai)(fs:Sl S h Db au xj.b.Ak)(ft:Sl S h AC av xj.b.Aj)(c6:AB xj.b.M)(c7:Sl S h AC ah xj.in_.U)(c8:Sl S h Ct ai xj.in_.Ab)(c9:Sl S h Fj aj xj.in_.Ac)(da:Sl S h DU ak xj.in_.V)(db:Sl S h Di am xj.in_.Ad)(bh:AB xj.s.B)(bi:Sl S h A5 a3 xj.s.F)(E:GJ N xj=some r):
 CG prog 61 #[vP c 0] S h (λv S' h'=>∃bm bn bo bp:Value,v= .tuple #[]/\St S' (Bx c 112 [.string xj.b.G,an,vI xj.b.L,ao,ag,ap,aq,ar,au,av,vI xj.b.M,ah,ai,aj,ak,am,vI xj.s.B,bm,g,bn,bo,t,u,y,bp,z]::OS (A9.sl AC) 29 bm r.1::OS AC 3 g xj.s.P::OS A5 103 bn r.2.1::OS BZ 107 bo r.2.2.1::OS AC 3 t xj.s.K::OS AC 3 u xj.s.O::OS BY 116 y xj.moves::OS AC 3 bp r.2.2.2::OS A5 103 z xj.sent::L) h'):=by
 refine CG.go (l:=[vP c 0]) 123 func61 O ntmps61 O λB=>?_;rw[GJ]at E;have h0:=hs.pick (.tail .head);obtain⟨S2,af,e4⟩:=h0.ooPub;refine AU ?_;obtain⟨ay,fu,E⟩:=bd E;refine W7 (m:=[(0,vP c 0)]) [] [] [(23,[22]),(24,[23]),(25,[23]),(26,[24]),(27,[25])] Γ (λgv X F i v hh=>match i with|0=>v=vP c 0|1=>v=vP c 0|2=>v=vP c 16|3=>v=vP c 19|4=>Sl S2 hh A5 v xj.s.F|5=>v=vP c 0|6=>v=vP c 0|7=>v=vP c 16|8=>v=vP c 16|9=>v=vI xj.s.B/\AB xj.s.B|10=>v=vP c 0|11=>v=vP c 0|12=>v=vP c 0|13=>v=vP c 3|14=>Sl S2 hh B4 v xj.b.A|15=>v=vI (↑xj.b.A.length:Int)/\AB (↑xj.b.A.length:Int)|16=>v=vP c 0|17=>v=vP c 0|18=>v=vP c 0|19=>v=vP c 1|20=>Sl S2 hh A9.str v xj.b.I|21=>v=vI (↑xj.b.I.length:Int)/\AB (↑xj.b.I.length:Int)|22=>∃w0 w1:Value,v= .tuple #[w0,w1]/\OW S2 h X F [OS (A9.sl AC) 29 w0 ay.1,OS A5 103 w1 ay.2] hh|23=>v=gv 22/\∃w0 w1:Value,v= .tuple #[w0,w1]|24=>v=sQ (gv 23) 0|25=>v=sQ (gv 23) 1|26=>v=gv 24|27=>v=gv 25|_=>False) [[],[(0,8)],[(1,9)],[(2,10)],[(3,11)],[],[(5,13)],[(6,14)],[(7,15)],[(8,16)],[],[(10,18)],[(11,19)],[(12,20)],[(13,21)],[(14,22)],[],[(16,24)],[(17,25)],[(18,26)],[(19,27)],[(20,28)],[(4,12),(9,17),(15,23),(21,29)],[(22,30)],[(23,7)],[(23,7)],[(24,31)],[(25,32)]] [(22,30),(23,7),(24,31),(25,32),(26,2),(27,3)] mo Γ [0] O Γ Γ Γ O (kp [0] O) (λgv i v h1 h2 X X' F o1 o2 hF u1 u2 hr=>?_) (λgv l2 X F i v h1 hz hr=>?_) ?_ ?_ ?_
 ·match i,hr with
   |0,hr|1,hr|2,hr|3,hr|5,hr|6,hr|7,hr|8,hr|9,hr|10,hr|11,hr|12,hr|13,hr|15,hr|16,hr|17,hr|18,hr|19,hr|21,hr|23,hr|24,hr|25,hr|26,hr|27,hr=>exact hr
   |4,hr|14,hr|20,hr=>exact Sl.mono' hr (o2.ext λb hb=>Ag6 (af.1 b hb) o1.siz)
   |22,hr=>obtain⟨w0,w1,ev,q⟩:=hr;exact⟨w0,w1,ev,OW.mono af.1 o1 o2 hF u1 u2 q⟩
   |_+28,hr=>exact hr.elim
 ·match i,hr with
   |0,hr|1,hr|2,hr|3,hr|4,hr|5,hr|6,hr|7,hr|8,hr|9,hr|10,hr|11,hr|12,hr|13,hr|14,hr|15,hr|16,hr|17,hr|18,hr|19,hr|20,hr|21,hr|22,hr=>exact hr
   |23,hr=>rw[hz _ Ahf O 22 (by decide)]at hr;exact hr
   |24,hr=>rw[hz _ (Aht _ Ahf) O 23 (by decide)]at hr;exact hr
   |25,hr=>rw[hz _ (Aht _ (Aht _ Ahf)) O 23 (by decide)]at hr;exact hr
   |26,hr=>rw[hz _ (Aht _ (Aht _ (Aht _ Ahf))) O 24 (by decide)]at hr;exact hr
   |27,hr=>rw[hz _ (Aht _ (Aht _ (Aht _ (Aht _ Ahf)))) O 25 (by decide)]at hr;exact hr
   |_+28,hr=>exact hr.elim
 ·exact trivial
 ·refine DH.cons O O ?_ ?_
  ·intro gv X mq hh o hX;have Z:=o.st af;refine AU ?_;exact BB (Ef.refl _) O
  refine DH.cons O O ?_ ?_
  ·intro gv X mq hh o hX;have Z:=o.st af;intro l3 dc;obtain⟨im,_,_,dc⟩:=dc;cases dc;refine AU ?_;exact BB (Ef.refl _) O
  refine DH.cons O O ?_ ?_
  ·intro gv X mq hh o hX;have Z:=o.st af;intro l4 dd;obtain⟨io,_,_,dd⟩:=dd;cases dd;refine AU ?_;exact BB (Ef.refl _) O
  refine DH.cons O O ?_ ?_
  ·intro gv X mq hh o hX;have Z:=o.st af;intro l5 de;obtain⟨ip,_,_,de⟩:=de;cases de;refine AU ?_;exact BB (Ef.refl _) O
  refine DH.cons O O ?_ ?_
  ·intro gv X mq hh o hX;have Z:=o.st af;intro l6 df;obtain⟨ir,_,_,df⟩:=df;cases df;refine AU ?_;have h3:=bi.mono' (e4.trans (o.ext af.1));exact BB (Ef.refl _) h3
  refine DH.cons O O ?_ ?_
  ·intro gv X mq hh o hX;have Z:=o.st af;refine AU ?_;exact BB (Ef.refl _) O
  refine DH.cons O O ?_ ?_
  ·intro gv X mq hh o hX;have Z:=o.st af;intro l7 dg;obtain⟨it,_,_,dg⟩:=dg;cases dg;refine AU ?_;exact BB (Ef.refl _) O
  refine DH.cons O O ?_ ?_
  ·intro gv X mq hh o hX;have Z:=o.st af;intro l8 dh;obtain⟨iu,_,_,dh⟩:=dh;cases dh;refine AU ?_;exact BB (Ef.refl _) O
  refine DH.cons O O ?_ ?_
  ·intro gv X mq hh o hX;have Z:=o.st af;intro l9 di;obtain⟨iv,_,_,di⟩:=di;cases di;refine AU ?_;exact BB (Ef.refl _) O
  refine DH.cons O O ?_ ?_
  ·intro gv X mq hh o hX;have Z:=o.st af;intro ma dj;obtain⟨iw,_,_,dj⟩:=dj;cases dj;refine AU ?_;exact BB (Ef.refl _) ⟨O,bh⟩
  refine DH.cons O O ?_ ?_
  ·intro gv X mq hh o hX;have Z:=o.st af;refine AU ?_;exact BB (Ef.refl _) O
  refine DH.cons O O ?_ ?_
  ·intro gv X mq hh o hX;have Z:=o.st af;intro mb dk;obtain⟨iy,_,_,dk⟩:=dk;cases dk;refine AU ?_;exact BB (Ef.refl _) O
  refine DH.cons O O ?_ ?_
  ·intro gv X mq hh o hX;have Z:=o.st af;intro mc dl;obtain⟨iz,_,_,dl⟩:=dl;cases dl;refine AU ?_;exact BB (Ef.refl _) O
  refine DH.cons O O ?_ ?_
  ·intro gv X mq hh o hX;have Z:=o.st af;intro md dm;obtain⟨i0,_,_,dm⟩:=dm;cases dm;refine AU ?_;exact BB (Ef.refl _) O
  refine DH.cons O O ?_ ?_
  ·intro gv X mq hh o hX;have Z:=o.st af;intro me dn;obtain⟨i1,_,_,dn⟩:=dn;cases dn;refine AU ?_;have h4:=a7.mono' (e4.trans (o.ext af.1));exact BB (Ef.refl _) h4
  refine DH.cons O O ?_ ?_
  ·intro gv X mq hh o hX;have Z:=o.st af;intro h5 bv;obtain⟨i2,_,_,bv⟩:=bv;have bv:Sl _ _ B4 h5 xj.b.A:=bv;have h6:=bv.le;refine AU ?_;exact BB (Ef.refl _) ⟨O,(Mk h6)⟩
  refine DH.cons O O ?_ ?_
  ·intro gv X mq hh o hX;have Z:=o.st af;refine AU ?_;exact BB (Ef.refl _) O
  refine DH.cons O O ?_ ?_
  ·intro gv X mq hh o hX;have Z:=o.st af;intro mf dp;obtain⟨i3,_,_,dp⟩:=dp;cases dp;refine AU ?_;exact BB (Ef.refl _) O
  refine DH.cons O O ?_ ?_
  ·intro gv X mq hh o hX;have Z:=o.st af;intro mg dq;obtain⟨i4,_,_,dq⟩:=dq;cases dq;refine AU ?_;exact BB (Ef.refl _) O
  refine DH.cons O O ?_ ?_
  ·intro gv X mq hh o hX;have Z:=o.st af;intro mi dr;obtain⟨i5,_,_,dr⟩:=dr;cases dr;refine AU ?_;exact BB (Ef.refl _) O
  refine DH.cons O O ?_ ?_
  ·intro gv X mq hh o hX;have Z:=o.st af;intro mj ds;obtain⟨i6,_,_,ds⟩:=ds;cases ds;refine AU ?_;have h7:=bs.mono' (e4.trans (o.ext af.1));exact BB (Ef.refl _) h7
  refine DH.cons O O ?_ ?_
  ·intro gv X mq hh o hX;have Z:=o.st af;intro h8 bw;obtain⟨i7,_,_,bw⟩:=bw;have bw:Sl _ _ A9.str h8 xj.b.I:=bw;have h9:=bw.le;refine AU ?_;exact BB (Ef.refl _) ⟨O,(Mk h9)⟩
  refine QU O O ?_ ?_
  ·intro gv X mq hh o hX;have Z:=SX.fz (X:=X) af o;intro ia bj ml dt mm du mn dv;obtain⟨i8,_,_,bj⟩:=bj;have bj:=Sl.mono' (S':=(SX S2 h hh X)) bj ⟨λb hb=>(SX.ext af.1 o hX).sub b hb,λ_ _=>rfl,Ag5 _⟩;have bj:Sl _ _ A5 ia xj.s.F:=bj;obtain⟨i9,_,_,dt⟩:=dt;obtain⟨rfl,ib⟩:=dt;obtain⟨ja,_,_,du⟩:=du;obtain⟨rfl,ic⟩:=du;obtain⟨jb,_,_,dv⟩:=dv;obtain⟨rfl,ie⟩:=dv;refine Ch O O O zU O (VP Z bj ib ic ie fu) λmp mr ms ig p=>?_;obtain⟨mu,mv,rfl,dw⟩:=p;have ih:=dw.pick (.tail (.tail .head));obtain⟨fv,dx,fw,jc,fx⟩:=OW.done af.1 o hX ig ih;exact BB fw ⟨fv,dx,⟨_,_,O,fx⟩⟩
  refine DH.cons O O ?_ ?_
  ·intro gv X mq hh o hX;have Z:=o.st af;intro jd bx;obtain⟨dy,_,_,bx⟩:=bx;obtain⟨je,jf,rfl,jg⟩:=bx;refine AU ?_;exact BB (Ef.refl _) ⟨dy,_,_,O⟩
  refine DH.cons O O ?_ ?_
  ·intro gv X mq hh o hX;have Z:=o.st af;intro jh bz;obtain⟨dz,_,_,bz⟩:=bz;obtain⟨_,ji,jj,rfl⟩:=bz;refine AU ?_;exact BB (Ef.refl _) (by rw[<-dz];rfl)
  refine DH.cons O O ?_ ?_
  ·intro gv X mq hh o hX;have Z:=o.st af;intro jk b0;obtain⟨d0,_,_,b0⟩:=b0;obtain⟨_,jl,jm,rfl⟩:=b0;refine AU ?_;exact BB (Ef.refl _) (by rw[<-d0];rfl)
  refine DH.cons O O ?_ ?_
  ·intro gv X mq hh o hX;have Z:=o.st af;intro jn cm;obtain⟨d1,_,_,cm⟩:=cm;refine AU ?_;exact BB (Ef.refl _) d1
  refine DH.cons O O ?_ ?_
  ·intro gv X mq hh o hX;have Z:=o.st af;intro jo cn;obtain⟨d2,_,_,cn⟩:=cn;refine AU ?_;exact BB (Ef.refl _) d2
  exact trivial
 intro b1 bk ii bq bc d3 jp b2 co b3 cp b4 cq b5 cr b6 cs b7;obtain⟨d4,b2⟩:=b2;obtain⟨b8,b3⟩:=b3;obtain⟨d5,b4⟩:=b4;obtain⟨d6,b5⟩:=b5;obtain⟨ij,b6⟩:=b6;obtain⟨ik,b7⟩:=b7;obtain⟨a1,a8,rfl,fy⟩:=b2;have bl:=(Zg.cons (Zg.nil af bq bc) d3 (j:=22) O fy).st;simp only[Ag4,Ag3]at bl;obtain rfl: .tuple #[a1,a8]=co:=((by rw[b3.1,<-d4];try rfl:co= .tuple #[a1,a8])).symm;obtain rfl:a1=cp:=((by rw[b4,<-b8];try rfl:cp=a1)).symm;obtain rfl:a8=cq:=((by rw[b5,<-b8];try rfl:cq=a8)).symm;obtain rfl:a1=cr:=((by rw[b6,<-d5];try rfl:cr=a1)).symm;obtain rfl:a8=cs:=((by rw[b7,<-d6];try rfl:cs=a8)).symm;refine AU ?_;obtain⟨az,ax,rfl,jq⟩:=bl.oslen (mt mh);refine Gq (vs:=[(.slice az ay.2.length ax)]) (cs':=[.string xj.b.G,an,vI xj.b.L,ao,ag,ap,aq,ar,au,av,vI xj.b.M,ah,ai,aj,ak,am,vI xj.s.B,d,g,(.slice az ay.2.length ax),ac,t,u,y,ad,z]) O O O O Zr.1 O bl (.tail (.tail (.tail .head))) O O λb9 d7 ca=>?_;have d8:=e4.trans ((SX.ext af.1 bq (nZ bc)).trans ca);have jr:=a7.mono' d8;refine AU ?_;refine AT (λa w=>∃(a4:List xq)(a5:xq),IV B (SX S2 h b1 (UX bk)) b9 (123,[]) a w [(0,vP c 0)] (OS A5 103 (.slice az ay.2.length ax) ay.2::OS (A9.sl AC) 29 d a4::Bx c 112 [.string xj.b.G,an,vI xj.b.L,ao,ag,ap,aq,ar,au,av,vI xj.b.M,ah,ai,aj,ak,am,vI xj.s.B,d,g,(.slice az ay.2.length ax),ac,t,u,y,ad,z]::OS AC 3 g xj.s.P::OS BZ 107 ac xj.s.Q::OS AC 3 t xj.s.K::OS AC 3 u xj.s.O::OS BY 116 y xj.moves::OS AC 3 ad a5::OS A5 103 z xj.sent::L) λ_ _=>DY N xj ay a4 a5=some r) ?_ ?_
 ·refine A0 (λn1=>λa w=>∃(aw:Int)(a9:List xq)(ba:xq),IV B (SX S2 h b1 (UX bk)) b9 (123,[]) a w [(43,vI (↑xj.b.A.length:Int)),(2,a1),(0,vP c 0),(44,vI aw)] (OS (A9.sl AC) 29 a1 ay.1::OS A5 103 (.slice az ay.2.length ax) ay.2::OS (A9.sl AC) 29 d a9::Bx c 112 [.string xj.b.G,an,vI xj.b.L,ao,ag,ap,aq,ar,au,av,vI xj.b.M,ah,ai,aj,ak,am,vI xj.s.B,d,g,(.slice az ay.2.length ax),ac,t,u,y,ad,z]::OS AC 3 g xj.s.P::OS BZ 107 ac xj.s.Q::OS AC 3 t xj.s.K::OS AC 3 u xj.s.O::OS BY 116 y xj.moves::OS AC 3 ad ba::OS A5 103 z xj.sent::L) λ_ _=>AB aw/\C6 N xj ay (DY N xj ay) n1 aw a9 ba=some r) N ?_ ?_ ?_
  ·intro aa ww hf hw;exact⟨0,xj.s.D,xj.peaks,_,_,hf.sub (kp [43,2,0,44] O),hw,d7,(CO.refl (SX S2 h b1 (UX bk)) b9),(iq (n:=0) O),E⟩
  ·rintro aa ww⟨_,_,_,_,_,_,_,_,_,_,E⟩;rw[C6]at E;cases E
  rintro n1 aa ww⟨aw,a9,ba,be,cb,hf,hw,ab,ct,cc,E⟩;refine AL ?_ hf hw;clear hf hw ww aa;rw[C6]at E;refine AU ?_;refine AK O E (λf0 E=>?_) (λf0 E=>?_)
  ·refine AU ?_;refine AW (AU ?_);refine Rq (kp [4,43,2,0,44] O) ?_;obtain⟨js,d9,E⟩:=bd E;obtain⟨cu,ea,E⟩:=bd E;obtain⟨jt,eb,E⟩:=bd E;obtain⟨cv,ec,E⟩:=bd E;obtain⟨cd,ed,E⟩:=bd E;obtain⟨ju,ee,E⟩:=bd E;refine OA (m:=[(4,vI aw),(43,vI (↑xj.b.A.length:Int)),(2,a1),(0,vP c 0),(44,vI aw)]) 20 (λi v hh=>match i with|0=>v=vP c 0|1=>v=vP c 0|2=>v=vP c 16|3=>v=vP c 17|4=>v=d|5=>v=vI aw/\AB aw|6=>v=vP c 0|7=>v=vP c 0|8=>v=vP c 16|9=>v=vP c 17|10=>v=d|11=>v=vI aw/\AB aw|12=>EP d (aw.toNat*((A9.sl AC)).sz+0) v|13=>Sl be hh AC v cu|14=>v=a1|15=>v=vI aw/\AB aw|16=>EP a1 (aw.toNat*((A9.sl AC)).sz+0) v|17=>Sl be hh AC v cv|18=>Sl (SN be cb hh) hh AC v cd|19=>EP d (aw.toNat*((A9.sl AC)).sz+0) v|_=>False) [[],[(0,47)],[(1,48)],[(2,49)],[(3,50)],[],[],[(6,53)],[(7,54)],[(8,55)],[(9,56)],[],[(10,57),(11,58)],[(12,59)],[],[],[(14,61),(15,62)],[(16,63)],[(13,60),(17,64)],[(4,51),(5,52)]] [(18,65),(19,66)] mo Γ [4,43,2,0,44] O Γ Γ Γ (kp [4,43,2,0,44] O) (λi v h1 h2 o1 o2 hr=>?_) ?_ ?_
   ·match i,hr with
     |0,hr|1,hr|2,hr|3,hr|4,hr|5,hr|6,hr|7,hr|8,hr|9,hr|10,hr|11,hr|12,hr|14,hr|15,hr|16,hr|19,hr=>exact hr
     |13,hr|17,hr=>exact Sl.mono' hr (o2.ext λb hb=>Ag6 (ab.1 b hb) o1.siz)
     |18,hr=>exact Sl.mono' hr (SN.mono ab.1 o1 o2)
     |_+20,hr=>exact hr.elim
   ·refine A7.cons O ?_ ?_
    ·intro mq hh o;have Z:=o.st ab;refine AU ?_;exact BB (Ef.refl _) O
    refine A7.cons O ?_ ?_
    ·intro mq hh o;intro jv f1;have Z:=o.st ab;cases f1;refine AU ?_;exact BB (Ef.refl _) O
    refine A7.cons O ?_ ?_
    ·intro mq hh o;intro jw f2;have Z:=o.st ab;cases f2;refine AU ?_;exact BB (Ef.refl _) O
    refine A7.cons O ?_ ?_
    ·intro mq hh o;intro jx f3;have Z:=o.st ab;cases f3;refine AU ?_;exact BB (Ef.refl _) O
    refine A7.cons O ?_ ?_
    ·intro mq hh o;intro jy f4;have Z:=o.st ab;cases f4;refine AU ?_;exact BB (Ef.refl _) O
    refine A7.cons O ?_ ?_
    ·intro mq hh o;have Z:=o.st ab;refine AU ?_;exact BB (Ef.refl _) ⟨O,cc⟩
    refine A7.cons O ?_ ?_
    ·intro mq hh o;have Z:=o.st ab;refine AU ?_;exact BB (Ef.refl _) O
    refine A7.cons O ?_ ?_
    ·intro mq hh o;intro jz f5;have Z:=o.st ab;cases f5;refine AU ?_;exact BB (Ef.refl _) O
    refine A7.cons O ?_ ?_
    ·intro mq hh o;intro j0 f6;have Z:=o.st ab;cases f6;refine AU ?_;exact BB (Ef.refl _) O
    refine A7.cons O ?_ ?_
    ·intro mq hh o;intro j1 f7;have Z:=o.st ab;cases f7;refine AU ?_;exact BB (Ef.refl _) O
    refine A7.cons O ?_ ?_
    ·intro mq hh o;intro j2 f8;have Z:=o.st ab;cases f8;refine AU ?_;exact BB (Ef.refl _) O
    refine A7.cons O ?_ ?_
    ·intro mq hh o;have Z:=o.st ab;refine AU ?_;exact BB (Ef.refl _) ⟨O,cc⟩
    refine A7.cons O ?_ ?_
    ·intro mq hh o;intro j3 f9 j4 ga;have Z:=o.st ab;cases f9;obtain⟨rfl,j5⟩:=ga;refine AU ?_;refine BU Z (mt (mt mh)) O O Js.1 d9 O λj6 ef=>AU ?_;exact BB (Ef.refl _) ef
    refine A7.cons O ?_ ?_
    ·intro mq hh o;intro j7 gb;have Z:=o.st ab;refine AU ?_;have gc:=Z.epAt (mt (mt mh)) ea FB.id gb;refine GB H4 (λ_ x=>x) O gc GC.1 O λj8 ge=>AU ?_;exact BB (Ef.refl _) ge
    refine A7.cons O ?_ ?_
    ·intro mq hh o;have Z:=o.st ab;refine AU ?_;exact BB (Ef.refl _) O
    refine A7.cons O ?_ ?_
    ·intro mq hh o;have Z:=o.st ab;refine AU ?_;exact BB (Ef.refl _) ⟨O,cc⟩
    refine A7.cons O ?_ ?_
    ·intro mq hh o;intro j9 gf ka gg;have Z:=o.st ab;cases gf;obtain⟨rfl,kb⟩:=gg;refine AU ?_;refine BU Z mh O O Js.1 eb O λkc eg=>AU ?_;exact BB (Ef.refl _) eg
    refine A7.cons O ?_ ?_
    ·intro mq hh o;intro kd gh;have Z:=o.st ab;refine AU ?_;have gi:=Z.epAt mh ec FB.id gh;refine GB H4 (λ_ x=>x) O gi GC.1 O λke gj=>AU ?_;exact BB (Ef.refl _) gj
    refine A7.cons O ?_ ?_
    ·intro mq hh o;intro gl bf gm bg;have Z:=SN.st ab o;have bf:=Sl.mono' (S':=(SN be cb hh)) bf ⟨λb hb=> .inl hb,λ_ _=>rfl,Ag5 _⟩;have bf:Sl _ _ AC gl cu:=bf;have bg:=Sl.mono' (S':=(SN be cb hh)) bg ⟨λb hb=> .inl hb,λ_ _=>rfl,Ag5 _⟩;have bg:Sl _ _ AC gm cv:=bg;have cl:=Z.fz;refine El O O O ZU O cl (PD (St.all _) (bf.mono (λb hb=>cl.1 b hb) (λ_ _=>rfl)) (bg.mono (λb hb=>cl.1 b hb) (λ_ _=>rfl)) ed) λkf kg kh il gn gp p=>?_;have eh:=p;have ce:=cl.join gp eh ⟨OS.flat (λ{_ _ _ _ _ _} k=>k),trivial⟩;simp only[Ag4,Ag3]at ce;obtain⟨ki,ei,gq,gr⟩:=ce.pubs .head;have cf:=Fz.done o (gn.trans gq) ei;exact BB cf.1 (Sl.mono' gr cf.2)
    refine A7.cons O ?_ ?_
    ·intro mq hh o;intro kj gs kk gu;have Z:=o.st ab;cases gs;obtain⟨rfl,kl⟩:=gu;refine AU ?_;refine BU Z (mt (mt mh)) O O Js.1 ee O λkm ej=>AU ?_;exact BB (Ef.refl _) ej
    exact trivial
   intro kn cw gw cg ko gx;have ek:=SN.st ab cw;have cg:Sl _ _ AC gw cd:=cg;obtain⟨gy,el,E⟩:=bd E;refine Ei (r:=(A9.sl AC)) (l:=a9) (i:=aw) (x:=gy) O O (Kx cg) gx el NQ.id GC.1 (λ_=>rfl) ek (.tail (.tail .head)) λkr a6 gz=>AU ?_;refine Na 15 mo Γ O a6 (AU ?_);obtain⟨ks,em,E⟩:=bd E;refine BU a6 (mt (mt mh)) O O Js.1 em O λkt en=>?_;obtain⟨ku,eo,E⟩:=bd E;have g0:=a6.epAt (mt (mt mh)) eo FB.id en;refine GB OK (λ_ x=>x) O g0 GC.1 O λkv g1=>?_;obtain⟨cx,ep,E⟩:=bd E;refine Od O O O OR O (λh' o=>ES (St.all h') (g1.mono' (o.all a6.1)) ep) λg2=>?_;have g3:=g2;obtain⟨kw,eq,E⟩:=bd E;refine BU a6 (mt (mt (mt (mt (mt (mt (mt (mt (mt mh))))))))) O O CW.1 eq O λkx er=>Lo λky es g4=>?_;obtain⟨g5,eu,E⟩:=bd E;refine Ei (r:=AC) (l:=ba) (i:=aw) (x:=g5) O O (⟨_,O,O,g3⟩:Rd _ _ AC _ cx) er eu NQ.id Fl.1 (λ_=>rfl) es (.tail (.tail (.tail (.tail (.tail (.tail (.tail (.tail (.tail .head))))))))) λkz ew g6=>AU ?_;refine BF (AU ?_);refine WF.nil (λaa ww hf hw=>?_);have ey:=ct.trans ((SN.ext ab.1 cw).trans (gz.trans (g4.trans g6)));exact⟨(BO (aw+1)),(upd a9 aw cd),(upd ba aw cx),_,_,hf.sub (kp [43,2,0,44] O),hw,ew,ey,(BQ _),E⟩
  refine BL O (λaa ww hf hw=>?_);have ez:=ab.sel [1,1,1,1,1,1,1,1,1,1] 1 O;exact⟨a9,ba,_,_,hf.sub (kp [0] O),hw,ez,ct,E⟩
 rintro aa ww⟨a4,a5,cy,cz,hf,hw,e0,c0,E⟩;refine AL ?_ hf hw;clear hf hw ww aa;rw[DY]at E;have e1:=e4.trans ((SX.ext af.1 bq (nZ bc)).trans (ca.trans c0));have g7:=bt.mono' e1;refine AU ?_;refine AW (A0 (λn2=>λa w=>∃(a2:Int)(bb:List A8),IV B cy cz (123,[]) a w [(88,vI (↑xj.b.E.length:Int)),(87,ag),(0,vP c 0),(89,vI a2)] (OS A5 103 (.slice az ay.2.length ax) ay.2::OS (A9.sl AC) 29 d a4::Bx c 112 [.string xj.b.G,an,vI xj.b.L,ao,ag,ap,aq,ar,au,av,vI xj.b.M,ah,ai,aj,ak,am,vI xj.s.B,d,g,(.slice az ay.2.length ax),ac,t,u,y,ad,z]::OS AC 3 g xj.s.P::OS BZ 107 ac bb::OS AC 3 t xj.s.K::OS AC 3 u xj.s.O::OS BY 116 y xj.moves::OS AC 3 ad a5::OS A5 103 z xj.sent::L) λ_ _=>AB a2/\Ci N xj ay a4 a5 n2 a2 bb=some r) N ?_ ?_ ?_)
 ·intro aa ww hf hw;exact⟨0,xj.s.Q,_,_,hf.sub (kp [88,87,0,89] O),hw,e0,(CO.refl cy cz),(iq (n:=0) O),E⟩
 ·rintro aa ww⟨_,_,_,_,_,_,_,_,_,E⟩;rw[Ci]at E;cases E
 rintro n2 aa ww⟨a2,bb,g8,g9,hf,hw,ch,ci,k0,E⟩;refine AL ?_ hf hw;clear hf hw ww aa;rw[Ci]at E;refine AU ?_;refine AK O E (λha E=>?_) (λha E=>?_)
 ·refine AU ?_;refine AT (λa w=>∃(br:List A8),IV B g8 g9 (123,[]) a w [(88,vI (↑xj.b.E.length:Int)),(87,ag),(0,vP c 0),(89,vI a2)] (OS A5 103 (.slice az ay.2.length ax) ay.2::OS (A9.sl AC) 29 d a4::Bx c 112 [.string xj.b.G,an,vI xj.b.L,ao,ag,ap,aq,ar,au,av,vI xj.b.M,ah,ai,aj,ak,am,vI xj.s.B,d,g,(.slice az ay.2.length ax),ac,t,u,y,ad,z]::OS AC 3 g xj.s.P::OS BZ 107 ac br::OS AC 3 t xj.s.K::OS AC 3 u xj.s.O::OS BY 116 y xj.moves::OS AC 3 ad a5::OS A5 103 z xj.sent::L) λ_ _=>GD N a2 (Ci N xj ay a4 a5 n2) br=some r) ?_ ?_
  ·refine AU ?_;have hc:=g7.mono' ci;obtain⟨ae,e2,E⟩:=bd E;refine Oc O O hc PU.1 e2 O λk1 hd=>?_;obtain⟨k2,_,he⟩:=hd.lv;refine AU ?_;refine DT Po O ch λk3 k4 e3 cj=>AU ?_;have c1:=he.mono cj;obtain⟨c2,c3,c4,rfl,k5,k6,k7,k8,hg,hi,hj,k9,la,lb,lc,lf,lg,lh,li,lj,ll,lm⟩:=CD.ex c1;refine NT (vs:=[.string ae.G,vI ae.H,vI ae.J,vI ae.C,c2,c3,c4,vI ae.W,vI ae.Ag,vI ae.Bb,vI ae.Bc,vI ae.Y,vI ae.T,vI ae.Az,vI ae.Ba,vI ae.Aq,vI ae.Al,vI ae.S]) (cs':=[.string ae.G,vI ae.H,vI ae.J,vI ae.C,c2,c3,c4,vI ae.W,vI ae.Ag,vI ae.Bb,vI ae.Bc,vI ae.Y,vI ae.T,vI ae.Az,vI ae.Ba,vI ae.Aq,vI ae.Al,vI ae.S]) O O O (BH O (BH O (BH O (BH O (BH hg.one (BH hi.one (BH hj.one (BH O (BH O (BH O (BH O (BH O (BH O (BH O (BH O (BH O (BH O (BH O KY)))))))))))))))))) Pv.1 O e3 .head O O λln a0 ck=>AU ?_;refine AK O E (λhk E=>?_) (λhk E=>?_)
   ·refine Na 25 mo Γ O a0 (AU ?_);obtain⟨lo,e5,E⟩:=bd E;refine BU a0 (mt (mt (mt (mt (mt mh))))) O O RH.1 e5 O λlp e6=>?_;obtain⟨lq,e7,E⟩:=bd E;have hl:=a0.epAt (mt (mt (mt (mt (mt mh))))) e7 FB.id e6;refine Lh OK (λ_ x=>x) O hl Ja.1 (λe=>by cases e) O λlr hm=>AU ?_;obtain⟨ls,e8,E⟩:=bd E;refine BU a0 (mt (mt (mt (mt (mt (mt (mt (mt (mt mh))))))))) O O CW.1 e8 O λlt e9=>?_;obtain⟨lu,fa,E⟩:=bd E;have hn:=a0.epAt (mt (mt (mt (mt (mt (mt (mt (mt (mt mh))))))))) fa FB.id e9;refine FA OK (λ_ x=>x) O hn Fl.1 O λho=>?_;have bu:=c1.mono ck;obtain⟨c5,fb,E⟩:=bd E;refine Od O O O zT O (λh' o=>Tr (St.all h') (bu.mono (o.all a0.1)) (hm.mono (o.all a0.1)) ho fb) λhp=>?_;obtain⟨hq,ht⟩:=hp;obtain⟨lw,fc,E⟩:=bd E;refine BU a0 (mt (mt (mt (mt (mt mh))))) O O RH.1 fc O λlx fd=>Lo λly fe hu=>?_;obtain⟨hv,ff,E⟩:=bd E;refine Ei (r:=BZ) (l:=bb) (i:=a2) (x:=hv) O O (BZ.mk (x:=c5) ⟨hq,ht⟩) fd ff NQ.id Ja.1 (λe=>by cases e) fe (.tail (.tail (.tail (.tail (.tail .head))))) λlz fg hx=>AU ?_;refine WF.nil (λaa ww hf hw=>?_);have fh:=fg.sel [1,1,1,1,1,1,1,1,1,1] 1 O;have fi:=cj.trans (ck.trans (hu.trans hx));exact⟨(upd bb a2 c5),_,_,hf.sub (kp [88,87,0,89] O),hw,fh,fi,E⟩
   refine AU ?_;refine WF.nil (λaa ww hf hw=>?_);have fj:=a0.sel [1,1,1,1,1,1,1,1,1,1] 1 O;exact⟨bb,_,_,hf.sub (kp [88,87,0,89] O),hw,fj,(cj.trans ck),E⟩
  rintro aa ww⟨br,l0,l1,hf,hw,fk,hy,E⟩;refine AL ?_ hf hw;clear hf hw ww aa;rw[GD]at E;refine AU ?_;refine WF.nil (λaa ww hf hw=>?_);exact⟨(BO (a2+1)),br,_,_,hf.sub (kp [88,87,0,89] O),hw,fk,(ci.trans hy),(BQ _),E⟩
 refine IA O (WF.nil (λaa ww hf hw=>?_));have fl:=ch.sel [2,1,1,0,0,0,0,0,0,0] 0 O;cases E;have fm:=e4.trans ((SX.ext af.1 bq (nZ bc)).trans (ca.trans (c0.trans ci)));exact K0 hf O hw Kz O fm ⟨_,_,_,_,O,fl⟩
end Go.Proofs.YtabonambpbofgaaGreat
