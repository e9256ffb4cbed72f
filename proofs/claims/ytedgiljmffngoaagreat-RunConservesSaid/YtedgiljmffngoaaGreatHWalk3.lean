import Derived.Test.YtedgiljmffngoaaGreatHInst
import Derived.Test.YtedgiljmffngoaaGreatHWalk1
namespace Go.Proofs.YtedgiljmffngoaaGreat
set_option linter.all false
open Go.RowKit
open Go.Proofs.Tryz
set_option maxRecDepth 10000
set_option maxHeartbeats 2000000
variable {N:Nat}{S:Nat→Prop}{L:List HP}{h:AV}
def Po {g:Nat}{p0_w:AN}{ac:Value}{ad:Value}{af:Value}{ag:Value}{ah:Value}{ai:Value}{aj:Value}{ak:Value}{V:Value}{W:Value}{Y:Value}{Z:Value}{l:Value}{d:Value}{q:Value}{ab:Value}{t:Value}{u:Value}{x:Value}{y:Value}{z:Value}{H:Value}(hs:St S (Bx g 160 [.string p0_w.b.J,ac,vI p0_w.b.P,ad,af,ag,ah,ai,aj,ak,vI p0_w.b.Q,V,W,Y,Z,l,vI p0_w.s.B,d,q,ab,t,u,x,y,z,H]::OO AC 3 29 d p0_w.s.D::OS AC 3 q p0_w.s.M::OS BL 106 t p0_w.s.O::OS AC 3 u p0_w.s.N::OS AC 3 x p0_w.s.L::OS BD 74 y p0_w.moves::OS AC 3 z p0_w.peaks::OS AS 121 H p0_w.sent::L) h) (cc:p0_w.b.J.size≤maxLen) (ap:Sl S h A4.str ac p0_w.b.F) (cd:AB p0_w.b.P) (au:Sl S h CC ad p0_w.b.A) (ce:Sl S h B0 af p0_w.b.G) (cf:Sl S h Hb ag p0_w.b.Ac) (cg:Sl S h Er ah p0_w.b.Af) (ch:Sl S h G4 ai p0_w.b.Ag) (ci:Sl S h DI aj p0_w.b.Aj) (cj:Sl S h AC ak p0_w.b.Al) (bj:AB p0_w.b.Q) (bk:Sl S h AC V p0_w.in_.Aa) (bl:Sl S h Gt W p0_w.in_.Ai) (bm:Sl S h J6 Y p0_w.in_.Ak) (bn:Sl S h Gs Z p0_w.in_.Ab) (aq:Sl S h HJ l p0_w.in_.Ae) (bo:AB p0_w.s.B) (bp:Sl S h AS ab p0_w.s.E) {r:(List (List Int))}(E:Db N p0_w=some r):
 B3 prog 80 #[vP g 0] S h (λv S' h'=>∃ar:Value,v= .tuple #[]∧St S' (Bx g 160 [.string p0_w.b.J,ac,vI p0_w.b.P,ad,af,ag,ah,ai,aj,ak,vI p0_w.b.Q,V,W,Y,Z,l,vI p0_w.s.B,ar,q,ab,t,u,x,y,z,H]::OO AC 3 29 ar r::OS AC 3 q p0_w.s.M::OS BL 106 t p0_w.s.O::OS AC 3 u p0_w.s.N::OS AC 3 x p0_w.s.L::OS BD 74 y p0_w.moves::OS AC 3 z p0_w.peaks::OS AS 121 H p0_w.sent::L) h'):=by
 refine BA 70 func80 O ntmps80 O λB=>?_;rw[Db] at E;refine AU ?_;refine AY (AX (λn0=>λa w=>∃(i5:Int) (l7:List (List Int)),IV B S h (70,[]) a w [(9,vI (↑p0_w.in_.Ae.length:Int)),(8,l),(0,vP g 0),(10,vI i5)] (Bx g 160 [.string p0_w.b.J,ac,vI p0_w.b.P,ad,af,ag,ah,ai,aj,ak,vI p0_w.b.Q,V,W,Y,Z,l,vI p0_w.s.B,d,q,ab,t,u,x,y,z,H]::OO AC 3 29 d l7::OS AC 3 q p0_w.s.M::OS BL 106 t p0_w.s.O::OS AC 3 u p0_w.s.N::OS AC 3 x p0_w.s.L::OS BD 74 y p0_w.moves::OS AC 3 z p0_w.peaks::OS AS 121 H p0_w.sent::L) λ_ _=>AB i5∧CI N p0_w n0 i5 l7=some r) N ?_ ?_ ?_)
 ·intro aa ww hf hw;exact⟨0,p0_w.s.D,_,_,hf.sub (kp [9,8,0,10] O),hw,hs,(B9.refl S h),(iq (n:=0) O),E⟩
 ·rintro aa ww ⟨_,_,_,_,_,_,_,_,_,E⟩;rw[CI] at E;cases E
 rintro n0 aa ww ⟨i5,l7,S8,h9,hf,hw,bh,ck,r6,E⟩;refine AK ?_ hf hw;clear hf hw ww aa;rw[CI] at E;refine AU ?_;refine AH O E (λdc E=>?_) (λdc E=>?_)
 ·refine AU ?_;refine AO (λa w=>∃(bg:List (List Int)),IV B S8 h9 (70,[]) a w [(9,vI (↑p0_w.in_.Ae.length:Int)),(8,l),(0,vP g 0),(10,vI i5)] (Bx g 160 [.string p0_w.b.J,ac,vI p0_w.b.P,ad,af,ag,ah,ai,aj,ak,vI p0_w.b.Q,V,W,Y,Z,l,vI p0_w.s.B,d,q,ab,t,u,x,y,z,H]::OO AC 3 29 d bg::OS AC 3 q p0_w.s.M::OS BL 106 t p0_w.s.O::OS AC 3 u p0_w.s.N::OS AC 3 x p0_w.s.L::OS BD 74 y p0_w.moves::OS AC 3 z p0_w.peaks::OS AS 121 H p0_w.sent::L) λ_ _=>GO N i5 (CI N p0_w n0) bg=some r) ?_ ?_
  ·refine AU ?_;have dd:=aq.mono' ck;refine A6 E O O dd vF.1 O λam E fm de=>?_;obtain⟨fn,_,df⟩:=de.lv;refine AU ?_;refine CF nZ O bh λav fo cl cm=>?_;have dg:=df.mono cm;obtain⟨rfl,⟨bq,cn,co,dh⟩⟩:=HJ.ex dg;refine C7 O O O O oP.1 O cl .head O λfp cp di=>AU ?_;refine BY (.inr ⟨mo,by kernel_rfl⟩) cp ?_;have dj:=au.nw;have dk:=dj.le;refine AU ?_;refine A8 E O O O PH O (λcq cr h' o=>HT (St.all h') bq (KZ dk) cr) λcq E=>AU ?_;obtain⟨cs,an,E⟩:=bd E;refine AZ 10 33 (.bool cs) ?_ ?_
   ·cases ct:cq
    ·have an:=G3 ct an;cases an;exact BG O O
    have an:=G2 ct an;have dl:=ap.nw;have dm:=dl.le;refine AU ?_;refine A8 an O O O PH O (λdn cu h' o=>HT (St.all h') cn (KZ dm) cu) λdn an=>AU ?_;cases an;exact A0 O
   refine AU ?_;obtain⟨dp,ao,E⟩:=bd E;refine AZ 10 44 (.bool dp) ?_ ?_
   ·cases cv:cs
    ·have ao:=G3 cv ao;cases ao;exact BG O O
    have ao:=G2 cv ao;have dq:=ap.nw;have dr:=dq.le;refine AU ?_;refine A8 ao O O O PH O (λds cw h' o=>HT (St.all h') co (KZ dr) cw) λds ao=>AU ?_;cases ao;exact A0 O
   refine BJ (kp [44,3,9,8,0,10] O) λdt c du=>AH O E (λdv E=>?_) (λdv E=>?_)
   ·obtain ⟨fq,cx,E⟩:=bd E;obtain⟨dw,cy,E⟩:=bd E;obtain⟨cz,c0,E⟩:=bd E;obtain⟨fr,c1,E⟩:=bd E;refine VP (m:=[(3,vP av 0),(9,vI (↑p0_w.in_.Ae.length:Int)),(8,l),(0,vP g 0),(10,vI i5)]) [24] [] [] (by kernel_rfl) (λgv X F i v hh=>match i with|0=>v=vP g 0|1=>v=vP g 0|2=>v=vP g 16|3=>v=vP g 17|4=>v=d|5=>v=vP av 0|6=>v=vI am.Aq∧AB am.Aq|7=>v=vP g 0|8=>v=vP g 0|9=>v=vP g 16|10=>v=vP g 17|11=>v=d|12=>v=vP av 0|13=>v=vI am.Aq∧AB am.Aq|14=>EP d (am.Aq.toNat*((A4.sl AC)).sz+0) v|15=>Sl (λb=>b<hh.size) hh AC v dw|16=>v=vP av 1|17=>v=vI am.I∧AB am.I|18=>v=vP av 2|19=>v=vI am.C∧AB am.C|20=>v=vP av 3|21=>v=vI am.Bc∧AB am.Bc|22=>OW S8 dt X F [OS AC 3 v cz] hh|23=>EP d (am.Aq.toNat*((A4.sl AC)).sz+0) v|_=>False) [[],[(0,45)],[(1,46)],[(2,47)],[(3,48)],[],[(5,50)],[],[(7,52)],[(8,53)],[(9,54)],[(10,55)],[],[(12,57)],[(11,56),(13,58)],[(14,59)],[],[(16,61)],[],[(18,63)],[],[(20,65)],[(15,60),(17,62),(19,64),(21,66)],[(4,49),(6,51)],[]] [(22,67),(23,68)] mo (by kernel_rfl) [3,9,8,0,10] O (by kernel_rfl) (by kernel_rfl) (by kernel_rfl) O (kp [3,9,8,0,10] O) (λgv i v h1 h2 X X' F o1 o2 hF u1 u2 K=>?_) (λgv fs X F i v h1 hz K=>?_) ?_ ?_ ?_
    ·match i,K with
      |0,K|1,K|2,K|3,K|4,K|5,K|6,K|7,K|8,K|9,K|10,K|11,K|12,K|13,K|14,K|16,K|17,K|18,K|19,K|20,K|21,K|23,K=>exact K
      |15,K=>exact Sl.mono K (λb hb=>Aa9 hb o2.siz) (λb hb=>o2.same b hb)
      |22,K=>exact OW.mono c.1 o1 o2 hF u1 u2 K
      |_+24,K=>exact K.elim
    ·match i,K with
      |0,K|1,K|2,K|3,K|4,K|5,K|6,K|7,K|8,K|9,K|10,K|11,K|12,K|13,K|14,K|15,K|16,K|17,K|18,K|19,K|20,K|21,K|22,K|23,K=>exact K
      |_+24,K=>exact K.elim
    ·exact trivial
    ·refine Ci.cons O O ?_ ?_
     ·intro gv X mq hh o hX;have U:=o.st c;refine AU ?_;exact A5 O
     refine Ci.cons O O ?_ ?_
     ·intro gv X mq hh o hX;have U:=o.st c;intro ft br;obtain⟨ei,_,_,br⟩:=br;cases br;refine AU ?_;exact A5 O
     refine Ci.cons O O ?_ ?_
     ·intro gv X mq hh o hX;have U:=o.st c;intro fu bs;obtain⟨ej,_,_,bs⟩:=bs;cases bs;refine AU ?_;exact A5 O
     refine Ci.cons O O ?_ ?_
     ·intro gv X mq hh o hX;have U:=o.st c;intro fv bt;obtain⟨ek,_,_,bt⟩:=bt;cases bt;refine AU ?_;exact A5 O
     refine Ci.cons O O ?_ ?_
     ·intro gv X mq hh o hX;have U:=o.st c;intro fw bu;obtain⟨el,_,_,bu⟩:=bu;cases bu;refine AU ?_;exact A5 O
     refine Ci.cons O O ?_ ?_
     ·intro gv X mq hh o hX;have U:=o.st c;refine AU ?_;exact A5 O
     refine Ci.cons O O ?_ ?_
     ·intro gv X mq hh o hX;have U:=o.st c;intro fx bv;obtain⟨em,_,_,bv⟩:=bv;cases bv;refine AU ?_;exact A5 ⟨O,bq⟩
     refine Ci.cons O O ?_ ?_
     ·intro gv X mq hh o hX;have U:=o.st c;refine AU ?_;exact A5 O
     refine Ci.cons O O ?_ ?_
     ·intro gv X mq hh o hX;have U:=o.st c;intro fy bw;obtain⟨en,_,_,bw⟩:=bw;cases bw;refine AU ?_;exact A5 O
     refine Ci.cons O O ?_ ?_
     ·intro gv X mq hh o hX;have U:=o.st c;intro f0 bx;obtain⟨eo,_,_,bx⟩:=bx;cases bx;refine AU ?_;exact A5 O
     refine Ci.cons O O ?_ ?_
     ·intro gv X mq hh o hX;have U:=o.st c;intro f1 bz;obtain⟨ep,_,_,bz⟩:=bz;cases bz;refine AU ?_;exact A5 O
     refine Ci.cons O O ?_ ?_
     ·intro gv X mq hh o hX;have U:=o.st c;intro f2 aw;obtain⟨dx,_,_,aw⟩:=aw;cases aw;refine AU ?_;exact A5 O
     refine Ci.cons O O ?_ ?_
     ·intro gv X mq hh o hX;have U:=o.st c;refine AU ?_;exact A5 O
     refine Ci.cons O O ?_ ?_
     ·intro gv X mq hh o hX;have U:=o.st c;intro eq ax;obtain⟨dy,_,_,ax⟩:=ax;cases ax;refine AU ?_;exact A5 ⟨O,bq⟩
     refine Ci.cons O O ?_ ?_
     ·intro gv X mq hh o hX;have U:=o.st c;intro er ay es az;obtain⟨dz,_,_,ay⟩:=ay;cases ay;obtain⟨d0,_,_,az⟩:=az;obtain⟨rfl,eu⟩:=az;refine AU ?_;refine Q9 (r:=AC) U (mt (mt mh)) O O H6.1 cx O λev b0=>AU ?_;exact A5 b0
     refine Ci.cons O O ?_ ?_
     ·intro gv X mq hh o hX;have U:=o.st c;intro ew a0;obtain⟨d1,_,_,a0⟩:=a0;refine AU ?_;refine VX (r:=AC) LD U (mt (mt mh)) O cy a0 G6.1 O λey d2 c2=>AU ?_;exact A5 c2
     refine Ci.cons O O ?_ ?_
     ·intro gv X mq hh o hX;have U:=o.st c;refine AU ?_;exact A5 O
     refine Ci.cons O O ?_ ?_
     ·intro gv X mq hh o hX;have U:=o.st c;intro ez a1;obtain⟨d3,_,_,a1⟩:=a1;cases a1;refine AU ?_;exact A5 ⟨O,cn⟩
     refine Ci.cons O O ?_ ?_
     ·intro gv X mq hh o hX;have U:=o.st c;refine AU ?_;exact A5 O
     refine Ci.cons O O ?_ ?_
     ·intro gv X mq hh o hX;have U:=o.st c;intro e0 a2;obtain⟨d4,_,_,a2⟩:=a2;cases a2;refine AU ?_;exact A5 ⟨O,co⟩
     refine Ci.cons O O ?_ ?_
     ·intro gv X mq hh o hX;have U:=o.st c;refine AU ?_;exact A5 O
     refine Ci.cons O O ?_ ?_
     ·intro gv X mq hh o hX;have U:=o.st c;intro e1 a3;obtain⟨d5,_,_,a3⟩:=a3;cases a3;refine AU ?_;exact A5 ⟨O,dh⟩
     refine PR O O ?_ ?_
     ·intro gv X mq hh o hX;have U:=SX.fz (X:=X) c o;intro e2 a4 e3 a5 e4 a6 e5 a7;obtain⟨d6,_,_,a4⟩:=a4;obtain⟨d7,_,_,a5⟩:=a5;obtain⟨rfl,c3⟩:=a5;obtain⟨d8,_,_,a6⟩:=a6;obtain⟨rfl,c4⟩:=a6;obtain⟨d9,_,_,a7⟩:=a7;obtain⟨rfl,c5⟩:=a7;refine FA O O O sR O U (Tv (St.all _) a4 c3 c4 c5 c0) λe6 e7 e8 ea c6 c7 p=>?_;have b1:=p;have a8:=U.join c7 b1 ⟨OS.flat (λ{_ _ _ _ _ _} k=>k),trivial⟩;simp only[Abw,Abj] at a8;have eb:=a8.pick (.tail .head);obtain⟨c8,b2,c9,e9,da⟩:=OW.done c.1 o hX c6 eb;exact A9 c9 ⟨c8,b2,da⟩
     refine Ci.cons O O ?_ ?_
     ·intro gv X mq hh o hX;have U:=o.st c;intro fa a9 fb ba;obtain⟨ec,_,_,a9⟩:=a9;cases a9;obtain⟨ed,_,_,ba⟩:=ba;obtain⟨rfl,fc⟩:=ba;refine AU ?_;refine Q9 (r:=AC) U (mt (mt mh)) O O H6.1 c1 O λfd b3=>AU ?_;exact A5 b3
     exact Ci.skip (by kernel_rfl) (trivial)
    intro fe ee ef bi bb b4 ff bc fg be;obtain⟨eg,bc⟩:=bc;obtain⟨eh,be⟩:=be;have bf:=(Xj.cons (Xj.nil c bi bb) b4 (j:=22) O bc).st;simp only[Abw,Abj] at bf;have b5:=bf.sel [0,2,0,0,0,0,0,0,0,0,0] 0 O;obtain⟨fh,b6,E⟩:=bd E;refine Y8 (r:=AC) (i:=am.Aq) O O be b6 G6.1 b5 λfi b7 db=>AU ?_;refine WF.nil (λaa ww hf hw=>?_);have b8:=b7.sel [2,0,1,1,1,1,1,1,1] 1 O;have b9:=cm.trans (di.trans (du.trans ((SX.ext c.1 bi (iM bb)).trans db)));exact⟨(upd l7 am.Aq cz),_,_,hf.sub (kp [9,8,0,10] O),hw,b8,b9,E⟩
   refine AU ?_;refine WF.nil (λaa ww hf hw=>?_);have ca:=c.sel [1,1,1,1,1,1,1,1,1] 1 O;exact⟨l7,_,_,hf.sub (kp [9,8,0,10] O),hw,ca,EX,E⟩
  rintro aa ww ⟨bg,fj,fk,hf,hw,cb,fl,E⟩;refine AK ?_ hf hw;clear hf hw ww aa;rw[GO] at E;refine AU ?_;refine WF.nil (λaa ww hf hw=>?_);exact⟨(BC (i5+1)),bg,_,_,hf.sub (kp [9,8,0,10] O),hw,cb,EX,(BH _),E⟩
 refine KN O (WF.nil (λaa ww hf hw=>?_));cases E;exact JA hf O hw I9 O ck ⟨_,O,bh⟩
def Cn (K:St S L h) {b:Value}{c:(List Int)}(k:Sl S h AC b c) {r:Int}(E:Ch N c=some r):
 B3 prog 18 #[b] S h (λv S' h'=>v=vI r∧AB r∧St S' (L) h'):=by
 refine BA 17 func18 O ntmps18 O λB=>?_;rw[Ch] at E;refine AU ?_;refine AO (λa w=>∃(y:Int),IV B S h (17,[]) a w [(3,vI y)] (L) λ_ _=>AB y∧IU N y=some r) ?_ ?_
 ·refine AX (λH=>λa w=>∃(q:Int) (d:Int),IV B S h (17,[]) a w [(7,vI (↑c.length:Int)),(6,b),(3,vI q),(8,vI d)] (L) λ_ _=>AB q∧AB d∧G0 N c (IU N) H q d=some r) N ?_ ?_ ?_
  ·intro m p g j;exact⟨0,0,_,_,g.sub (kp [7,6,3,8] O),j,K,(B9.refl S h),(iq (n:=0) O),(iq (n:=0) O),E⟩
  ·rintro m p ⟨_,_,_,_,_,_,_,_,_,_,E⟩;rw[G0] at E;cases E
  rintro H m p ⟨q,d,M,Q,g,j,l,s,I,U,E⟩;refine AK ?_ g j;clear g j p m;rw[G0] at E;refine AU ?_;refine AH O E (λz E=>?_) (λz E=>?_)
  ·refine AU ?_;refine AY (AU ?_);have A:=k.mono' s;refine A6 E O O A Ct.1 O λV E W C=>?_;have D:=C.i;refine AU ?_;refine BY (.inl O) l (AU ?_);refine B7 E O O O R6 O (λt u h' o=>H1 (St.all h') I D u) λt E F=>?_;have G:=F;refine AU ?_;refine BJ (kp [3,7,6,8] O) λX x Y=>BE (AU ?_);refine WF.nil (λm p g j=>?_);exact⟨t,(BC (d+1)),_,_,g.sub (kp [7,6,3,8] O),j,x,EX,G,(BH _),E⟩
  refine BB O (λm p g j=>?_);exact⟨q,_,_,g.sub (kp [3] O),j,l,s,I,E⟩
 rintro m p ⟨y,Z,ab,g,j,J,ac,r3,E⟩;refine AK ?_ g j;clear g j p m;rw[IU] at E;exact RT
def QA {u:Nat}{p0_w:AN}{ac:Value}{af:Value}{ag:Value}{ah:Value}{ai:Value}{aj:Value}{ak:Value}{am:Value}{U:Value}{V:Value}{W:Value}{X:Value}{Y:Value}{q:Value}{c:Value}{z:Value}{d:Value}{t:Value}{g:Value}{Z:Value}{k:Value}{p:Value}(hs:St S (Bx u 160 [.string p0_w.b.J,ac,vI p0_w.b.P,af,ag,ah,ai,aj,ak,am,vI p0_w.b.Q,U,V,W,X,Y,vI p0_w.s.B,q,c,z,d,t,g,Z,k,p]::OO AC 3 29 q p0_w.s.D::OS AC 3 c p0_w.s.M::OS BL 106 d p0_w.s.O::OS AC 3 t p0_w.s.N::OS AC 3 g p0_w.s.L::OS BD 74 Z p0_w.moves::OS AC 3 k p0_w.peaks::OS AS 121 p p0_w.sent::L) h) (db:p0_w.b.J.size≤maxLen) (bh:Sl S h A4.str ac p0_w.b.F) (dc:AB p0_w.b.P) (bi:Sl S h CC af p0_w.b.A) (dd:Sl S h B0 ag p0_w.b.G) (de:Sl S h Hb ah p0_w.b.Ac) (df:Sl S h Er ai p0_w.b.Af) (dg:Sl S h G4 aj p0_w.b.Ag) (dh:Sl S h DI ak p0_w.b.Aj) (di:Sl S h AC am p0_w.b.Al) (b9:AB p0_w.b.Q) (ar:Sl S h AC U p0_w.in_.Aa) (ca:Sl S h Gt V p0_w.in_.Ai) (cb:Sl S h J6 W p0_w.in_.Ak) (cc:Sl S h Gs X p0_w.in_.Ab) (cd:Sl S h HJ Y p0_w.in_.Ae) (ce:AB p0_w.s.B) (a2:Sl S h AS z p0_w.s.E) {r:(List (List Int))×(List Int)×(List AJ)}(E:It N p0_w=some r):
 B3 prog 81 #[vP u 0] S h (λv S' h'=>∃a4 a5 a6:Value,v= .tuple #[]∧St S' (Bx u 160 [.string p0_w.b.J,ac,vI p0_w.b.P,af,ag,ah,ai,aj,ak,am,vI p0_w.b.Q,U,V,W,X,Y,vI p0_w.s.B,a4,c,z,d,a5,g,a6,k,p]::OO AC 3 29 a4 r.1::OS AC 3 c p0_w.s.M::OS BL 106 d p0_w.s.O::OS AC 3 a5 r.2.1::OS AC 3 g p0_w.s.L::OS BD 74 a6 r.2.2::OS AC 3 k p0_w.peaks::OS AS 121 p p0_w.sent::L) h'):=by
 refine BA 137 func81 O ntmps81 O λB=>?_;rw[It] at E;refine AU ?_;refine gQ hs (mt mh) O H6.1 O λb1=>AU ?_;refine AO (λa w=>∃(i2:Int),IV B S h (137,[]) a w [(0,vP u 0),(2,vI i2)] (Bx u 160 [.string p0_w.b.J,ac,vI p0_w.b.P,af,ag,ah,ai,aj,ak,am,vI p0_w.b.Q,U,V,W,X,Y,vI p0_w.s.B,q,c,z,d,t,g,Z,k,p]::OO AC 3 29 q p0_w.s.D::OS AC 3 c p0_w.s.M::OS BL 106 d p0_w.s.O::OS AC 3 t p0_w.s.N::OS AC 3 g p0_w.s.L::OS BD 74 Z p0_w.moves::OS AC 3 k p0_w.peaks::OS AS 121 p p0_w.sent::L) λ_ _=>AB i2∧D6 N p0_w i2=some r) ?_ ?_
 ·refine AX (λn1=>λa w=>∃(i8:Int) (bk:Int),IV B S h (137,[]) a w [(16,vI (↑p0_w.s.D.length:Int)),(15,q),(0,vP u 0),(2,vI i8),(17,vI bk)] (Bx u 160 [.string p0_w.b.J,ac,vI p0_w.b.P,af,ag,ah,ai,aj,ak,am,vI p0_w.b.Q,U,V,W,X,Y,vI p0_w.s.B,q,c,z,d,t,g,Z,k,p]::OO AC 3 29 q p0_w.s.D::OS AC 3 c p0_w.s.M::OS BL 106 d p0_w.s.O::OS AC 3 t p0_w.s.N::OS AC 3 g p0_w.s.L::OS BD 74 Z p0_w.moves::OS AC 3 k p0_w.peaks::OS AS 121 p p0_w.sent::L) λ_ _=>AB i8∧AB bk∧D4 N p0_w (D6 N p0_w) n1 i8 bk=some r) N ?_ ?_ ?_
  ·intro aa ww hf hw;exact⟨0,0,_,_,hf.sub (kp [16,15,0,2,17] O),hw,hs,(B9.refl S h),(iq (n:=0) O),(iq (n:=0) O),E⟩
  ·rintro aa ww ⟨_,_,_,_,_,_,_,_,_,_,E⟩;rw[D4] at E;cases E
  rintro n1 aa ww ⟨i8,bk,hd,he,hf,hw,a7,e6,r9,hg,E⟩;refine AK ?_ hf hw;clear hf hw ww aa;rw[D4] at E;refine AU ?_;refine AH O E (λe7 E=>?_) (λe7 E=>?_)
  ·refine AU ?_;refine AY (AU ?_);obtain⟨hi,dj,E⟩:=bd E;refine Q9 (r:=AC) a7 (mt mh) O O H6.1 dj O λhj dk=>?_;obtain⟨hk,dl,E⟩:=bd E;refine VX (r:=AC) LD a7 (mt mh) O dl dk G6.1 O λhl fs e8=>AU ?_;refine BY (.inl O) a7 (AU ?_);refine B7 E O O O K2 O (λdm dn h' o=>Cn (St.all h') (e8.mono (λb hb=>Aa9 hb o.siz) (λb hb=>o.same b hb)) dn) λdm E e9=>?_;have hm:=e9;refine AU ?_;refine BJ (kp [2,16,15,0,17] O) λhn dp ho=>BE (AU ?_);refine WF.nil (λaa ww hf hw=>?_);exact⟨(BC (i8+dm)),(BC (bk+1)),_,_,hf.sub (kp [16,15,0,2,17] O),hw,dp,EX,(BH _),(BH _),E⟩
  refine BB O (λaa ww hf hw=>?_);exact⟨i8,_,_,hf.sub (kp [0,2] O),hw,a7,e6,r9,E⟩
 rintro aa ww ⟨i2,cf,cg,hf,hw,dq,fa,r3,E⟩;refine AK ?_ hf hw;clear hf hw ww aa;rw[D6] at E;have fb:=a2.mono' fa;refine AU ?_;refine AO (λa w=>∃(bl:Int),IV B cf cg (137,[]) a w [(0,vP u 0),(2,vI bl)] (Bx u 160 [.string p0_w.b.J,ac,vI p0_w.b.P,af,ag,ah,ai,aj,ak,am,vI p0_w.b.Q,U,V,W,X,Y,vI p0_w.s.B,q,c,z,d,t,g,Z,k,p]::OO AC 3 29 q p0_w.s.D::OS AC 3 c p0_w.s.M::OS BL 106 d p0_w.s.O::OS AC 3 t p0_w.s.N::OS AC 3 g p0_w.s.L::OS BD 74 Z p0_w.moves::OS AC 3 k p0_w.peaks::OS AS 121 p p0_w.sent::L) λ_ _=>AB bl∧D5 N p0_w bl=some r) ?_ ?_
 ·refine AX (λn3=>λa w=>∃(bj:Int) (bm:Int),IV B cf cg (137,[]) a w [(31,vI (↑p0_w.s.E.length:Int)),(30,z),(0,vP u 0),(2,vI bj),(32,vI bm)] (Bx u 160 [.string p0_w.b.J,ac,vI p0_w.b.P,af,ag,ah,ai,aj,ak,am,vI p0_w.b.Q,U,V,W,X,Y,vI p0_w.s.B,q,c,z,d,t,g,Z,k,p]::OO AC 3 29 q p0_w.s.D::OS AC 3 c p0_w.s.M::OS BL 106 d p0_w.s.O::OS AC 3 t p0_w.s.N::OS AC 3 g p0_w.s.L::OS BD 74 Z p0_w.moves::OS AC 3 k p0_w.peaks::OS AS 121 p p0_w.sent::L) λ_ _=>AB bj∧AB bm∧D3 N p0_w (D5 N p0_w) n3 bj bm=some r) N ?_ ?_ ?_
  ·intro aa ww hf hw;exact⟨i2,0,_,_,hf.sub (kp [31,30,0,2,32] O),hw,dq,(B9.refl cf cg),r3,(iq (n:=0) O),E⟩
  ·rintro aa ww ⟨_,_,_,_,_,_,_,_,_,_,E⟩;rw[D3] at E;cases E
  rintro n3 aa ww ⟨bj,bm,hp,hq,hf,hw,b2,dr,fc,hr,E⟩;refine AK ?_ hf hw;clear hf hw ww aa;rw[D3] at E;refine AU ?_;refine AH O E (λfd E=>?_) (λfd E=>?_)
  ·refine AU ?_;refine AY (AU ?_);have fe:=fb.mono' dr;refine A6 E O O fe Ki.1 O λht E hu ff=>?_;obtain⟨hv,_,fg⟩:=ff.lv;refine AU ?_;refine CF Oj O b2 λhx hy ds fh=>?_;have fi:=fg.mono fh;obtain⟨hz,rfl,h0,h1,fj⟩:=AS.ex fi;refine DL O O O ON Ot.1 O ds .head O λh2 b3 fk=>AU ?_;refine BY (.inl O) b3 (AU ?_);have fl:=fj.mono' fk;refine B7 E O O O K2 O (λdt du h' o=>Cn (St.all h') (fl.mono' (o.all b3.1)) du) λdt E fm=>?_;have h3:=fm;refine AU ?_;refine BJ (kp [2,31,30,0,32] O) λh4 dv h5=>BE (AU ?_);refine WF.nil (λaa ww hf hw=>?_);have dw:=dv.sel [1,1,1,1,1,1,1,1,1] 1 O;exact⟨(BC (bj+dt)),(BC (bm+1)),_,_,hf.sub (kp [31,30,0,2,32] O),hw,dw,EX,(BH _),(BH _),E⟩
  refine BB O (λaa ww hf hw=>?_);exact⟨bj,_,_,hf.sub (kp [0,2] O),hw,b2,dr,fc,E⟩
 rintro aa ww ⟨bl,dx,h6,hf,hw,b4,h7,fn,E⟩;refine AK ?_ hf hw;clear hf hw ww aa;rw[D5] at E;refine AU ?_;refine BY (.inl O) b4 (AU ?_);refine B7 E O O O K2 O (λdy dz h' o=>Cn (St.all h') ((b4.oslAll (mt (mt (mt (mt mh))))).mono (λb hb=>Aa9 hb o.siz) (λb hb=>o.same b hb)) dz) λdy E fo=>?_;have fp:=fo;refine AU ?_;refine BJ (kp [7,0,2] O) λd0 d1 h8=>?_;have h9:=bi.nw;refine AU ?_;refine AY (AX (λn4=>λa w=>∃(an:Int) (ao:Int) (H:Int) (au:Value) (ap:List AJ) (av:List (List Int)) (aq:List Int),IV B dx d0 (137,[]) a w [(53,vI (↑p0_w.b.A.length:Int)),(0,vP u 0),(2,vI an),(7,vI ao),(54,vI H)] (OS BD 74 au ap::Bx u 160 [.string p0_w.b.J,ac,vI p0_w.b.P,af,ag,ah,ai,aj,ak,am,vI p0_w.b.Q,U,V,W,X,Y,vI p0_w.s.B,q,c,z,d,t,g,au,k,p]::OO AC 3 29 q av::OS AC 3 c p0_w.s.M::OS BL 106 d p0_w.s.O::OS AC 3 t aq::OS AC 3 g p0_w.s.L::OS AC 3 k p0_w.peaks::OS AS 121 p p0_w.sent::L) λ_ _=>AB an∧AB ao∧AB H∧Cs N p0_w n4 an ao H ap av aq=some r) N ?_ ?_ ?_)
 ·intro aa ww hf hw;have ch:=d1.sel [6,0,0,0,0,0,0,0,0] 0 O;exact⟨bl,dy,0,Z,p0_w.moves,p0_w.s.D,p0_w.s.N,_,_,hf.sub (kp [53,0,2,7,54] O),hw,ch,(B9.refl dx d0),fn,fp,(iq (n:=0) O),E⟩
 ·rintro aa ww ⟨_,_,_,_,_,_,_,_,_,_,_,_,_,_,_,_,E⟩;rw[Cs] at E;cases E
 rintro n4 aa ww ⟨an,ao,H,au,ap,av,aq,a8,a9,hf,hw,a3,ft,d2,d3,fu,E⟩;refine AK ?_ hf hw;clear hf hw ww aa;rw[Cs] at E;refine AU ?_;refine AH O E (λd4 E=>?_) (λd4 E=>?_)
 ·refine AU ?_;refine AO (λa w=>∃(az:Int) (a0:Int) (ba:Value) (bb:List AJ) (bc:List (List Int)) (be:List Int),IV B a8 a9 (137,[]) a w [(53,vI (↑p0_w.b.A.length:Int)),(0,vP u 0),(54,vI H),(2,vI az),(7,vI a0)] (OS BD 74 ba bb::Bx u 160 [.string p0_w.b.J,ac,vI p0_w.b.P,af,ag,ah,ai,aj,ak,am,vI p0_w.b.Q,U,V,W,X,Y,vI p0_w.s.B,q,c,z,d,t,g,ba,k,p]::OO AC 3 29 q bc::OS AC 3 c p0_w.s.M::OS BL 106 d p0_w.s.O::OS AC 3 t be::OS AC 3 g p0_w.s.L::OS AC 3 k p0_w.peaks::OS AS 121 p p0_w.sent::L) λ_ _=>AB az∧AB a0∧Fd N H (Cs N p0_w n4) az a0 bb bc be=some r) ?_ ?_
  ·have fv:=ar.nw;refine AU ?_;refine HI (λa w=>∃(ab:Int),IV B a8 a9 (137,[]) a w [(8,vI H),(53,vI (↑p0_w.b.A.length:Int)),(0,vP u 0),(2,vI an),(7,vI ao),(54,vI H),(9,vI ab)] (OS BD 74 au ap::Bx u 160 [.string p0_w.b.J,ac,vI p0_w.b.P,af,ag,ah,ai,aj,ak,am,vI p0_w.b.Q,U,V,W,X,Y,vI p0_w.s.B,q,c,z,d,t,g,au,k,p]::OO AC 3 29 q av::OS AC 3 c p0_w.s.M::OS BL 106 d p0_w.s.O::OS AC 3 t aq::OS AC 3 g p0_w.s.L::OS AC 3 k p0_w.peaks::OS AS 121 p p0_w.sent::L) λ_ _=>AB ab∧Gx N p0_w an ao H ap av aq (Fd N H (Cs N p0_w n4)) ab=some r) ?_ ?_
   ·refine AH O E (λd5 E=>?_) (λd5 E=>?_)
    ·refine AU ?_;have d6:=ar.nw;refine A6 E O O d6 Ct.1 O λd7 E fw d8=>?_;have d9:=d8.i;refine AU ?_;refine lI O O O O (AU ?_);refine WF.nil (λaa ww hf hw=>?_);exact⟨(min (min d7 (BC (1125899906842624-an))) (BC (1152921504606846976-ao))),_,_,hf.sub (kp [8,53,0,2,7,54,9] O),hw,a3,(B9.refl a8 a9),(Ni (Ni d9 (BH _)) (BH _)),E⟩
    refine AU ?_;refine WF.nil (λaa ww hf hw=>?_);exact⟨0,_,_,hf.sub (kp [8,53,0,2,7,54,9] O),hw,a3,(B9.refl a8 a9),(iq (n:=0) O),E⟩
   rintro aa ww ⟨ab,fx,fy,hf,hw,ax,ea,eb,E⟩;refine AK ?_ hf hw;clear hf hw ww aa;rw[Gx] at E;refine AU ?_;refine AH O E (λec E=>?_) (λec E=>?_)
   ·refine BB O (λaa ww hf hw=>?_);exact⟨an,ao,au,ap,av,aq,_,_,hf.sub (kp [53,0,54,2,7] O),hw,ax,ea,d2,d3,E⟩
   refine AU ?_;obtain⟨f0,ci,E⟩:=bd E;refine Q9 (r:=AC) ax (mt (mt mh)) O O H6.1 ci O λf1 bn=>?_;obtain⟨ed,bo,E⟩:=bd E;refine VX (r:=AC) LD ax (mt (mt mh)) O bo bn G6.1 O λf2 cj b5=>?_;obtain⟨bp,ck,E⟩:=bd E;refine Yx O O b5 Ct.1 ck O λf3 ee e5=>Gf LD (λ_ x=>x) O ee HA.1 O λf4=>AU ?_;obtain⟨f5,bq,E⟩:=bd E;refine Yx O O b5 Ct.1 bq O λf6 f7 bx=>AU ?_;have cl:=ax.pick (.tail (.tail .head));refine lX (r:=AC) (i:=H) (j:=0) (y:=(BC (bp+ab))) O O (⟨_,O,O,(BH _)⟩:Rd _ _ AC _ (BC (bp+ab))) bn cj bx bo bq HA.1 (λ_=>rfl) cl λf8 ay f9=>AU ?_;obtain⟨ga,cm,E⟩:=bd E;refine BS ay (mt (mt (mt (mt (mt mh))))) O O Ct.1 cm O λgb cn=>?_;obtain⟨b6,co,E⟩:=bd E;have ef:=ay.epAt (mt (mt (mt (mt (mt mh))))) co F9.id cn;refine Gf LD (λ_ x=>x) O ef HA.1 O λgc=>AU ?_;obtain⟨gd,cp,E⟩:=bd E;refine BS ay (mt (mt (mt (mt (mt mh))))) O O Ct.1 cp O λge cq=>AU ?_;obtain⟨eg,cr,E⟩:=bd E;refine E9 (r:=AC) (l:=aq) (i:=0) (x:=eg) O O (⟨_,O,O,(BH _)⟩:Rd _ _ AC _ (BC (b6+ab))) cq cr NT.id HA.1 (λ_=>rfl) ay (.tail (.tail (.tail (.tail (.tail .head))))) λgf ct gg=>?_;have gh:=bh.nw;refine AU ?_;obtain⟨cu,E⟩:=LQ E;refine J9 (r:=AC) (zx:=0) HZ O ⟨O,by unfold AB;omega⟩ O O cu O O ct λeh gi br gj=>AU ?_;obtain⟨gl,cv,E⟩:=bd E;refine BS br mh O O Ct.1 cv O λgm cw=>AU ?_;obtain⟨ei,cx,E⟩:=bd E;refine E9 (r:=AC) (l:=(List.replicate ((↑p0_w.b.F.length:Int):Int).toNat (0:Int))) (i:=0) (x:=ei) O O (⟨_,O,O,eb⟩:Rd _ _ AC _ ab) cw cx NT.id HA.1 (λ_=>rfl) br .head λb7 cy gn=>AU ?_;obtain⟨bs,aw,gp,ej⟩:=cy.pubs .head;refine Tb (m:=[(10,eh),(7,vI (BC (ao+ab))),(2,vI (BC (an+ab))),(8,vI H),(53,vI (↑p0_w.b.A.length:Int)),(0,vP u 0),(54,vI H)]) 14 [0] (λi v hh=>match i with|0=>v=vP u 0|1=>v=vP u 0|2=>v=vP u 0|3=>v=vP u 23|4=>v=au|5=>v=vP u 0|6=>v=vP u 0|7=>v=vP u 16|8=>v=vP u 16|9=>v=vI p0_w.s.B∧AB p0_w.s.B|10=>v=vI H∧AB H|11=>Sl bs hh AC v (upd (List.replicate ((↑p0_w.b.F.length:Int):Int).toNat (0:Int)) 0 ab)|12=>Rd bs hh BD v (⟨p0_w.s.B,(-1),H,(-4),(upd (List.replicate ((↑p0_w.b.F.length:Int):Int).toNat (0:Int)) 0 ab)⟩:AJ)|13=>Sl (SN bs b7 hh) hh BD v ([(⟨p0_w.s.B,(-1),H,(-4),(upd (List.replicate ((↑p0_w.b.F.length:Int):Int).toNat (0:Int)) 0 ab)⟩:AJ)]:List AJ)∧∃ad,v= .slice (some ad) 1 1|_=>False) [[],[],[(1,120)],[(2,121)],[(3,122)],[],[(5,124)],[(6,125)],[(7,126)],[(8,127)],[],[],[(9,128),(10,129),(11,130)],[(12,131)]] [(0,119),(4,123),(13,132)] mo (by kernel_rfl) [10,7,2,8,53,0,54] O (by kernel_rfl) (by kernel_rfl) (by kernel_rfl) (kp [10,7,2,8,53,0,54] O) MO ?_ ?_ ?_
   ·refine Ro.cons [] (by kernel_rfl) O O (by kernel_rfl) ?_ ?_
    ·intro mq hh o;intro a hf;exact⟨vP u 0,Jv hf O,O⟩
    exact trivial
   ·refine AQ.cons O D8 (AQ.cons O D8 (AQ.cons O D8 (AQ.cons O D8 (AQ.cons O D8 (AQ.cons O D8 (AQ.cons O D8 (AQ.cons O D8 (AQ.cons O D8 (AQ.cons O D8 (AQ.cons O D8 (AQ.cons O ?_ ?_)))))))))))
    ·intro mq hh o;have cz:=o.st aw;refine AU ?_;have ek:=ej.mono' (o.ext aw.1);exact A5 ek
    refine AQ.cons O ?_ ?_
    ·intro mq hh o;intro gq el gr em en bf;have cz:=o.st aw;obtain⟨rfl,eo⟩:=el;obtain⟨rfl,ep⟩:=em;have bf:Sl _ _ AC en (upd (List.replicate ((↑p0_w.b.F.length:Int):Int).toNat (0:Int)) 0 ab):=bf;refine AU ?_;obtain⟨c0,bz,rfl,gs⟩:=(bf).len;refine FY (cs:=[vI p0_w.s.B,vI (-1),vI H,vI (-4),(.slice c0 (upd (List.replicate ((↑p0_w.b.F.length:Int):Int).toNat (0:Int)) 0 ab).length bz)]) UB O O O (AU ?_);exact A5 (BD.mk (x:=(⟨p0_w.s.B,(-1),H,(-4),(upd (List.replicate ((↑p0_w.b.F.length:Int):Int).toNat (0:Int)) 0 ab)⟩:AJ)) eo (iq (n:=(-1)) O) ep (iq (n:=(-4)) O) bf)
    refine AQ.cons O ?_ ?_
    ·intro mq hh o;intro eq a1;have cz:=SN.st aw o;have a1:=Rd.sn b7 a1;have a1:Rd _ _ BD eq (⟨p0_w.s.B,(-1),H,(-4),(upd (List.replicate ((↑p0_w.b.F.length:Int):Int).toNat (0:Int)) 0 ab)⟩:AJ):=a1;have fq:=cz.fz;obtain⟨gt,rfl,er,es,eu,ev,b8⟩:=BD.ex a1;obtain⟨c1,b0,rfl,gu⟩:=(b8).len;refine Dn (cs:=[vI ((⟨p0_w.s.B,(-1),H,(-4),(upd (List.replicate ((↑p0_w.b.F.length:Int):Int).toNat (0:Int)) 0 ab)⟩:AJ).B),vI ((⟨p0_w.s.B,(-1),H,(-4),(upd (List.replicate ((↑p0_w.b.F.length:Int):Int).toNat (0:Int)) 0 ab)⟩:AJ).I),vI ((⟨p0_w.s.B,(-1),H,(-4),(upd (List.replicate ((↑p0_w.b.F.length:Int):Int).toNat (0:Int)) 0 ab)⟩:AJ).C),vI ((⟨p0_w.s.B,(-1),H,(-4),(upd (List.replicate ((↑p0_w.b.F.length:Int):Int).toNat (0:Int)) 0 ab)⟩:AJ).Bd),(.slice c1 ((⟨p0_w.s.B,(-1),H,(-4),(upd (List.replicate ((↑p0_w.b.F.length:Int):Int).toNat (0:Int)) 0 ab)⟩:AJ).K).length b0)]) PC O O O O O O O fq λgv gw c2 ew=>?_;have ey:=b8.mono' ew;have c3:=c2.bxos (r:=BD) (l:=([(⟨p0_w.s.B,(-1),H,(-4),(upd (List.replicate ((↑p0_w.b.F.length:Int):Int).toNat (0:Int)) 0 ab)⟩:AJ)]:List AJ)) .head ⟨_,_,O,⟨_,O,er,es,eu,ev,ey⟩,O⟩ (by simp [maxLen]);obtain⟨gx,c4,gy,ez⟩:=c3.pubs .head;have bt:=Fz.done o EX c4;exact A9 bt.1 ⟨Sl.mono' ez bt.2,_,O⟩
    exact trivial
   intro gz e0 g0 e1 g1 e2 g2 bu;have c5:=SN.st aw e0;cases e1;cases e2;obtain⟨bu,fr,rfl⟩:=bu;obtain⟨c6,E⟩:=LQ E;refine Io (r:=BD) (l:=ap) (xs:=([(⟨p0_w.s.B,(-1),H,(-4),(upd (List.replicate ((↑p0_w.b.F.length:Int):Int).toNat (0:Int)) 0 ab)⟩:AJ)]:List AJ)) O O PC O (Sl.src bu) O c6 O c5 (λ_=>(.tail .head)) λg3 g4 bv g5=>AU ?_;obtain⟨bw,bg,rfl,g6⟩:=bv.oslen (mt mh);refine Dt (cs':=[.string p0_w.b.J,ac,vI p0_w.b.P,af,ag,ah,ai,aj,ak,am,vI p0_w.b.Q,U,V,W,X,Y,vI p0_w.s.B,q,c,z,d,t,g,(.slice bw (ap++([(⟨p0_w.s.B,(-1),H,(-4),(upd (List.replicate ((↑p0_w.b.F.length:Int):Int).toNat (0:Int)) 0 ab)⟩:AJ)]:List AJ)).length bg),k,p]) O O O O aP.1 O bv (.tail (.tail .head)) O O λg7 c7 g8=>AU ?_;refine WF.nil (λaa ww hf hw=>?_);have c8:=c7.sel [1,1,0,0,0,0,0,0,0] 0 O;exact⟨(BC (an+ab)),(BC (ao+ab)),(.slice bw (ap++([(⟨p0_w.s.B,(-1),H,(-4),(upd (List.replicate ((↑p0_w.b.F.length:Int):Int).toNat (0:Int)) 0 ab)⟩:AJ)]:List AJ)).length bg),(ap++([(⟨p0_w.s.B,(-1),H,(-4),(upd (List.replicate ((↑p0_w.b.F.length:Int):Int).toNat (0:Int)) 0 ab)⟩:AJ)]:List AJ)),(upd av H (upd ed 0 (BC (bp+ab)))),(upd aq 0 (BC (b6+ab))),_,_,hf.sub (kp [53,0,54,2,7] O),hw,c8,EX,(BH _),(BH _),E⟩
  rintro aa ww ⟨az,a0,ba,bb,bc,be,g9,ha,hf,hw,c9,hc,e3,e4,E⟩;refine AK ?_ hf hw;clear hf hw ww aa;rw[Fd] at E;refine AU ?_;refine WF.nil (λaa ww hf hw=>?_);exact⟨az,a0,(BC (H+1)),ba,bb,bc,be,_,_,hf.sub (kp [53,0,2,7,54] O),hw,c9,EX,e3,e4,(BH _),E⟩
 refine KN O (WF.nil (λaa ww hf hw=>?_));have da:=a3.sel [1,1,1,1,1,1,0,0,0] 0 O;cases E;exact JA hf O hw I9 O EX ⟨_,_,_,O,da⟩
def MM (hs:St S L h) {j:Value}{b:(List Int)}(s:Sl S h AC j b) {d:Value}{c:(List Int)}(t:Sl S h AC d c) {r:(List Int)}(E:Ey N b c=some r):
 B3 prog 30 #[j,d] S h (λv S' h'=>St S' (OS AC 3 v r::L) h'):=by
 refine BA 35 func30 O ntmps30 O λB=>?_;rw[Ey] at E;refine AU ?_;refine Td O O O (AU ?_);obtain⟨X,E⟩:=LQ E;refine J9 (r:=AC) (zx:=0) HZ O ⟨O,by unfold AB;omega⟩ O O X O O hs λW h5 Y e7=>AU ?_;have k8:=s.mono' e7;refine Vb (r:=AC) (l:=(List.replicate ((max (↑b.length:Int) (↑c.length:Int)):Int).toNat (0:Int))) (xs:=b) O O Ct.1 (Sl.src k8) O Y .head λZ D al=>?_;have ab:=t.nw;refine AU ?_;refine AO (λa w=>∃(y:List Int),IV B S Z (35,[]) a w [(5,W)] (OS AC 3 W y::L) λ_ _=>HQ N y=some r) ?_ ?_
 ·refine AX (λn1=>λa w=>∃(g:Int) (m:List Int),IV B S Z (35,[]) a w [(18,vI (↑c.length:Int)),(17,d),(5,W),(19,vI g)] (OS AC 3 W m::L) λ_ _=>AB g∧FB N c (HQ N) n1 g m=some r) N ?_ ?_ ?_
  ·intro z A o q;exact⟨0,(Pj (List.replicate ((max (↑b.length:Int) (↑c.length:Int)):Int).toNat (0:Int)) b),_,_,o.sub (kp [18,17,5,19] O),q,D,(B9.refl S Z),(iq (n:=0) O),E⟩
  ·rintro z A ⟨_,_,_,_,_,_,_,_,_,E⟩;rw[FB] at E;cases E
  rintro n1 z A ⟨g,m,am,an,o,q,k,F,ao,E⟩;refine AK ?_ o q;clear o q A z;rw[FB] at E;refine AU ?_;refine AH O E (λac E=>?_) (λac E=>?_)
  ·refine AU ?_;refine AY (AU ?_);have ad:=ab.mono' F;refine A6 E O O ad Ct.1 O λap E aq ae=>?_;have af:=ae.i;refine AU ?_;refine Bv (AU ?_);obtain⟨ar,G,E⟩:=bd E;refine BS k mh O O Ct.1 G O λau H=>?_;obtain⟨av,I,E⟩:=bd E;have ag:=k.epAt mh I F9.id H;refine Gf LD (λ_ x=>x) O ag HA.1 O λah=>AU ?_;refine CQ E O O O R6 O k (λC J=>H1 (St.all _) ah af J) λC E aw ax ay u az a0 p=>?_;obtain⟨rfl,ai,ak⟩:=p;refine AU ?_;obtain⟨a1,K,E⟩:=bd E;refine BS u mh O O Ct.1 K O λa2 M=>AU ?_;obtain⟨aj,Q,E⟩:=bd E;refine E9 (r:=AC) (l:=m) (i:=g) (x:=aj) O O (⟨_,O,O,ai⟩:Rd _ _ AC _ C) M Q NT.id HA.1 (λ_=>rfl) u .head λa3 U a4=>AU ?_;refine BE (AU ?_);refine WF.nil (λz A o q=>?_);exact⟨(BC (g+1)),(upd m g C),_,_,o.sub (kp [18,17,5,19] O),q,U,EX,(BH _),E⟩
  refine BB O (λz A o q=>?_);exact⟨m,_,_,o.sub (kp [5] O),q,k,F,E⟩
 rintro z A ⟨y,a5,a6,o,q,V,a7,E⟩;refine AK ?_ o q;clear o q A z;rw[HQ] at E;refine AU ?_;cases E;exact Kk V O O EX
def Ts (hs:St S L h) {d:Value}{u:(List AM)}(ai:Sl S h AS d u) {b:Int}(a9:AB b) {z:Int}(J:AB z) {A:Int}(M:AB A) {r:(List (List Int))×(List AM)}(E:Ls N u b z A=some r):
 B3 prog 162 #[d,vI b,vI z,vI A] S h (λv S' h'=>∃b9 ca:Value,v= .tuple #[b9,ca]∧St S' (OS (A4.sl AC) 29 b9 r.1::OS AS 121 ca r.2::L) h'):=by
 refine BA 79 func162 O ntmps162 O λB=>?_;rw[Ls] at E;refine AU ?_;refine BY (.inl O) hs (AU ?_);refine B7 E O O O VK O (λy1 ds h' o=>KR (St.all h') J (iq (n:=0) O) (iq (n:=64) O) ds) λy1 E r2=>?_;have r3:=r2;refine AU ?_;refine BJ (kp [2,0,1,3] O) λh4 dt e6=>AU ?_;refine BY (.inl O) dt (AU ?_);refine B7 E O O O VK O (λy7 du h' o=>KR (St.all h') M (iq (n:=0) O) (iq (n:=16) O) du) λy7 E r8=>?_;have r9:=r8;refine AU ?_;refine BJ (kp [3,2,0,1] O) λft cb fu=>AU ?_;obtain⟨cc,E⟩:=LQ E;refine J9 (r:=(A4.sl AC)) (zx:=[]) Mo O ⟨_,O,.inl ⟨O,O⟩⟩ O O cc O O cb λt ba cd fv=>AU ?_;refine AO (λa w=>∃(ax:List (List Int)),IV B S ba (79,[]) a w [(8,t),(2,vI y1),(0,d),(1,vI b)] (OS (A4.sl AC) 29 t ax::L) λ_ _=>Gn N u b y1 ax=some r) ?_ ?_
 ·refine AX (λn1=>λa w=>∃(ac:Int) (ak:List (List Int)),IV B S ba (79,[]) a w [(20,vI (↑(List.replicate (y1:Int).toNat ([]:(List Int))).length:Int)),(8,t),(3,vI y7),(2,vI y1),(0,d),(1,vI b),(21,vI ac)] (OS (A4.sl AC) 29 t ak::L) λ_ _=>AB ac∧Gm N y1 y7 (Gn N u b y1) n1 ac ak=some r) N ?_ ?_ ?_
  ·intro H I s y;exact⟨0,(List.replicate (y1:Int).toNat ([]:(List Int))),_,_,s.sub (kp [20,8,3,2,0,1,21] O),y,cd,(B9.refl S ba),(iq (n:=0) O),E⟩
  ·rintro H I ⟨_,_,_,_,_,_,_,_,_,E⟩;rw[Gm] at E;cases E
  rintro n1 H I ⟨ac,ak,fw,fx,s,y,a3,dv,fy,E⟩;refine AK ?_ s y;clear s y I H;rw[Gm] at E;refine AU ?_;refine AH O E (λdw E=>?_) (λdw E=>?_)
  ·refine AU ?_;refine AY (AU ?_);obtain⟨ce,E⟩:=LQ E;refine J9 (r:=AC) (zx:=0) HZ O ⟨O,by unfold AB;omega⟩ O O ce O O a3 λf0 f1 a4 f2=>AU ?_;obtain⟨f3,cf,E⟩:=bd E;refine BS a4 (mt mh) O O H6.1 cf O λf4 cg=>AU ?_;obtain⟨dx,ch,E⟩:=bd E;obtain⟨f5,ci,f6,dy⟩:=a4.pubs .head;refine E9 (r:=(A4.sl AC)) (l:=ak) (i:=ac) (x:=dx) O O (OC dy) cg ch NT.id G6.1 (λ_=>rfl) ci .head λf7 cj f8=>AU ?_;refine BE (AU ?_);refine WF.nil (λH I s y=>?_);exact⟨(BC (ac+1)),(upd ak ac (List.replicate (y7:Int).toNat (0:Int))),_,_,s.sub (kp [20,8,3,2,0,1,21] O),y,cj,EX,(BH _),E⟩
  refine BB O (λH I s y=>?_);exact⟨ak,_,_,s.sub (kp [8,2,0,1] O),y,a3,dv,E⟩
 rintro H I ⟨ax,bb,bc,s,y,ck,f9,E⟩;refine AK ?_ s y;clear s y I H;rw[Gn] at E;have dz:=ai.nw;refine AU ?_;refine LU 1 (lE O O O dz Ki.1 O λa5=>AU ?_);have cl:=ck.zs AS 121 a5;have d0:=ai.nw;refine AU ?_;refine AO (λa w=>∃(be:Value) (bf:List AM) (bg:List (List Int)),IV B bb bc (79,[]) a w [(8,t),(9,be)] (OS AS 121 be bf::OS (A4.sl AC) 29 t bg::L) λ_ _=>IB N bf bg=some r) ?_ ?_
 ·refine AX (λn3=>λa w=>∃(U:Value) (af:List AM) (Q:Int) (ag:List (List Int)),IV B bb bc (79,[]) a w [(33,vI (↑u.length:Int)),(32,d),(8,t),(2,vI y1),(1,vI b),(9,U),(34,vI Q)] (OS AS 121 U af::OS (A4.sl AC) 29 t ag::L) λ_ _=>AB Q∧Fw N u b y1 (IB N) n3 af Q ag=some r) N ?_ ?_ ?_
  ·intro H I s y;exact⟨(.slice a5 0 0),([]:List AM),0,ax,_,_,s.sub (kp [33,32,8,2,1,9,34] O),y,cl,(B9.refl bb bc),(iq (n:=0) O),E⟩
  ·rintro H I ⟨_,_,_,_,_,_,_,_,_,_,_,E⟩;rw[Fw] at E;cases E
  rintro n3 H I ⟨U,af,Q,ag,V,d1,s,y,a6,cm,ga,E⟩;refine AK ?_ s y;clear s y I H;rw[Fw] at E;refine AU ?_;refine AH O E (λd2 E=>?_) (λd2 E=>?_)
  ·refine AU ?_;refine AO (λa w=>∃(ay:Value) (az:List AM) (a0:List (List Int)),IV B V d1 (79,[]) a w [(33,vI (↑u.length:Int)),(32,d),(8,t),(2,vI y1),(1,vI b),(34,vI Q),(9,ay)] (OS AS 121 ay az::OS (A4.sl AC) 29 t a0::L) λ_ _=>Jo N Q (Fw N u b y1 (IB N) n3) az a0=some r) ?_ ?_
   ·refine AU ?_;have d3:=d0.mono' cm;refine A6 E O O d3 Ki.1 O λc E gb d4=>?_;obtain⟨gc,_,d5⟩:=d4.lv;refine AU ?_;refine CF Oj O a6 λW gd cn d6=>?_;have d7:=d5.mono d6;obtain⟨ge,rfl,gf,gg,co⟩:=AS.ex d7;refine DL O O O ON Ot.1 O cn .head O λah j gh=>AU ?_;refine AH O E (λcp E=>?_) (λcp E=>?_)
    ·obtain ⟨ec,bh,E⟩:=bd E;obtain⟨a7,bi,E⟩:=bd E;obtain⟨am,bj,E⟩:=bd E;obtain⟨ed,bk,E⟩:=bd E;refine Ms (m:=[(12,vP W 0),(33,vI (↑u.length:Int)),(32,d),(8,t),(2,vI y1),(1,vI b),(9,U),(34,vI Q)]) 12 (λi v G=>match i with|0=>v=t|1=>v=vP W 1|2=>v=vI c.C∧AB c.C|3=>v=t|4=>v=vP W 1|5=>v=vI c.C∧AB c.C|6=>EP t (c.C.toNat*((A4.sl AC)).sz+0) v|7=>Sl V G AC v a7|8=>v=vP W 2|9=>Sl V G AC v c.K|10=>Sl (SN V ah G) G AC v am|11=>EP t (c.C.toNat*((A4.sl AC)).sz+0) v|_=>False) [[],[],[(1,54)],[],[],[(4,57)],[(3,56),(5,58)],[(6,59)],[],[(8,61)],[(7,60),(9,62)],[(0,53),(2,55)]] [(10,63),(11,64)] mo (by kernel_rfl) [12,33,32,8,2,1,9,34] O (by kernel_rfl) (by kernel_rfl) (by kernel_rfl) (kp [12,33,32,8,2,1,9,34] O) MO ?_ ?_
     ·refine AQ.cons O D8 (AQ.cons O D8 (AQ.cons O D8 (AQ.cons O D8 (AQ.cons O D8 (AQ.cons O D8 (AQ.cons O ?_ ?_))))))
      ·intro mq G o;intro ee cq ef cr;have D:=o.st j;cases cq;obtain⟨rfl,eg⟩:=cr;refine AU ?_;refine BS D (mt (mt mh)) O O H6.1 bh O λeh bl=>AU ?_;exact A5 bl
      refine AQ.cons O ?_ ?_
      ·intro mq G o;intro ei ct;have D:=o.st j;refine AU ?_;have cu:=D.epAt (mt (mt mh)) bi F9.id ct;refine JG LD (λ_ x=>x) O cu G6.1 O λej cv=>AU ?_;exact A5 cv
      refine AQ.cons O D8 (AQ.cons O ?_ ?_)
      ·intro mq G o;intro ek cw;have D:=o.st j;cases cw;refine AU ?_;have cx:=co.nw;exact A5 cx
      refine AQ.cons O ?_ ?_
      ·intro mq G o;intro cy X cz Y;have D:=SN.st j o;have X:=Sl.sn ah X;have X:Sl _ _ AC cy a7:=X;have Y:=Sl.sn ah Y;have Y:Sl _ _ AC cz c.K:=Y;have F:=D.fz;refine FA O O O Ya O F (MM (St.all _) (X.mono F.ea.1 F.ea.2) (Y.mono F.ea.1 F.ea.2) bj) λel em en d8 eo c0 p=>?_;have bm:=p;have an:=F.join c0 bm ⟨OS.flat (λ{_ _ _ _ _ _} k=>k),trivial⟩;simp only[Abw,Abj] at an;obtain⟨ep,bn,eq,c1⟩:=an.pubs .head;have ao:=Fz.done o EX bn;exact A9 ao.1 (Sl.mono' c1 ao.2)
      refine AQ.cons O ?_ ?_
      ·intro mq G o;intro er c2 es c3;have D:=o.st j;cases c2;obtain⟨rfl,eu⟩:=c3;refine AU ?_;refine BS D (mt (mt mh)) O O H6.1 bk O λev bo=>AU ?_;exact A5 bo
      exact trivial
     intro ew c4 c5 ap ey c6;have bp:=SN.st j c4;have ap:Sl _ _ AC c5 am:=ap;obtain⟨c7,bq,E⟩:=bd E;refine E9 (r:=(A4.sl AC)) (l:=ag) (i:=c.C) (x:=c7) O O (OC ap) c6 bq NT.id G6.1 (λ_=>rfl) bp (.tail (.tail .head)) λez br e0=>AU ?_;refine WF.nil (λH I s y=>?_);have bs:=br.sel [1,1] 1 O;exact⟨U,af,(upd ag c.C am),_,_,s.sub (kp [33,32,8,2,1,34,9] O),y,bs,EX,E⟩
    obtain⟨g,bt,E⟩:=bd E;refine Ms (m:=[(12,vP W 0),(33,vI (↑u.length:Int)),(32,d),(8,t),(2,vI y1),(1,vI b),(9,U),(34,vI Q)]) 10 (λi v G=>match i with|0=>v=U|1=>v=vP W 0|2=>v=vI c.Z∧AB c.Z|3=>v=vP W 1|4=>v=vI c.C∧AB c.C|5=>v=vP W 2|6=>Sl V G AC v c.K|7=>Sl (SN V ah G) G AC v g|8=>Rd (SN V ah G) G AS v ({ c with K:=g}:AM)|9=>Sl (SN V ah G) G AS v ([({ c with K:=g}:AM)]:List AM)∧∃ad,v= .slice (some ad) 1 1|_=>False) [[],[],[(1,66)],[],[(3,68)],[],[(5,70)],[(6,71)],[(2,67),(4,69),(7,72)],[(8,73)]] [(0,65),(9,74)] mo (by kernel_rfl) [12,33,32,8,2,1,9,34] O (by kernel_rfl) (by kernel_rfl) (by kernel_rfl) (kp [12,33,32,8,2,1,9,34] O) MO ?_ ?_
    ·refine AQ.cons O D8 (AQ.cons O D8 (AQ.cons O D8 (AQ.cons O D8 (AQ.cons O D8 (AQ.cons O D8 (AQ.cons O ?_ ?_))))))
     ·intro mq G o;intro e1 c8;have D:=o.st j;cases c8;refine AU ?_;have c9:=co.nw;exact A5 c9
     refine AQ.cons O ?_ ?_
     ·intro mq G o;intro da ab;have D:=SN.st j o;have ab:=Sl.sn ah ab;have ab:Sl _ _ AC da c.K:=ab;have F:=D.fz;refine FA O O O QR O F (Dp (St.all _) (ab.mono F.ea.1 F.ea.2) bt) λe2 e3 e4 d9 e5 db p=>?_;have bu:=p;have aq:=F.join db bu ⟨OS.flat (λ{_ _ _ _ _ _} k=>k),trivial⟩;simp only[Abw,Abj] at aq;obtain⟨e7,bv,e8,dc⟩:=aq.pubs .head;have ar:=Fz.done o EX bv;exact A9 ar.1 (Sl.mono' dc ar.2)
     refine AQ.cons O ?_ ?_
     ·intro mq G o;intro e9 dd fa de df aj;have D:=SN.st j o;obtain⟨rfl,dg⟩:=dd;obtain⟨rfl,dh⟩:=de;have aj:Sl _ _ AC df g:=aj;refine AU ?_;obtain⟨bw,a1,rfl,fb⟩:=(aj).len;refine FY (cs:=[vI c.Z,vI c.C,(.slice bw g.length a1)]) Ur O O O (AU ?_);exact A5 (AS.mk (x:=({ c with K:=g}:AM)) dg dh aj)
     refine AQ.cons O ?_ ?_
     ·intro mq G o;intro di au;have D:=SN.st j o;have au:Rd _ _ AS di ({ c with K:=g}:AM):=au;have F:=D.fz;obtain⟨fc,rfl,dj,dk,a8⟩:=AS.ex au;obtain⟨bx,a2,rfl,fd⟩:=(a8).len;refine Dn (cs:=[vI (({ c with K:=g}:AM).Z),vI (({ c with K:=g}:AM).C),(.slice bx (({ c with K:=g}:AM).K).length a2)]) P3 O O O O O O O F λfe ff bz dl=>?_;have dm:=a8.mono' dl;have b0:=bz.bxos (r:=AS) (l:=([({ c with K:=g}:AM)]:List AM)) .head ⟨_,_,O,⟨_,O,dj,dk,dm⟩,O⟩ (by simp [maxLen]);obtain⟨fg,b1,fh,dn⟩:=b0.pubs .head;have av:=Fz.done o EX b1;exact A9 av.1 ⟨Sl.mono' dn av.2,_,O⟩
     exact trivial
    intro fi dp fj dq fk aw;have b2:=SN.st j dp;cases dq;obtain⟨aw,eb,rfl⟩:=aw;obtain⟨b3,E⟩:=LQ E;refine Io (r:=AS) (l:=af) (xs:=([({ c with K:=g}:AM)]:List AM)) O O P3 O (Sl.src aw) O b3 O b2 (λ_=>(.tail .head)) λdr fl b4 fm=>AU ?_;refine WF.nil (λH I s y=>?_);have b5:=b4.sel [1,1] 1 O;exact⟨dr,(af++([({ c with K:=g}:AM)]:List AM)),ag,_,_,s.sub (kp [33,32,8,2,1,34,9] O),y,b5,EX,E⟩
   rintro H I ⟨ay,az,a0,fn,fo,s,y,b6,fp,E⟩;refine AK ?_ s y;clear s y I H;rw[Jo] at E;refine AU ?_;refine WF.nil (λH I s y=>?_);exact⟨ay,az,(BC (Q+1)),a0,_,_,s.sub (kp [33,32,8,2,1,9,34] O),y,b6,EX,(BH _),E⟩
  refine BB O (λH I s y=>?_);exact⟨U,af,ag,_,_,s.sub (kp [8,9] O),y,a6,cm,E⟩
 rintro H I ⟨be,bf,bg,fq,fr,s,y,b7,fs,E⟩;refine AK ?_ s y;clear s y I H;rw[IB] at E;refine AU ?_;refine Bu (λH I s y=>?_);have b8:=b7.sel [1,0] 0 O;cases E;exact JA s O y (G7 (IJ s (v:=_) O) (G7 (IJ s (v:=_) O) I9)) O EX ⟨_,_,O,b8⟩
def SH (hs:St S L h) {c:Value}{n:BO}(l:Rd S h B0 c n) {d:Value}{b:AT}(m:Rd S h BL d b) {k:Int}(K:AB k) {r:AT}(E:HO N n b k=some r):
 B3 prog 163 #[c,d,vI k] S h (λv S' h'=>v= .agg #[vI r.V,vI r.X,.bool r.At,.bool r.Am]∧AT.ok r∧St S' (L) h'):=by
 refine BA 24 func163 O ntmps163 O λB=>?_;rw[HO] at E;refine AU ?_;refine By O l CE O hs λq1 S2 h3 M e5 k6=>?_;have k7:=m.mono e5;obtain⟨rfl,⟨r9,u⟩⟩:=BL.ex k7;refine OG O O O M λx ab y ac=>CF P9 O y λz A g ad=>?_;have ae:=k6.nw;refine AU ?_;refine AH O E (λQ E=>?_) (λQ E=>?_)
 ·refine AU ?_;refine C7 O O O O Hs.1 O g .head O λaf C ag=>AU ?_;refine Bu (λs t i j=>?_);have o:=C.drop (.tail .head);have D:=o.drop .head;cases E;exact JA i O j (G7 (UC i j o O mh Hs.1 O) I9) O EX ⟨O,⟨r9,u⟩,D⟩
 refine AU ?_;refine AO (λa w=>∃(q:Bool),IV B S2 A (24,[]) a w [(6,vP z 0),(4,vP x 0)] (Bx z 106 [vI 0,vI 0,.bool false,.bool false]::Bx x 106 [vI b.V,vI b.X,.bool b.At,.bool q]::L) λ_ _=>Iv N b q=some r) ?_ ?_
 ·refine AU ?_;refine AH O E (λU E=>?_) (λU E=>?_)
  ·refine AU ?_;refine Dt (cs':=[vI b.V,vI b.X,.bool b.At,.bool true]) O O O O Qf.1 O g (.tail .head) O O λah F W=>AU ?_;refine WF.nil (λs t i j=>?_);exact⟨true,_,_,i.sub (kp [6,4] O),j,F,W,E⟩
  refine AU ?_;refine AH O E (λY E=>?_) (λY E=>?_)
  ·refine AU ?_;refine Dt (cs':=[vI b.V,vI b.X,.bool b.At,.bool false]) O O O O Qf.1 O g (.tail .head) O O λai G Z=>AU ?_;refine WF.nil (λs t i j=>?_);exact⟨false,_,_,i.sub (kp [6,4] O),j,G,Z,E⟩
  refine AU ?_;refine WF.nil (λs t i j=>?_);exact⟨b.Am,_,_,i.sub (kp [6,4] O),j,g,(B9.refl S2 A),E⟩
 rintro s t ⟨q,aj,ak,i,j,H,am,E⟩;refine AK ?_ i j;clear i j t s;rw[Iv] at E;refine AU ?_;refine C7 O O O O Hs.1 O H .head O λan I ao=>AU ?_;refine Bu (λs t i j=>?_);have p:=I.drop (.tail .head);have J:=p.drop .head;cases E;exact JA i O j (G7 (UC i j p O mh Hs.1 O) I9) O EX ⟨O,⟨r9,u⟩,J⟩
def Nw {c:Nat}{p0_w:AN}{ak:Value}{am:Value}{ae:Value}{an:Value}{ao:Value}{ap:Value}{aq:Value}{ar:Value}{af:Value}{ag:Value}{ah:Value}{ai:Value}{aj:Value}{d:Value}{g:Value}{a1:Value}{Z:Value}{t:Value}{u:Value}{y:Value}{ab:Value}{z:Value}(hs:St S (Bx c 160 [.string p0_w.b.J,ak,vI p0_w.b.P,am,ae,an,ao,ap,aq,ar,vI p0_w.b.Q,af,ag,ah,ai,aj,vI p0_w.s.B,d,g,a1,Z,t,u,y,ab,z]::OO AC 3 29 d p0_w.s.D::OS AC 3 g p0_w.s.M::OS BL 106 Z p0_w.s.O::OS AC 3 t p0_w.s.N::OS AC 3 u p0_w.s.L::OS BD 74 y p0_w.moves::OS AC 3 ab p0_w.peaks::OS AS 121 z p0_w.sent::L) h) (fl:p0_w.b.J.size≤maxLen) (bq:Sl S h A4.str ak p0_w.b.F) (fm:AB p0_w.b.P) (a5:Sl S h CC am p0_w.b.A) (br:Sl S h B0 ae p0_w.b.G) (fn:Sl S h Hb an p0_w.b.Ac) (fo:Sl S h Er ao p0_w.b.Af) (fp:Sl S h G4 ap p0_w.b.Ag) (fq:Sl S h DI aq p0_w.b.Aj) (fr:Sl S h AC ar p0_w.b.Al) (c4:AB p0_w.b.Q) (c5:Sl S h AC af p0_w.in_.Aa) (c6:Sl S h Gt ag p0_w.in_.Ai) (c7:Sl S h J6 ah p0_w.in_.Ak) (c8:Sl S h Gs ai p0_w.in_.Ab) (c9:Sl S h HJ aj p0_w.in_.Ae) (bf:AB p0_w.s.B) (bg:Sl S h AS a1 p0_w.s.E) {r:(List (List Int))×(List AM)×(List AT)×(List Int)}(E:Eu N p0_w=some r):
 B3 prog 82 #[vP c 0] S h (λv S' h'=>∃bk bl bm bn:Value,v= .tuple #[]∧St S' (Bx c 160 [.string p0_w.b.J,ak,vI p0_w.b.P,am,ae,an,ao,ap,aq,ar,vI p0_w.b.Q,af,ag,ah,ai,aj,vI p0_w.s.B,bk,g,bl,bm,t,u,y,bn,z]::OS (A4.sl AC) 29 bk r.1::OS AC 3 g p0_w.s.M::OS AS 121 bl r.2.1::OS BL 106 bm r.2.2.1::OS AC 3 t p0_w.s.N::OS AC 3 u p0_w.s.L::OS BD 74 y p0_w.moves::OS AC 3 bn r.2.2.2::OS AS 121 z p0_w.sent::L) h'):=by
 refine BA (l:=[vP c 0]) 123 func82 O ntmps82 O λB=>?_;rw[Eu] at E;have hu:=hs.pick (.tail .head);obtain⟨S2,ad,e4⟩:=hu.ooPub;refine AU ?_;obtain⟨aw,fs,E⟩:=bd E;refine VP (m:=[(0,vP c 0)]) [] [] [(23,[22]),(24,[23]),(25,[23]),(26,[24]),(27,[25])] (by kernel_rfl) (λgv X F i v hh=>match i with|0=>v=vP c 0|1=>v=vP c 0|2=>v=vP c 16|3=>v=vP c 19|4=>Sl S2 hh AS v p0_w.s.E|5=>v=vP c 0|6=>v=vP c 0|7=>v=vP c 16|8=>v=vP c 16|9=>v=vI p0_w.s.B∧AB p0_w.s.B|10=>v=vP c 0|11=>v=vP c 0|12=>v=vP c 0|13=>v=vP c 3|14=>Sl S2 hh CC v p0_w.b.A|15=>v=vI (↑p0_w.b.A.length:Int)∧AB (↑p0_w.b.A.length:Int)|16=>v=vP c 0|17=>v=vP c 0|18=>v=vP c 0|19=>v=vP c 1|20=>Sl S2 hh A4.str v p0_w.b.F|21=>v=vI (↑p0_w.b.F.length:Int)∧AB (↑p0_w.b.F.length:Int)|22=>∃w0 w1:Value,v= .tuple #[w0,w1]∧OW S2 h X F [OS (A4.sl AC) 29 w0 aw.1,OS AS 121 w1 aw.2] hh|23=>v=gv 22∧∃w0 w1:Value,v= .tuple #[w0,w1]|24=>v=mH (gv 23) 0|25=>v=mH (gv 23) 1|26=>v=gv 24|27=>v=gv 25|_=>False) [[],[(0,8)],[(1,9)],[(2,10)],[(3,11)],[],[(5,13)],[(6,14)],[(7,15)],[(8,16)],[],[(10,18)],[(11,19)],[(12,20)],[(13,21)],[(14,22)],[],[(16,24)],[(17,25)],[(18,26)],[(19,27)],[(20,28)],[(4,12),(9,17),(15,23),(21,29)],[(22,30)],[(23,7)],[(23,7)],[(24,31)],[(25,32)]] [(22,30),(23,7),(24,31),(25,32),(26,2),(27,3)] mo (by kernel_rfl) [0] O (by kernel_rfl) (by kernel_rfl) (by kernel_rfl) O (kp [0] O) (λgv i v h1 h2 X X' F o1 o2 hF u1 u2 V=>?_) (λgv ly X F i v h1 hz V=>?_) ?_ ?_ ?_
 ·match i,V with
   |0,V|1,V|2,V|3,V|5,V|6,V|7,V|8,V|9,V|10,V|11,V|12,V|13,V|15,V|16,V|17,V|18,V|19,V|21,V|23,V|24,V|25,V|26,V|27,V=>exact V
   |4,V|14,V|20,V=>exact Sl.mono' V (o2.ext λb hb=>Aa9 (ad.1 b hb) o1.siz)
   |22,V=>obtain⟨w0,w1,ev,q⟩:=V;exact⟨w0,w1,ev,OW.mono ad.1 o1 o2 hF u1 u2 q⟩
   |_+28,V=>exact V.elim
 ·match i,V with
   |0,V|1,V|2,V|3,V|4,V|5,V|6,V|7,V|8,V|9,V|10,V|11,V|12,V|13,V|14,V|15,V|16,V|17,V|18,V|19,V|20,V|21,V|22,V=>exact V
   |23,V=>rw[hz _ Abn O 22 (by decide)] at V;exact V
   |24,V=>rw[hz _ (Abt _ Abn) O 23 (by decide)] at V;exact V
   |25,V=>rw[hz _ (Abt _ (Abt _ Abn)) O 23 (by decide)] at V;exact V
   |26,V=>rw[hz _ (Abt _ (Abt _ (Abt _ Abn))) O 24 (by decide)] at V;exact V
   |27,V=>rw[hz _ (Abt _ (Abt _ (Abt _ (Abt _ Abn)))) O 25 (by decide)] at V;exact V
   |_+28,V=>exact V.elim
 ·exact trivial
 ·refine Ci.cons O O ?_ ?_
  ·intro gv X mq hh o hX;have K:=o.st ad;refine AU ?_;exact A9 (DX.refl _) O
  refine Ci.cons O O ?_ ?_
  ·intro gv X mq hh o hX;have K:=o.st ad;intro lz da;obtain⟨ii,_,_,da⟩:=da;cases da;refine AU ?_;exact A9 (DX.refl _) O
  refine Ci.cons O O ?_ ?_
  ·intro gv X mq hh o hX;have K:=o.st ad;intro l0 db;obtain⟨ij,_,_,db⟩:=db;cases db;refine AU ?_;exact A9 (DX.refl _) O
  refine Ci.cons O O ?_ ?_
  ·intro gv X mq hh o hX;have K:=o.st ad;intro l1 dc;obtain⟨ik,_,_,dc⟩:=dc;cases dc;refine AU ?_;exact A9 (DX.refl _) O
  refine Ci.cons O O ?_ ?_
  ·intro gv X mq hh o hX;have K:=o.st ad;intro l2 dd;obtain⟨il,_,_,dd⟩:=dd;cases dd;refine AU ?_;have hv:=bg.mono' (e4.trans (o.ext ad.1));exact A9 (DX.refl _) hv
  refine Ci.cons O O ?_ ?_
  ·intro gv X mq hh o hX;have K:=o.st ad;refine AU ?_;exact A9 (DX.refl _) O
  refine Ci.cons O O ?_ ?_
  ·intro gv X mq hh o hX;have K:=o.st ad;intro l3 de;obtain⟨im,_,_,de⟩:=de;cases de;refine AU ?_;exact A9 (DX.refl _) O
  refine Ci.cons O O ?_ ?_
  ·intro gv X mq hh o hX;have K:=o.st ad;intro l4 df;obtain⟨io,_,_,df⟩:=df;cases df;refine AU ?_;exact A9 (DX.refl _) O
  refine Ci.cons O O ?_ ?_
  ·intro gv X mq hh o hX;have K:=o.st ad;intro l5 dg;obtain⟨ip,_,_,dg⟩:=dg;cases dg;refine AU ?_;exact A9 (DX.refl _) O
  refine Ci.cons O O ?_ ?_
  ·intro gv X mq hh o hX;have K:=o.st ad;intro l6 dh;obtain⟨ir,_,_,dh⟩:=dh;cases dh;refine AU ?_;exact A9 (DX.refl _) ⟨O,bf⟩
  refine Ci.cons O O ?_ ?_
  ·intro gv X mq hh o hX;have K:=o.st ad;refine AU ?_;exact A9 (DX.refl _) O
  refine Ci.cons O O ?_ ?_
  ·intro gv X mq hh o hX;have K:=o.st ad;intro l7 di;obtain⟨it,_,_,di⟩:=di;cases di;refine AU ?_;exact A9 (DX.refl _) O
  refine Ci.cons O O ?_ ?_
  ·intro gv X mq hh o hX;have K:=o.st ad;intro l8 dj;obtain⟨iu,_,_,dj⟩:=dj;cases dj;refine AU ?_;exact A9 (DX.refl _) O
  refine Ci.cons O O ?_ ?_
  ·intro gv X mq hh o hX;have K:=o.st ad;intro l9 dk;obtain⟨iv,_,_,dk⟩:=dk;cases dk;refine AU ?_;exact A9 (DX.refl _) O
  refine Ci.cons O O ?_ ?_
  ·intro gv X mq hh o hX;have K:=o.st ad;intro ma dl;obtain⟨iw,_,_,dl⟩:=dl;cases dl;refine AU ?_;have hx:=a5.mono' (e4.trans (o.ext ad.1));exact A9 (DX.refl _) hx
  refine Ci.cons O O ?_ ?_
  ·intro gv X mq hh o hX;have K:=o.st ad;intro hy bt;obtain⟨iy,_,_,bt⟩:=bt;have bt:Sl _ _ CC hy p0_w.b.A:=bt;have h0:=bt.le;refine AU ?_;exact A9 (DX.refl _) ⟨O,(KZ h0)⟩
  refine Ci.cons O O ?_ ?_
  ·intro gv X mq hh o hX;have K:=o.st ad;refine AU ?_;exact A9 (DX.refl _) O
  refine Ci.cons O O ?_ ?_
  ·intro gv X mq hh o hX;have K:=o.st ad;intro mb dm;obtain⟨iz,_,_,dm⟩:=dm;cases dm;refine AU ?_;exact A9 (DX.refl _) O
  refine Ci.cons O O ?_ ?_
  ·intro gv X mq hh o hX;have K:=o.st ad;intro mc dn;obtain⟨i0,_,_,dn⟩:=dn;cases dn;refine AU ?_;exact A9 (DX.refl _) O
  refine Ci.cons O O ?_ ?_
  ·intro gv X mq hh o hX;have K:=o.st ad;intro md dp;obtain⟨i1,_,_,dp⟩:=dp;cases dp;refine AU ?_;exact A9 (DX.refl _) O
  refine Ci.cons O O ?_ ?_
  ·intro gv X mq hh o hX;have K:=o.st ad;intro me dq;obtain⟨i2,_,_,dq⟩:=dq;cases dq;refine AU ?_;have h3:=bq.mono' (e4.trans (o.ext ad.1));exact A9 (DX.refl _) h3
  refine Ci.cons O O ?_ ?_
  ·intro gv X mq hh o hX;have K:=o.st ad;intro h4 bu;obtain⟨i3,_,_,bu⟩:=bu;have bu:Sl _ _ A4.str h4 p0_w.b.F:=bu;have h5:=bu.le;refine AU ?_;exact A9 (DX.refl _) ⟨O,(KZ h5)⟩
  refine PR O O ?_ ?_
  ·intro gv X mq hh o hX;have K:=SX.fz (X:=X) ad o;intro h6 bh mf dr mg ds mi dt;obtain⟨i4,_,_,bh⟩:=bh;have bh:=Sl.mono' (S':=(SX S2 h hh X)) bh ⟨λb hb=>(SX.ext ad.1 o hX).sub b hb,λ_ _=>rfl,Abd _⟩;have bh:Sl _ _ AS h6 p0_w.s.E:=bh;obtain⟨i5,_,_,dr⟩:=dr;obtain⟨rfl,h7⟩:=dr;obtain⟨i6,_,_,ds⟩:=ds;obtain⟨rfl,h8⟩:=ds;obtain⟨i7,_,_,dt⟩:=dt;obtain⟨rfl,h9⟩:=dt;refine EQ O O O sQ O (Ts K bh h7 h8 h9 fs) λmj ml mm ia p=>?_;obtain⟨mn,mp,rfl,du⟩:=p;have ib:=du.pick (.tail (.tail .head));obtain⟨ft,dv,fu,i8,fv⟩:=OW.done ad.1 o hX ia ib;exact A9 fu ⟨ft,dv,⟨_,_,O,fv⟩⟩
  refine Ci.cons O O ?_ ?_
  ·intro gv X mq hh o hX;have K:=o.st ad;intro i9 bv;obtain⟨dw,_,_,bv⟩:=bv;obtain⟨ja,jb,rfl,jc⟩:=bv;refine AU ?_;exact A9 (DX.refl _) ⟨dw,_,_,O⟩
  refine Ci.cons O O ?_ ?_
  ·intro gv X mq hh o hX;have K:=o.st ad;intro jd bw;obtain⟨dx,_,_,bw⟩:=bw;obtain⟨_,je,jf,rfl⟩:=bw;refine AU ?_;exact A9 (DX.refl _) (by rw[←dx];rfl)
  refine Ci.cons O O ?_ ?_
  ·intro gv X mq hh o hX;have K:=o.st ad;intro jg bx;obtain⟨dy,_,_,bx⟩:=bx;obtain⟨_,jh,ji,rfl⟩:=bx;refine AU ?_;exact A9 (DX.refl _) (by rw[←dy];rfl)
  refine Ci.cons O O ?_ ?_
  ·intro gv X mq hh o hX;have K:=o.st ad;intro jj ck;obtain⟨dz,_,_,ck⟩:=ck;refine AU ?_;exact A9 (DX.refl _) dz
  refine Ci.cons O O ?_ ?_
  ·intro gv X mq hh o hX;have K:=o.st ad;intro jk cl;obtain⟨d0,_,_,cl⟩:=cl;refine AU ?_;exact A9 (DX.refl _) d0
  exact trivial
 intro bz bi ic bo ba d1 jl b0 cm b1 cn b2 co b3 cp b4 cq b5;obtain⟨d2,b0⟩:=b0;obtain⟨b6,b1⟩:=b1;obtain⟨d3,b2⟩:=b2;obtain⟨d4,b3⟩:=b3;obtain⟨ie,b4⟩:=b4;obtain⟨ig,b5⟩:=b5;obtain⟨az,a6,rfl,fw⟩:=b0;have bj:=(Xj.cons (Xj.nil ad bo ba) d1 (j:=22) O fw).st;simp only[Abw,Abj] at bj;obtain rfl: .tuple #[az,a6]=cm:=((by rw[b1.1,←d2];try rfl:cm= .tuple #[az,a6])).symm;obtain rfl:az=cn:=((by rw[b2,←b6];try rfl:cn=az)).symm;obtain rfl:a6=co:=((by rw[b3,←b6];try rfl:co=a6)).symm;obtain rfl:az=cp:=((by rw[b4,←d3];try rfl:cp=az)).symm;obtain rfl:a6=cq:=((by rw[b5,←d4];try rfl:cq=a6)).symm;refine AU ?_;obtain⟨ax,av,rfl,jm⟩:=bj.oslen (mt mh);refine Dt (vs:=[(.slice ax aw.2.length av)]) (cs':=[.string p0_w.b.J,ak,vI p0_w.b.P,am,ae,an,ao,ap,aq,ar,vI p0_w.b.Q,af,ag,ah,ai,aj,vI p0_w.s.B,d,g,(.slice ax aw.2.length av),Z,t,u,y,ab,z]) O O O O Vx.1 O bj (.tail (.tail (.tail .head))) O O λb7 d5 b8=>?_;have d6:=e4.trans ((SX.ext ad.1 bo (iM ba)).trans b8);have jn:=a5.mono' d6;refine AU ?_;refine AO (λa w=>∃(a2:List (List Int)) (a3:List Int),IV B (SX S2 h bz (UX bi)) b7 (123,[]) a w [(0,vP c 0)] (OS AS 121 (.slice ax aw.2.length av) aw.2::OS (A4.sl AC) 29 d a2::Bx c 160 [.string p0_w.b.J,ak,vI p0_w.b.P,am,ae,an,ao,ap,aq,ar,vI p0_w.b.Q,af,ag,ah,ai,aj,vI p0_w.s.B,d,g,(.slice ax aw.2.length av),Z,t,u,y,ab,z]::OS AC 3 g p0_w.s.M::OS BL 106 Z p0_w.s.O::OS AC 3 t p0_w.s.N::OS AC 3 u p0_w.s.L::OS BD 74 y p0_w.moves::OS AC 3 ab a3::OS AS 121 z p0_w.sent::L) λ_ _=>Cv N p0_w aw a2 a3=some r) ?_ ?_
 ·refine AX (λn1=>λa w=>∃(au:Int) (a7:List (List Int)) (a8:List Int),IV B (SX S2 h bz (UX bi)) b7 (123,[]) a w [(43,vI (↑p0_w.b.A.length:Int)),(2,az),(0,vP c 0),(44,vI au)] (OS (A4.sl AC) 29 az aw.1::OS AS 121 (.slice ax aw.2.length av) aw.2::OS (A4.sl AC) 29 d a7::Bx c 160 [.string p0_w.b.J,ak,vI p0_w.b.P,am,ae,an,ao,ap,aq,ar,vI p0_w.b.Q,af,ag,ah,ai,aj,vI p0_w.s.B,d,g,(.slice ax aw.2.length av),Z,t,u,y,ab,z]::OS AC 3 g p0_w.s.M::OS BL 106 Z p0_w.s.O::OS AC 3 t p0_w.s.N::OS AC 3 u p0_w.s.L::OS BD 74 y p0_w.moves::OS AC 3 ab a8::OS AS 121 z p0_w.sent::L) λ_ _=>AB au∧Cf N p0_w aw (Cv N p0_w aw) n1 au a7 a8=some r) N ?_ ?_ ?_
  ·intro aa ww hf hw;exact⟨0,p0_w.s.D,p0_w.peaks,_,_,hf.sub (kp [43,2,0,44] O),hw,d5,(B9.refl (SX S2 h bz (UX bi)) b7),(iq (n:=0) O),E⟩
  ·rintro aa ww ⟨_,_,_,_,_,_,_,_,_,_,E⟩;rw[Cf] at E;cases E
  rintro n1 aa ww ⟨au,a7,a8,bb,b9,hf,hw,W,cr,ca,E⟩;refine AK ?_ hf hw;clear hf hw ww aa;rw[Cf] at E;refine AU ?_;refine AH O E (λfx E=>?_) (λfx E=>?_)
  ·refine AU ?_;refine AY (AU ?_);refine Rk (kp [4,43,2,0,44] O) ?_;obtain⟨jo,d7,E⟩:=bd E;obtain⟨cs,d8,E⟩:=bd E;obtain⟨jp,d9,E⟩:=bd E;obtain⟨ct,ea,E⟩:=bd E;obtain⟨cb,eb,E⟩:=bd E;obtain⟨jq,ec,E⟩:=bd E;refine Ms (m:=[(4,vI au),(43,vI (↑p0_w.b.A.length:Int)),(2,az),(0,vP c 0),(44,vI au)]) 20 (λi v hh=>match i with|0=>v=vP c 0|1=>v=vP c 0|2=>v=vP c 16|3=>v=vP c 17|4=>v=d|5=>v=vI au∧AB au|6=>v=vP c 0|7=>v=vP c 0|8=>v=vP c 16|9=>v=vP c 17|10=>v=d|11=>v=vI au∧AB au|12=>EP d (au.toNat*((A4.sl AC)).sz+0) v|13=>Sl bb hh AC v cs|14=>v=az|15=>v=vI au∧AB au|16=>EP az (au.toNat*((A4.sl AC)).sz+0) v|17=>Sl bb hh AC v ct|18=>Sl (SN bb b9 hh) hh AC v cb|19=>EP d (au.toNat*((A4.sl AC)).sz+0) v|_=>False) [[],[(0,47)],[(1,48)],[(2,49)],[(3,50)],[],[],[(6,53)],[(7,54)],[(8,55)],[(9,56)],[],[(10,57),(11,58)],[(12,59)],[],[],[(14,61),(15,62)],[(16,63)],[(13,60),(17,64)],[(4,51),(5,52)]] [(18,65),(19,66)] mo (by kernel_rfl) [4,43,2,0,44] O (by kernel_rfl) (by kernel_rfl) (by kernel_rfl) (kp [4,43,2,0,44] O) (λi v h1 h2 o1 o2 V=>?_) ?_ ?_
   ·match i,V with
     |0,V|1,V|2,V|3,V|4,V|5,V|6,V|7,V|8,V|9,V|10,V|11,V|12,V|14,V|15,V|16,V|19,V=>exact V
     |13,V|17,V=>exact Sl.mono' V (o2.ext λb hb=>Aa9 (W.1 b hb) o1.siz)
     |18,V=>exact Sl.mono' V (SN.mono W.1 o1 o2)
     |_+20,V=>exact V.elim
   ·refine AQ.cons O ?_ ?_
    ·intro mq hh o;have K:=o.st W;refine AU ?_;exact A9 (DX.refl _) O
    refine AQ.cons O ?_ ?_
    ·intro mq hh o;intro jr fy;have K:=o.st W;cases fy;refine AU ?_;exact A9 (DX.refl _) O
    refine AQ.cons O ?_ ?_
    ·intro mq hh o;intro js f0;have K:=o.st W;cases f0;refine AU ?_;exact A9 (DX.refl _) O
    refine AQ.cons O ?_ ?_
    ·intro mq hh o;intro jt f1;have K:=o.st W;cases f1;refine AU ?_;exact A9 (DX.refl _) O
    refine AQ.cons O ?_ ?_
    ·intro mq hh o;intro ju f2;have K:=o.st W;cases f2;refine AU ?_;exact A9 (DX.refl _) O
    refine AQ.cons O ?_ ?_
    ·intro mq hh o;have K:=o.st W;refine AU ?_;exact A9 (DX.refl _) ⟨O,ca⟩
    refine AQ.cons O ?_ ?_
    ·intro mq hh o;have K:=o.st W;refine AU ?_;exact A9 (DX.refl _) O
    refine AQ.cons O ?_ ?_
    ·intro mq hh o;intro jv f3;have K:=o.st W;cases f3;refine AU ?_;exact A9 (DX.refl _) O
    refine AQ.cons O ?_ ?_
    ·intro mq hh o;intro jw f4;have K:=o.st W;cases f4;refine AU ?_;exact A9 (DX.refl _) O
    refine AQ.cons O ?_ ?_
    ·intro mq hh o;intro jx f5;have K:=o.st W;cases f5;refine AU ?_;exact A9 (DX.refl _) O
    refine AQ.cons O ?_ ?_
    ·intro mq hh o;intro jy f6;have K:=o.st W;cases f6;refine AU ?_;exact A9 (DX.refl _) O
    refine AQ.cons O ?_ ?_
    ·intro mq hh o;have K:=o.st W;refine AU ?_;exact A9 (DX.refl _) ⟨O,ca⟩
    refine AQ.cons O ?_ ?_
    ·intro mq hh o;intro jz f7 j0 f8;have K:=o.st W;cases f7;obtain⟨rfl,j1⟩:=f8;refine AU ?_;refine BS K (mt (mt mh)) O O H6.1 d7 O λj2 ed=>AU ?_;exact A9 (DX.refl _) ed
    refine AQ.cons O ?_ ?_
    ·intro mq hh o;intro j3 f9;have K:=o.st W;refine AU ?_;have ga:=K.epAt (mt (mt mh)) d8 F9.id f9;refine JG LD (λ_ x=>x) O ga G6.1 O λj4 gb=>AU ?_;exact A9 (DX.refl _) gb
    refine AQ.cons O ?_ ?_
    ·intro mq hh o;have K:=o.st W;refine AU ?_;exact A9 (DX.refl _) O
    refine AQ.cons O ?_ ?_
    ·intro mq hh o;have K:=o.st W;refine AU ?_;exact A9 (DX.refl _) ⟨O,ca⟩
    refine AQ.cons O ?_ ?_
    ·intro mq hh o;intro j5 gc j6 gd;have K:=o.st W;cases gc;obtain⟨rfl,j7⟩:=gd;refine AU ?_;refine BS K mh O O H6.1 d9 O λj8 ee=>AU ?_;exact A9 (DX.refl _) ee
    refine AQ.cons O ?_ ?_
    ·intro mq hh o;intro j9 ge;have K:=o.st W;refine AU ?_;have gf:=K.epAt mh ea F9.id ge;refine JG LD (λ_ x=>x) O gf G6.1 O λka gg=>AU ?_;exact A9 (DX.refl _) gg
    refine AQ.cons O ?_ ?_
    ·intro mq hh o;intro gh bc gi be;have K:=SN.st W o;have bc:=Sl.mono' (S':=(SN bb b9 hh)) bc ⟨λb hb=> .inl hb,λ_ _=>rfl,Abd _⟩;have bc:Sl _ _ AC gh cs:=bc;have be:=Sl.mono' (S':=(SN bb b9 hh)) be ⟨λb hb=> .inl hb,λ_ _=>rfl,Abd _⟩;have be:Sl _ _ AC gi ct:=be;have cj:=K.fz;refine FA O O O Ya O cj (MM (St.all _) (bc.mono (λb hb=>cj.1 b hb) (λ_ _=>rfl)) (be.mono (λb hb=>cj.1 b hb) (λ_ _=>rfl)) eb) λkb kc kd ih gj gl p=>?_;have ef:=p;have cc:=cj.join gl ef ⟨OS.flat (λ{_ _ _ _ _ _} k=>k),trivial⟩;simp only[Abw,Abj] at cc;obtain⟨ke,eg,gm,gn⟩:=cc.pubs .head;have cd:=Fz.done o (gj.trans gm) eg;exact A9 cd.1 (Sl.mono' gn cd.2)
    refine AQ.cons O ?_ ?_
    ·intro mq hh o;intro kf gp kg gq;have K:=o.st W;cases gp;obtain⟨rfl,kh⟩:=gq;refine AU ?_;refine BS K (mt (mt mh)) O O H6.1 ec O λki eh=>AU ?_;exact A9 (DX.refl _) eh
    exact trivial
   intro kj cu gr ce kk gs;have ei:=SN.st W cu;have ce:Sl _ _ AC gr cb:=ce;obtain⟨gt,ej,E⟩:=bd E;refine E9 (r:=(A4.sl AC)) (l:=a7) (i:=au) (x:=gt) O O (OC ce) gs ej NT.id G6.1 (λ_=>rfl) ei (.tail (.tail .head)) λkl a4 gu=>AU ?_;refine MA 15 mo (by kernel_rfl) O a4 (AU ?_);obtain⟨km,ek,E⟩:=bd E;refine BS a4 (mt (mt mh)) O O H6.1 ek O λkn el=>?_;obtain⟨ko,em,E⟩:=bd E;have gw:=a4.epAt (mt (mt mh)) em F9.id el;refine JG PF (λ_ x=>x) O gw G6.1 O λkr gx=>?_;obtain⟨cv,en,E⟩:=bd E;refine QZ O O O K2 O (λh' o=>Cn (St.all h') (gx.mono' (o.all a4.1)) en) λgy=>?_;have gz:=gy;obtain⟨ks,eo,E⟩:=bd E;refine BS a4 (mt (mt (mt (mt (mt (mt (mt (mt (mt mh))))))))) O O Ct.1 eo O λkt ep=>KT λku eq g0=>?_;obtain⟨g1,er,E⟩:=bd E;refine E9 (r:=AC) (l:=a8) (i:=au) (x:=g1) O O (⟨_,O,O,gz⟩:Rd _ _ AC _ cv) ep er NT.id HA.1 (λ_=>rfl) eq (.tail (.tail (.tail (.tail (.tail (.tail (.tail (.tail (.tail .head))))))))) λkv es g2=>AU ?_;refine BE (AU ?_);refine WF.nil (λaa ww hf hw=>?_);have eu:=cr.trans ((SN.ext W.1 cu).trans (gu.trans (g0.trans g2)));exact⟨(BC (au+1)),(upd a7 au cb),(upd a8 au cv),_,_,hf.sub (kp [43,2,0,44] O),hw,es,eu,(BH _),E⟩
  refine BB O (λaa ww hf hw=>?_);have ew:=W.sel [1,1,1,1,1,1,1,1,1,1] 1 O;exact⟨a7,a8,_,_,hf.sub (kp [0] O),hw,ew,cr,E⟩
 rintro aa ww ⟨a2,a3,cw,cx,hf,hw,ey,cy,E⟩;refine AK ?_ hf hw;clear hf hw ww aa;rw[Cv] at E;have ez:=e4.trans ((SX.ext ad.1 bo (iM ba)).trans (b8.trans cy));have g3:=br.mono' ez;refine AU ?_;refine AY (AX (λn2=>λa w=>∃(a0:Int) (a9:List AT),IV B cw cx (123,[]) a w [(88,vI (↑p0_w.b.G.length:Int)),(87,ae),(0,vP c 0),(89,vI a0)] (OS AS 121 (.slice ax aw.2.length av) aw.2::OS (A4.sl AC) 29 d a2::Bx c 160 [.string p0_w.b.J,ak,vI p0_w.b.P,am,ae,an,ao,ap,aq,ar,vI p0_w.b.Q,af,ag,ah,ai,aj,vI p0_w.s.B,d,g,(.slice ax aw.2.length av),Z,t,u,y,ab,z]::OS AC 3 g p0_w.s.M::OS BL 106 Z a9::OS AC 3 t p0_w.s.N::OS AC 3 u p0_w.s.L::OS BD 74 y p0_w.moves::OS AC 3 ab a3::OS AS 121 z p0_w.sent::L) λ_ _=>AB a0∧CD N p0_w aw a2 a3 n2 a0 a9=some r) N ?_ ?_ ?_)
 ·intro aa ww hf hw;exact⟨0,p0_w.s.O,_,_,hf.sub (kp [88,87,0,89] O),hw,ey,(B9.refl cw cx),(iq (n:=0) O),E⟩
 ·rintro aa ww ⟨_,_,_,_,_,_,_,_,_,E⟩;rw[CD] at E;cases E
 rintro n2 aa ww ⟨a0,a9,g4,g5,hf,hw,cf,cg,kw,E⟩;refine AK ?_ hf hw;clear hf hw ww aa;rw[CD] at E;refine AU ?_;refine AH O E (λg6 E=>?_) (λg6 E=>?_)
 ·refine AU ?_;refine AO (λa w=>∃(bp:List AT),IV B g4 g5 (123,[]) a w [(88,vI (↑p0_w.b.G.length:Int)),(87,ae),(0,vP c 0),(89,vI a0)] (OS AS 121 (.slice ax aw.2.length av) aw.2::OS (A4.sl AC) 29 d a2::Bx c 160 [.string p0_w.b.J,ak,vI p0_w.b.P,am,ae,an,ao,ap,aq,ar,vI p0_w.b.Q,af,ag,ah,ai,aj,vI p0_w.s.B,d,g,(.slice ax aw.2.length av),Z,t,u,y,ab,z]::OS AC 3 g p0_w.s.M::OS BL 106 Z bp::OS AC 3 t p0_w.s.N::OS AC 3 u p0_w.s.L::OS BD 74 y p0_w.moves::OS AC 3 ab a3::OS AS 121 z p0_w.sent::L) λ_ _=>Eo N a0 (CD N p0_w aw a2 a3 n2) bp=some r) ?_ ?_
  ·refine AU ?_;have g7:=g3.mono' cg;obtain⟨ac,e0,E⟩:=bd E;refine K6 O O g7 Ox.1 e0 O λkx g8=>?_;obtain⟨ky,_,g9⟩:=g8.lv;refine AU ?_;refine CF Ok O cf λkz k0 e1 ch=>AU ?_;have cz:=g9.mono ch;obtain⟨c0,c1,c2,rfl,k1,k2,k3,k4,ha,hc,hd,k5,k6,k7,k8,k9,la,lb,lc,lf,lg,lh⟩:=B0.ex cz;refine Th (vs:=[.string ac.J,vI ac.H,vI ac.I,vI ac.C,c0,c1,c2,vI ac.U,vI ac.Ad,vI ac.Ba,vI ac.Bb,vI ac.Y,vI ac.T,vI ac.Aw,vI ac.Ax,vI ac.Ar,vI ac.An,vI ac.S]) (cs':=[.string ac.J,vI ac.H,vI ac.I,vI ac.C,c0,c1,c2,vI ac.U,vI ac.Ad,vI ac.Ba,vI ac.Bb,vI ac.Y,vI ac.T,vI ac.Aw,vI ac.Ax,vI ac.Ar,vI ac.An,vI ac.S]) O O O (CG O (CG O (CG O (CG O (CG ha.one (CG hc.one (CG hd.one (CG O (CG O (CG O (CG O (CG O (CG O (CG O (CG O (CG O (CG O (CG O NB)))))))))))))))))) Ou.1 O e1 .head O O λli ay ci=>AU ?_;refine AH O E (λhe E=>?_) (λhe E=>?_)
   ·refine MA 25 mo (by kernel_rfl) O ay (AU ?_);obtain⟨lj,e2,E⟩:=bd E;refine BS ay (mt (mt (mt (mt (mt mh))))) O O NZ.1 e2 O λll e3=>?_;obtain⟨lm,e5,E⟩:=bd E;have hg:=ay.epAt (mt (mt (mt (mt (mt mh))))) e5 F9.id e3;refine P4 PF (λ_ x=>x) O hg Hs.1 (λe=>by cases e) O λln hi=>AU ?_;obtain⟨lo,e6,E⟩:=bd E;refine BS ay (mt (mt (mt (mt (mt (mt (mt (mt (mt mh))))))))) O O Ct.1 e6 O λlp e7=>?_;obtain⟨lq,e8,E⟩:=bd E;have hj:=ay.epAt (mt (mt (mt (mt (mt (mt (mt (mt (mt mh))))))))) e8 F9.id e7;refine Gf PF (λ_ x=>x) O hj HA.1 O λhk=>?_;have bs:=cz.mono ci;obtain⟨c3,e9,E⟩:=bd E;refine QZ O O O sP O (λh' o=>SH (St.all h') (bs.mono (o.all ay.1)) (hi.mono (o.all ay.1)) hk e9) λhl=>?_;obtain⟨hm,hn⟩:=hl;obtain⟨lr,fa,E⟩:=bd E;refine BS ay (mt (mt (mt (mt (mt mh))))) O O NZ.1 fa O λls fb=>KT λlt fc ho=>?_;obtain⟨hp,fd,E⟩:=bd E;refine E9 (r:=BL) (l:=a9) (i:=a0) (x:=hp) O O (BL.mk (x:=c3) ⟨hm,hn⟩) fb fd NT.id Hs.1 (λe=>by cases e) fc (.tail (.tail (.tail (.tail (.tail .head))))) λlu fe hq=>AU ?_;refine WF.nil (λaa ww hf hw=>?_);have ff:=fe.sel [1,1,1,1,1,1,1,1,1,1] 1 O;have fg:=ch.trans (ci.trans (ho.trans hq));exact⟨(upd a9 a0 c3),_,_,hf.sub (kp [88,87,0,89] O),hw,ff,fg,E⟩
   refine AU ?_;refine WF.nil (λaa ww hf hw=>?_);have fh:=ay.sel [1,1,1,1,1,1,1,1,1,1] 1 O;exact⟨a9,_,_,hf.sub (kp [88,87,0,89] O),hw,fh,(ch.trans ci),E⟩
  rintro aa ww ⟨bp,lw,lx,hf,hw,fi,ht,E⟩;refine AK ?_ hf hw;clear hf hw ww aa;rw[Eo] at E;refine AU ?_;refine WF.nil (λaa ww hf hw=>?_);exact⟨(BC (a0+1)),bp,_,_,hf.sub (kp [88,87,0,89] O),hw,fi,(cg.trans ht),(BH _),E⟩
 refine KN O (WF.nil (λaa ww hf hw=>?_));have fj:=cf.sel [2,1,1,0,0,0,0,0,0,0] 0 O;cases E;have fk:=e4.trans ((SX.ext ad.1 bo (iM ba)).trans (b8.trans (cy.trans cg)));exact JA hf O hw I9 O fk ⟨_,_,_,_,O,fj⟩
end Go.Proofs.YtedgiljmffngoaaGreat
