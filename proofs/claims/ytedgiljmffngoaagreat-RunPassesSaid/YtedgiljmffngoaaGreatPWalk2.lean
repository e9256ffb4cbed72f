import Derived.Test.YtedgiljmffngoaaGreatPInst
import Derived.Test.YtedgiljmffngoaaGreatPForms
import Derived.Test.YtedgiljmffngoaaGreatPSort5
import Derived.Test.YtedgiljmffngoaaGreatPWalk0
import Derived.Test.YtedgiljmffngoaaGreatPWalk1
namespace Go.Proofs.YtedgiljmffngoaaGreat
set_option linter.all false
open Go.RowKit
open Go.Proofs.Tryz
set_option maxRecDepth 10000
set_option maxHeartbeats 2000000
variable {N:Nat}{S:Nat→Prop}{L:List HP}{h:AS}
def Pk {g:Nat}{p0_w:AL}{ac:Value}{ad:Value}{af:Value}{ag:Value}{ah:Value}{ai:Value}{aj:Value}{ak:Value}{U:Value}{V:Value}{W:Value}{Y:Value}{l:Value}{d:Value}{q:Value}{ab:Value}{t:Value}{u:Value}{x:Value}{y:Value}{z:Value}{G:Value}(hs:St S (Bx g 160 [.string p0_w.b.J,ac,vI p0_w.b.P,ad,af,ag,ah,ai,aj,ak,vI p0_w.b.S,U,V,W,Y,l,vI p0_w.s.C,d,q,ab,t,u,x,y,z,G]::OO AB 3 29 d p0_w.s.E::OS AB 3 q p0_w.s.M::OS BJ 106 t p0_w.s.O::OS AB 3 u p0_w.s.N::OS AB 3 x p0_w.s.L::OS BO 74 y p0_w.moves::OS AB 3 z p0_w.peaks::OS AZ 121 G p0_w.sent::L) h) (cc:p0_w.b.J.size≤maxLen) (ap:Sl S h A6.str ac p0_w.b.I) (cd:AA p0_w.b.P) (au:Sl S h CJ ad p0_w.b.A) (ce:Sl S h B7 af p0_w.b.F) (cf:Sl S h HO ag p0_w.b.Ab) (cg:Sl S h Eh ah p0_w.b.Ae) (ch:Sl S h Gy ai p0_w.b.Af) (ci:Sl S h DD aj p0_w.b.Ai) (cj:Sl S h AB ak p0_w.b.Al) (bj:AA p0_w.b.S) (bk:Sl S h AB U p0_w.in_.Aa) (bl:Sl S h Gm V p0_w.in_.Ah) (bm:Sl S h Jy W p0_w.in_.Aj) (bn:Sl S h Gl Y p0_w.in_.Z) (aq:Sl S h Ha l p0_w.in_.Aq) (bo:AA p0_w.s.C) (bp:Sl S h AZ ab p0_w.s.H) {r:(List (List Int))}(E:Ea N p0_w=some r):
 B6 prog 80 #[vP g 0] S h (λv S' h'=>∃ar:Value,v= .tuple #[]∧St S' (Bx g 160 [.string p0_w.b.J,ac,vI p0_w.b.P,ad,af,ag,ah,ai,aj,ak,vI p0_w.b.S,U,V,W,Y,l,vI p0_w.s.C,ar,q,ab,t,u,x,y,z,G]::OO AB 3 29 ar r::OS AB 3 q p0_w.s.M::OS BJ 106 t p0_w.s.O::OS AB 3 u p0_w.s.N::OS AB 3 x p0_w.s.L::OS BO 74 y p0_w.moves::OS AB 3 z p0_w.peaks::OS AZ 121 G p0_w.sent::L) h'):=by
 refine A7 70 func80 O ntmps80 O λB=>?_;rw[Ea] at E;refine AU ?_;refine A3 (AY (λn0=>λa w=>∃(i5:Int) (l7:List (List Int)),IV B S h (70,[]) a w [(9,vI (↑p0_w.in_.Aq.length:Int)),(8,l),(0,vP g 0),(10,vI i5)] (Bx g 160 [.string p0_w.b.J,ac,vI p0_w.b.P,ad,af,ag,ah,ai,aj,ak,vI p0_w.b.S,U,V,W,Y,l,vI p0_w.s.C,d,q,ab,t,u,x,y,z,G]::OO AB 3 29 d l7::OS AB 3 q p0_w.s.M::OS BJ 106 t p0_w.s.O::OS AB 3 u p0_w.s.N::OS AB 3 x p0_w.s.L::OS BO 74 y p0_w.moves::OS AB 3 z p0_w.peaks::OS AZ 121 G p0_w.sent::L) λ_ _=>AA i5∧CV N p0_w n0 i5 l7=some r) N ?_ ?_ ?_)
 ·intro aa ww hf hw;exact⟨0,p0_w.s.E,_,_,hf.sub (kp [9,8,0,10] O),hw,hs,(CG.refl S h),(iq (n:=0) O),E⟩
 ·rintro aa ww ⟨_,_,_,_,_,_,_,_,_,E⟩;rw[CV] at E;cases E
 rintro n0 aa ww ⟨i5,l7,S8,h9,hf,hw,bh,ck,r6,E⟩;refine AK ?_ hf hw;clear hf hw ww aa;rw[CV] at E;refine AU ?_;refine AG O E (λdc E=>?_) (λdc E=>?_)
 ·refine AU ?_;refine AN (λa w=>∃(bg:List (List Int)),IV B S8 h9 (70,[]) a w [(9,vI (↑p0_w.in_.Aq.length:Int)),(8,l),(0,vP g 0),(10,vI i5)] (Bx g 160 [.string p0_w.b.J,ac,vI p0_w.b.P,ad,af,ag,ah,ai,aj,ak,vI p0_w.b.S,U,V,W,Y,l,vI p0_w.s.C,d,q,ab,t,u,x,y,z,G]::OO AB 3 29 d bg::OS AB 3 q p0_w.s.M::OS BJ 106 t p0_w.s.O::OS AB 3 u p0_w.s.N::OS AB 3 x p0_w.s.L::OS BO 74 y p0_w.moves::OS AB 3 z p0_w.peaks::OS AZ 121 G p0_w.sent::L) λ_ _=>GF N i5 (CV N p0_w n0) bg=some r) ?_ ?_
  ·refine AU ?_;have dd:=aq.mono' ck;refine A4 E O O dd uB.1 O λam E fm de=>?_;obtain⟨fn,_,df⟩:=de.lv;refine AU ?_;refine CP mZ O bh λav fo cl cm=>?_;have dg:=df.mono cm;obtain⟨rfl,⟨bq,cn,co,dh⟩⟩:=Ha.ex dg;refine C0 O O O O nP.1 O cl .head O λfp cp di=>AU ?_;refine BY (.inr ⟨mo,by kernel_rfl⟩) cp ?_;have dj:=au.nw;have dk:=dj.le;refine AU ?_;refine A5 E O O O PB O (λcq cr h' o=>HK (St.all h') bq (KU dk) cr) λcq E=>AU ?_;obtain⟨cs,an,E⟩:=bd E;refine AW 10 33 (.bool cs) ?_ ?_
   ·cases ct:cq
    ·have an:=Gw ct an;cases an;exact BD O O
    have an:=Gv ct an;have dl:=ap.nw;have dm:=dl.le;refine AU ?_;refine A5 an O O O PB O (λdn cu h' o=>HK (St.all h') cn (KU dm) cu) λdn an=>AU ?_;cases an;exact AX O
   refine AU ?_;obtain⟨dp,ao,E⟩:=bd E;refine AW 10 44 (.bool dp) ?_ ?_
   ·cases cv:cs
    ·have ao:=Gw cv ao;cases ao;exact BD O O
    have ao:=Gv cv ao;have dq:=ap.nw;have dr:=dq.le;refine AU ?_;refine A5 ao O O O PB O (λds cw h' o=>HK (St.all h') co (KU dr) cw) λds ao=>AU ?_;cases ao;exact AX O
   refine BG (kp [44,3,9,8,0,10] O) λdt c du=>AG O E (λdv E=>?_) (λdv E=>?_)
   ·obtain ⟨fq,cx,E⟩:=bd E;obtain⟨dw,cy,E⟩:=bd E;obtain⟨cz,c0,E⟩:=bd E;obtain⟨fr,c1,E⟩:=bd E;refine VG (m:=[(3,vP av 0),(9,vI (↑p0_w.in_.Aq.length:Int)),(8,l),(0,vP g 0),(10,vI i5)]) [24] [] [] (by kernel_rfl) (λgv X F i v hh=>match i with|0=>v=vP g 0|1=>v=vP g 0|2=>v=vP g 16|3=>v=vP g 17|4=>v=d|5=>v=vP av 0|6=>v=vI am.Ar∧AA am.Ar|7=>v=vP g 0|8=>v=vP g 0|9=>v=vP g 16|10=>v=vP g 17|11=>v=d|12=>v=vP av 0|13=>v=vI am.Ar∧AA am.Ar|14=>EP d (am.Ar.toNat*((A6.sl AB)).sz+0) v|15=>Sl (λb=>b<hh.size) hh AB v dw|16=>v=vP av 1|17=>v=vI am.D∧AA am.D|18=>v=vP av 2|19=>v=vI am.B∧AA am.B|20=>v=vP av 3|21=>v=vI am.Bb∧AA am.Bb|22=>OW S8 dt X F [OS AB 3 v cz] hh|23=>EP d (am.Ar.toNat*((A6.sl AB)).sz+0) v|_=>False) [[],[(0,45)],[(1,46)],[(2,47)],[(3,48)],[],[(5,50)],[],[(7,52)],[(8,53)],[(9,54)],[(10,55)],[],[(12,57)],[(11,56),(13,58)],[(14,59)],[],[(16,61)],[],[(18,63)],[],[(20,65)],[(15,60),(17,62),(19,64),(21,66)],[(4,49),(6,51)],[]] [(22,67),(23,68)] mo (by kernel_rfl) [3,9,8,0,10] O (by kernel_rfl) (by kernel_rfl) (by kernel_rfl) O (kp [3,9,8,0,10] O) (λgv i v h1 h2 X X' F o1 o2 hF u1 u2 K=>?_) (λgv fs X F i v h1 hz K=>?_) ?_ ?_ ?_
    ·match i,K with
      |0,K|1,K|2,K|3,K|4,K|5,K|6,K|7,K|8,K|9,K|10,K|11,K|12,K|13,K|14,K|16,K|17,K|18,K|19,K|20,K|21,K|23,K=>exact K
      |15,K=>exact Sl.mono K (λb hb=>Aak hb o2.siz) (λb hb=>o2.same b hb)
      |22,K=>exact OW.mono c.1 o1 o2 hF u1 u2 K
      |_+24,K=>exact K.elim
    ·match i,K with
      |0,K|1,K|2,K|3,K|4,K|5,K|6,K|7,K|8,K|9,K|10,K|11,K|12,K|13,K|14,K|15,K|16,K|17,K|18,K|19,K|20,K|21,K|22,K|23,K=>exact K
      |_+24,K=>exact K.elim
    ·exact trivial
    ·refine Cb.cons O O ?_ ?_
     ·intro gv X mq hh o hX;have Q:=o.st c;refine AU ?_;exact BC O
     refine Cb.cons O O ?_ ?_
     ·intro gv X mq hh o hX;have Q:=o.st c;intro ft br;obtain⟨ei,_,_,br⟩:=br;cases br;refine AU ?_;exact BC O
     refine Cb.cons O O ?_ ?_
     ·intro gv X mq hh o hX;have Q:=o.st c;intro fu bs;obtain⟨ej,_,_,bs⟩:=bs;cases bs;refine AU ?_;exact BC O
     refine Cb.cons O O ?_ ?_
     ·intro gv X mq hh o hX;have Q:=o.st c;intro fv bt;obtain⟨ek,_,_,bt⟩:=bt;cases bt;refine AU ?_;exact BC O
     refine Cb.cons O O ?_ ?_
     ·intro gv X mq hh o hX;have Q:=o.st c;intro fw bu;obtain⟨el,_,_,bu⟩:=bu;cases bu;refine AU ?_;exact BC O
     refine Cb.cons O O ?_ ?_
     ·intro gv X mq hh o hX;have Q:=o.st c;refine AU ?_;exact BC O
     refine Cb.cons O O ?_ ?_
     ·intro gv X mq hh o hX;have Q:=o.st c;intro fx bv;obtain⟨em,_,_,bv⟩:=bv;cases bv;refine AU ?_;exact BC ⟨O,bq⟩
     refine Cb.cons O O ?_ ?_
     ·intro gv X mq hh o hX;have Q:=o.st c;refine AU ?_;exact BC O
     refine Cb.cons O O ?_ ?_
     ·intro gv X mq hh o hX;have Q:=o.st c;intro fy bw;obtain⟨en,_,_,bw⟩:=bw;cases bw;refine AU ?_;exact BC O
     refine Cb.cons O O ?_ ?_
     ·intro gv X mq hh o hX;have Q:=o.st c;intro f0 bx;obtain⟨eo,_,_,bx⟩:=bx;cases bx;refine AU ?_;exact BC O
     refine Cb.cons O O ?_ ?_
     ·intro gv X mq hh o hX;have Q:=o.st c;intro f1 bz;obtain⟨ep,_,_,bz⟩:=bz;cases bz;refine AU ?_;exact BC O
     refine Cb.cons O O ?_ ?_
     ·intro gv X mq hh o hX;have Q:=o.st c;intro f2 aw;obtain⟨dx,_,_,aw⟩:=aw;cases aw;refine AU ?_;exact BC O
     refine Cb.cons O O ?_ ?_
     ·intro gv X mq hh o hX;have Q:=o.st c;refine AU ?_;exact BC O
     refine Cb.cons O O ?_ ?_
     ·intro gv X mq hh o hX;have Q:=o.st c;intro eq ax;obtain⟨dy,_,_,ax⟩:=ax;cases ax;refine AU ?_;exact BC ⟨O,bq⟩
     refine Cb.cons O O ?_ ?_
     ·intro gv X mq hh o hX;have Q:=o.st c;intro er ay es az;obtain⟨dz,_,_,ay⟩:=ay;cases ay;obtain⟨d0,_,_,az⟩:=az;obtain⟨rfl,eu⟩:=az;refine AU ?_;refine Q8 (r:=AB) Q (mt (mt mh)) O O IP.1 cx O λev b0=>AU ?_;exact BC b0
     refine Cb.cons O O ?_ ?_
     ·intro gv X mq hh o hX;have Q:=o.st c;intro ew a0;obtain⟨d1,_,_,a0⟩:=a0;refine AU ?_;refine VO (r:=AB) K9 Q (mt (mt mh)) O cy a0 Hc.1 O λey d2 c2=>AU ?_;exact BC c2
     refine Cb.cons O O ?_ ?_
     ·intro gv X mq hh o hX;have Q:=o.st c;refine AU ?_;exact BC O
     refine Cb.cons O O ?_ ?_
     ·intro gv X mq hh o hX;have Q:=o.st c;intro ez a1;obtain⟨d3,_,_,a1⟩:=a1;cases a1;refine AU ?_;exact BC ⟨O,cn⟩
     refine Cb.cons O O ?_ ?_
     ·intro gv X mq hh o hX;have Q:=o.st c;refine AU ?_;exact BC O
     refine Cb.cons O O ?_ ?_
     ·intro gv X mq hh o hX;have Q:=o.st c;intro e0 a2;obtain⟨d4,_,_,a2⟩:=a2;cases a2;refine AU ?_;exact BC ⟨O,co⟩
     refine Cb.cons O O ?_ ?_
     ·intro gv X mq hh o hX;have Q:=o.st c;refine AU ?_;exact BC O
     refine Cb.cons O O ?_ ?_
     ·intro gv X mq hh o hX;have Q:=o.st c;intro e1 a3;obtain⟨d5,_,_,a3⟩:=a3;cases a3;refine AU ?_;exact BC ⟨O,dh⟩
     refine PK O O ?_ ?_
     ·intro gv X mq hh o hX;have Q:=SX.fz (X:=X) c o;intro e2 a4 e3 a5 e4 a6 e5 a7;obtain⟨d6,_,_,a4⟩:=a4;obtain⟨d7,_,_,a5⟩:=a5;obtain⟨rfl,c3⟩:=a5;obtain⟨d8,_,_,a6⟩:=a6;obtain⟨rfl,c4⟩:=a6;obtain⟨d9,_,_,a7⟩:=a7;obtain⟨rfl,c5⟩:=a7;refine GV O O O rJ O Q (Tq (St.all _) a4 c3 c4 c5 c0) λe6 e7 e8 ea c6 c7 p=>?_;have b1:=p;have a8:=Q.join c7 b1 ⟨OS.flat (λ{_ _ _ _ _ _} k=>k),trivial⟩;simp only[Aa4,Aav] at a8;have eb:=a8.pick (.tail .head);obtain⟨c8,b2,c9,e9,da⟩:=OW.done c.1 o hX c6 eb;exact BB c9 ⟨c8,b2,da⟩
     refine Cb.cons O O ?_ ?_
     ·intro gv X mq hh o hX;have Q:=o.st c;intro fa a9 fb ba;obtain⟨ec,_,_,a9⟩:=a9;cases a9;obtain⟨ed,_,_,ba⟩:=ba;obtain⟨rfl,fc⟩:=ba;refine AU ?_;refine Q8 (r:=AB) Q (mt (mt mh)) O O IP.1 c1 O λfd b3=>AU ?_;exact BC b3
     exact Cb.skip (by kernel_rfl) (trivial)
    intro fe ee ef bi bb b4 ff bc fg be;obtain⟨eg,bc⟩:=bc;obtain⟨eh,be⟩:=be;have bf:=(Xd.cons (Xd.nil c bi bb) b4 (j:=22) O bc).st;simp only[Aa4,Aav] at bf;have b5:=bf.sel [0,2,0,0,0,0,0,0,0,0,0] 0 O;obtain⟨fh,b6,E⟩:=bd E;refine Yx (r:=AB) (i:=am.Ar) O O be b6 Hc.1 b5 λfi b7 db=>AU ?_;refine WF.nil (λaa ww hf hw=>?_);have b8:=b7.sel [2,0,1,1,1,1,1,1,1] 1 O;have b9:=cm.trans (di.trans (du.trans ((SX.ext c.1 bi (gQ bb)).trans db)));exact⟨(upd l7 am.Ar cz),_,_,hf.sub (kp [9,8,0,10] O),hw,b8,b9,E⟩
   refine AU ?_;refine WF.nil (λaa ww hf hw=>?_);have ca:=c.sel [1,1,1,1,1,1,1,1,1] 1 O;exact⟨l7,_,_,hf.sub (kp [9,8,0,10] O),hw,ca,EX,E⟩
  rintro aa ww ⟨bg,fj,fk,hf,hw,cb,fl,E⟩;refine AK ?_ hf hw;clear hf hw ww aa;rw[GF] at E;refine AU ?_;refine WF.nil (λaa ww hf hw=>?_);exact⟨(A9 (i5+1)),bg,_,_,hf.sub (kp [9,8,0,10] O),hw,cb,EX,(BF _),E⟩
 refine KH O (WF.nil (λaa ww hf hw=>?_));cases E;exact JC hf O hw JB O ck ⟨_,O,bh⟩
def C1 (K:St S L h) {b:Value}{c:(List Int)}(k:Sl S h AB b c) {r:Int}(E:Cr N c=some r):
 B6 prog 18 #[b] S h (λv S' h'=>v=vI r∧AA r∧St S' (L) h'):=by
 refine A7 17 func18 O ntmps18 O λB=>?_;rw[Cr] at E;refine AU ?_;refine AN (λa w=>∃(y:Int),IV B S h (17,[]) a w [(3,vI y)] (L) λ_ _=>AA y∧IK N y=some r) ?_ ?_
 ·refine AY (λH=>λa w=>∃(q:Int) (d:Int),IV B S h (17,[]) a w [(7,vI (↑c.length:Int)),(6,b),(3,vI q),(8,vI d)] (L) λ_ _=>AA q∧AA d∧Gt N c (IK N) H q d=some r) N ?_ ?_ ?_
  ·intro m p g j;exact⟨0,0,_,_,g.sub (kp [7,6,3,8] O),j,K,(CG.refl S h),(iq (n:=0) O),(iq (n:=0) O),E⟩
  ·rintro m p ⟨_,_,_,_,_,_,_,_,_,_,E⟩;rw[Gt] at E;cases E
  rintro H m p ⟨q,d,M,Q,g,j,l,s,I,U,E⟩;refine AK ?_ g j;clear g j p m;rw[Gt] at E;refine AU ?_;refine AG O E (λz E=>?_) (λz E=>?_)
  ·refine AU ?_;refine A3 (AU ?_);have A:=k.mono' s;refine A4 E O O A Ce.1 O λV E W C=>?_;have D:=C.i;refine AU ?_;refine BY (.inl O) l (AU ?_);refine B4 E O O O Q0 O (λt u h' o=>HH (St.all h') I D u) λt E F=>?_;have G:=F;refine AU ?_;refine BG (kp [3,7,6,8] O) λX x Y=>BE (AU ?_);refine WF.nil (λm p g j=>?_);exact⟨t,(A9 (d+1)),_,_,g.sub (kp [7,6,3,8] O),j,x,EX,G,(BF _),E⟩
  refine A8 O (λm p g j=>?_);exact⟨q,_,_,g.sub (kp [3] O),j,l,s,I,E⟩
 rintro m p ⟨y,Z,ab,g,j,J,ac,r3,E⟩;refine AK ?_ g j;clear g j p m;rw[IK] at E;exact RT
def P8 {u:Nat}{p0_w:AL}{ac:Value}{af:Value}{ag:Value}{ah:Value}{ai:Value}{aj:Value}{ak:Value}{am:Value}{Q:Value}{U:Value}{V:Value}{W:Value}{X:Value}{q:Value}{c:Value}{z:Value}{d:Value}{t:Value}{g:Value}{Y:Value}{k:Value}{p:Value}(hs:St S (Bx u 160 [.string p0_w.b.J,ac,vI p0_w.b.P,af,ag,ah,ai,aj,ak,am,vI p0_w.b.S,Q,U,V,W,X,vI p0_w.s.C,q,c,z,d,t,g,Y,k,p]::OO AB 3 29 q p0_w.s.E::OS AB 3 c p0_w.s.M::OS BJ 106 d p0_w.s.O::OS AB 3 t p0_w.s.N::OS AB 3 g p0_w.s.L::OS BO 74 Y p0_w.moves::OS AB 3 k p0_w.peaks::OS AZ 121 p p0_w.sent::L) h) (db:p0_w.b.J.size≤maxLen) (bh:Sl S h A6.str ac p0_w.b.I) (dc:AA p0_w.b.P) (bi:Sl S h CJ af p0_w.b.A) (dd:Sl S h B7 ag p0_w.b.F) (de:Sl S h HO ah p0_w.b.Ab) (df:Sl S h Eh ai p0_w.b.Ae) (dg:Sl S h Gy aj p0_w.b.Af) (dh:Sl S h DD ak p0_w.b.Ai) (di:Sl S h AB am p0_w.b.Al) (b9:AA p0_w.b.S) (ar:Sl S h AB Q p0_w.in_.Aa) (ca:Sl S h Gm U p0_w.in_.Ah) (cb:Sl S h Jy V p0_w.in_.Aj) (cc:Sl S h Gl W p0_w.in_.Z) (cd:Sl S h Ha X p0_w.in_.Aq) (ce:AA p0_w.s.C) (a2:Sl S h AZ z p0_w.s.H) {r:(List (List Int))×(List Int)×(List AI)}(E:Ht N p0_w=some r):
 B6 prog 81 #[vP u 0] S h (λv S' h'=>∃a4 a5 a6:Value,v= .tuple #[]∧St S' (Bx u 160 [.string p0_w.b.J,ac,vI p0_w.b.P,af,ag,ah,ai,aj,ak,am,vI p0_w.b.S,Q,U,V,W,X,vI p0_w.s.C,a4,c,z,d,a5,g,a6,k,p]::OO AB 3 29 a4 r.1::OS AB 3 c p0_w.s.M::OS BJ 106 d p0_w.s.O::OS AB 3 a5 r.2.1::OS AB 3 g p0_w.s.L::OS BO 74 a6 r.2.2::OS AB 3 k p0_w.peaks::OS AZ 121 p p0_w.sent::L) h'):=by
 refine A7 137 func81 O ntmps81 O λB=>?_;rw[Ht] at E;refine AU ?_;refine fO hs (mt mh) O IP.1 O λb1=>AU ?_;refine AN (λa w=>∃(i2:Int),IV B S h (137,[]) a w [(0,vP u 0),(2,vI i2)] (Bx u 160 [.string p0_w.b.J,ac,vI p0_w.b.P,af,ag,ah,ai,aj,ak,am,vI p0_w.b.S,Q,U,V,W,X,vI p0_w.s.C,q,c,z,d,t,g,Y,k,p]::OO AB 3 29 q p0_w.s.E::OS AB 3 c p0_w.s.M::OS BJ 106 d p0_w.s.O::OS AB 3 t p0_w.s.N::OS AB 3 g p0_w.s.L::OS BO 74 Y p0_w.moves::OS AB 3 k p0_w.peaks::OS AZ 121 p p0_w.sent::L) λ_ _=>AA i2∧DO N p0_w i2=some r) ?_ ?_
 ·refine AY (λn1=>λa w=>∃(i8:Int) (bk:Int),IV B S h (137,[]) a w [(16,vI (↑p0_w.s.E.length:Int)),(15,q),(0,vP u 0),(2,vI i8),(17,vI bk)] (Bx u 160 [.string p0_w.b.J,ac,vI p0_w.b.P,af,ag,ah,ai,aj,ak,am,vI p0_w.b.S,Q,U,V,W,X,vI p0_w.s.C,q,c,z,d,t,g,Y,k,p]::OO AB 3 29 q p0_w.s.E::OS AB 3 c p0_w.s.M::OS BJ 106 d p0_w.s.O::OS AB 3 t p0_w.s.N::OS AB 3 g p0_w.s.L::OS BO 74 Y p0_w.moves::OS AB 3 k p0_w.peaks::OS AZ 121 p p0_w.sent::L) λ_ _=>AA i8∧AA bk∧C3 N p0_w (DO N p0_w) n1 i8 bk=some r) N ?_ ?_ ?_
  ·intro aa ww hf hw;exact⟨0,0,_,_,hf.sub (kp [16,15,0,2,17] O),hw,hs,(CG.refl S h),(iq (n:=0) O),(iq (n:=0) O),E⟩
  ·rintro aa ww ⟨_,_,_,_,_,_,_,_,_,_,E⟩;rw[C3] at E;cases E
  rintro n1 aa ww ⟨i8,bk,hd,he,hf,hw,a7,e6,r9,hg,E⟩;refine AK ?_ hf hw;clear hf hw ww aa;rw[C3] at E;refine AU ?_;refine AG O E (λe7 E=>?_) (λe7 E=>?_)
  ·refine AU ?_;refine A3 (AU ?_);obtain⟨hi,dj,E⟩:=bd E;refine Q8 (r:=AB) a7 (mt mh) O O IP.1 dj O λhj dk=>?_;obtain⟨hk,dl,E⟩:=bd E;refine VO (r:=AB) K9 a7 (mt mh) O dl dk Hc.1 O λhl fs e8=>AU ?_;refine BY (.inl O) a7 (AU ?_);refine B4 E O O O L9 O (λdm dn h' o=>C1 (St.all h') (e8.mono (λb hb=>Aak hb o.siz) (λb hb=>o.same b hb)) dn) λdm E e9=>?_;have hm:=e9;refine AU ?_;refine BG (kp [2,16,15,0,17] O) λhn dp ho=>BE (AU ?_);refine WF.nil (λaa ww hf hw=>?_);exact⟨(A9 (i8+dm)),(A9 (bk+1)),_,_,hf.sub (kp [16,15,0,2,17] O),hw,dp,EX,(BF _),(BF _),E⟩
  refine A8 O (λaa ww hf hw=>?_);exact⟨i8,_,_,hf.sub (kp [0,2] O),hw,a7,e6,r9,E⟩
 rintro aa ww ⟨i2,cf,cg,hf,hw,dq,fa,r3,E⟩;refine AK ?_ hf hw;clear hf hw ww aa;rw[DO] at E;have fb:=a2.mono' fa;refine AU ?_;refine AN (λa w=>∃(bl:Int),IV B cf cg (137,[]) a w [(0,vP u 0),(2,vI bl)] (Bx u 160 [.string p0_w.b.J,ac,vI p0_w.b.P,af,ag,ah,ai,aj,ak,am,vI p0_w.b.S,Q,U,V,W,X,vI p0_w.s.C,q,c,z,d,t,g,Y,k,p]::OO AB 3 29 q p0_w.s.E::OS AB 3 c p0_w.s.M::OS BJ 106 d p0_w.s.O::OS AB 3 t p0_w.s.N::OS AB 3 g p0_w.s.L::OS BO 74 Y p0_w.moves::OS AB 3 k p0_w.peaks::OS AZ 121 p p0_w.sent::L) λ_ _=>AA bl∧C4 N p0_w bl=some r) ?_ ?_
 ·refine AY (λn3=>λa w=>∃(bj:Int) (bm:Int),IV B cf cg (137,[]) a w [(31,vI (↑p0_w.s.H.length:Int)),(30,z),(0,vP u 0),(2,vI bj),(32,vI bm)] (Bx u 160 [.string p0_w.b.J,ac,vI p0_w.b.P,af,ag,ah,ai,aj,ak,am,vI p0_w.b.S,Q,U,V,W,X,vI p0_w.s.C,q,c,z,d,t,g,Y,k,p]::OO AB 3 29 q p0_w.s.E::OS AB 3 c p0_w.s.M::OS BJ 106 d p0_w.s.O::OS AB 3 t p0_w.s.N::OS AB 3 g p0_w.s.L::OS BO 74 Y p0_w.moves::OS AB 3 k p0_w.peaks::OS AZ 121 p p0_w.sent::L) λ_ _=>AA bj∧AA bm∧C2 N p0_w (C4 N p0_w) n3 bj bm=some r) N ?_ ?_ ?_
  ·intro aa ww hf hw;exact⟨i2,0,_,_,hf.sub (kp [31,30,0,2,32] O),hw,dq,(CG.refl cf cg),r3,(iq (n:=0) O),E⟩
  ·rintro aa ww ⟨_,_,_,_,_,_,_,_,_,_,E⟩;rw[C2] at E;cases E
  rintro n3 aa ww ⟨bj,bm,hp,hq,hf,hw,b2,dr,fc,hr,E⟩;refine AK ?_ hf hw;clear hf hw ww aa;rw[C2] at E;refine AU ?_;refine AG O E (λfd E=>?_) (λfd E=>?_)
  ·refine AU ?_;refine A3 (AU ?_);have fe:=fb.mono' dr;refine A4 E O O fe LA.1 O λht E hu ff=>?_;obtain⟨hv,_,fg⟩:=ff.lv;refine AU ?_;refine CP Nq O b2 λhx hy ds fh=>?_;have fi:=fg.mono fh;obtain⟨hz,rfl,h0,h1,fj⟩:=AZ.ex fi;refine DU O O O ON Ns.1 O ds .head O λh2 b3 fk=>AU ?_;refine BY (.inl O) b3 (AU ?_);have fl:=fj.mono' fk;refine B4 E O O O L9 O (λdt du h' o=>C1 (St.all h') (fl.mono' (o.all b3.1)) du) λdt E fm=>?_;have h3:=fm;refine AU ?_;refine BG (kp [2,31,30,0,32] O) λh4 dv h5=>BE (AU ?_);refine WF.nil (λaa ww hf hw=>?_);have dw:=dv.sel [1,1,1,1,1,1,1,1,1] 1 O;exact⟨(A9 (bj+dt)),(A9 (bm+1)),_,_,hf.sub (kp [31,30,0,2,32] O),hw,dw,EX,(BF _),(BF _),E⟩
  refine A8 O (λaa ww hf hw=>?_);exact⟨bj,_,_,hf.sub (kp [0,2] O),hw,b2,dr,fc,E⟩
 rintro aa ww ⟨bl,dx,h6,hf,hw,b4,h7,fn,E⟩;refine AK ?_ hf hw;clear hf hw ww aa;rw[C4] at E;refine AU ?_;refine BY (.inl O) b4 (AU ?_);refine B4 E O O O L9 O (λdy dz h' o=>C1 (St.all h') ((b4.oslAll (mt (mt (mt (mt mh))))).mono (λb hb=>Aak hb o.siz) (λb hb=>o.same b hb)) dz) λdy E fo=>?_;have fp:=fo;refine AU ?_;refine BG (kp [7,0,2] O) λd0 d1 h8=>?_;have h9:=bi.nw;refine AU ?_;refine A3 (AY (λn4=>λa w=>∃(an:Int) (ao:Int) (G:Int) (au:Value) (ap:List AI) (av:List (List Int)) (aq:List Int),IV B dx d0 (137,[]) a w [(53,vI (↑p0_w.b.A.length:Int)),(0,vP u 0),(2,vI an),(7,vI ao),(54,vI G)] (OS BO 74 au ap::Bx u 160 [.string p0_w.b.J,ac,vI p0_w.b.P,af,ag,ah,ai,aj,ak,am,vI p0_w.b.S,Q,U,V,W,X,vI p0_w.s.C,q,c,z,d,t,g,au,k,p]::OO AB 3 29 q av::OS AB 3 c p0_w.s.M::OS BJ 106 d p0_w.s.O::OS AB 3 t aq::OS AB 3 g p0_w.s.L::OS AB 3 k p0_w.peaks::OS AZ 121 p p0_w.sent::L) λ_ _=>AA an∧AA ao∧AA G∧CB N p0_w n4 an ao G ap av aq=some r) N ?_ ?_ ?_)
 ·intro aa ww hf hw;have ch:=d1.sel [6,0,0,0,0,0,0,0,0] 0 O;exact⟨bl,dy,0,Y,p0_w.moves,p0_w.s.E,p0_w.s.N,_,_,hf.sub (kp [53,0,2,7,54] O),hw,ch,(CG.refl dx d0),fn,fp,(iq (n:=0) O),E⟩
 ·rintro aa ww ⟨_,_,_,_,_,_,_,_,_,_,_,_,_,_,_,_,E⟩;rw[CB] at E;cases E
 rintro n4 aa ww ⟨an,ao,G,au,ap,av,aq,a8,a9,hf,hw,a3,ft,d2,d3,fu,E⟩;refine AK ?_ hf hw;clear hf hw ww aa;rw[CB] at E;refine AU ?_;refine AG O E (λd4 E=>?_) (λd4 E=>?_)
 ·refine AU ?_;refine AN (λa w=>∃(az:Int) (a0:Int) (ba:Value) (bb:List AI) (bc:List (List Int)) (be:List Int),IV B a8 a9 (137,[]) a w [(53,vI (↑p0_w.b.A.length:Int)),(0,vP u 0),(54,vI G),(2,vI az),(7,vI a0)] (OS BO 74 ba bb::Bx u 160 [.string p0_w.b.J,ac,vI p0_w.b.P,af,ag,ah,ai,aj,ak,am,vI p0_w.b.S,Q,U,V,W,X,vI p0_w.s.C,q,c,z,d,t,g,ba,k,p]::OO AB 3 29 q bc::OS AB 3 c p0_w.s.M::OS BJ 106 d p0_w.s.O::OS AB 3 t be::OS AB 3 g p0_w.s.L::OS AB 3 k p0_w.peaks::OS AZ 121 p p0_w.sent::L) λ_ _=>AA az∧AA a0∧EQ N G (CB N p0_w n4) az a0 bb bc be=some r) ?_ ?_
  ·have fv:=ar.nw;refine AU ?_;refine Gx (λa w=>∃(ab:Int),IV B a8 a9 (137,[]) a w [(8,vI G),(53,vI (↑p0_w.b.A.length:Int)),(0,vP u 0),(2,vI an),(7,vI ao),(54,vI G),(9,vI ab)] (OS BO 74 au ap::Bx u 160 [.string p0_w.b.J,ac,vI p0_w.b.P,af,ag,ah,ai,aj,ak,am,vI p0_w.b.S,Q,U,V,W,X,vI p0_w.s.C,q,c,z,d,t,g,au,k,p]::OO AB 3 29 q av::OS AB 3 c p0_w.s.M::OS BJ 106 d p0_w.s.O::OS AB 3 t aq::OS AB 3 g p0_w.s.L::OS AB 3 k p0_w.peaks::OS AZ 121 p p0_w.sent::L) λ_ _=>AA ab∧EO N p0_w an ao G ap av aq (EQ N G (CB N p0_w n4)) ab=some r) ?_ ?_
   ·refine AG O E (λd5 E=>?_) (λd5 E=>?_)
    ·refine AU ?_;have d6:=ar.nw;refine A4 E O O d6 Ce.1 O λd7 E fw d8=>?_;have d9:=d8.i;refine AU ?_;refine kH O O O O (AU ?_);refine WF.nil (λaa ww hf hw=>?_);exact⟨(min (min d7 (A9 (1125899906842624-an))) (A9 (1152921504606846976-ao))),_,_,hf.sub (kp [8,53,0,2,7,54,9] O),hw,a3,(CG.refl a8 a9),(Nc (Nc d9 (BF _)) (BF _)),E⟩
    refine AU ?_;refine WF.nil (λaa ww hf hw=>?_);exact⟨0,_,_,hf.sub (kp [8,53,0,2,7,54,9] O),hw,a3,(CG.refl a8 a9),(iq (n:=0) O),E⟩
   rintro aa ww ⟨ab,fx,fy,hf,hw,ax,ea,eb,E⟩;refine AK ?_ hf hw;clear hf hw ww aa;rw[EO] at E;refine AU ?_;refine AG O E (λec E=>?_) (λec E=>?_)
   ·refine A8 O (λaa ww hf hw=>?_);exact⟨an,ao,au,ap,av,aq,_,_,hf.sub (kp [53,0,54,2,7] O),hw,ax,ea,d2,d3,E⟩
   refine AU ?_;obtain⟨f0,ci,E⟩:=bd E;refine Q8 (r:=AB) ax (mt (mt mh)) O O IP.1 ci O λf1 bn=>?_;obtain⟨ed,bo,E⟩:=bd E;refine VO (r:=AB) K9 ax (mt (mt mh)) O bo bn Hc.1 O λf2 cj b5=>?_;obtain⟨bp,ck,E⟩:=bd E;refine Ym O O b5 Ce.1 ck O λf3 ee e5=>FU K9 (λ_ x=>x) O ee Gq.1 O λf4=>AU ?_;obtain⟨f5,bq,E⟩:=bd E;refine Ym O O b5 Ce.1 bq O λf6 f7 bx=>AU ?_;have cl:=ax.pick (.tail (.tail .head));refine kY (r:=AB) (i:=G) (j:=0) (y:=(A9 (bp+ab))) O O (⟨_,O,O,(BF _)⟩:Rd _ _ AB _ (A9 (bp+ab))) bn cj bx bo bq Gq.1 (λ_=>rfl) cl λf8 ay f9=>AU ?_;obtain⟨ga,cm,E⟩:=bd E;refine BT ay (mt (mt (mt (mt (mt mh))))) O O Ce.1 cm O λgb cn=>?_;obtain⟨b6,co,E⟩:=bd E;have ef:=ay.epAt (mt (mt (mt (mt (mt mh))))) co Ff.id cn;refine FU K9 (λ_ x=>x) O ef Gq.1 O λgc=>AU ?_;obtain⟨gd,cp,E⟩:=bd E;refine BT ay (mt (mt (mt (mt (mt mh))))) O O Ce.1 cp O λge cq=>AU ?_;obtain⟨eg,cr,E⟩:=bd E;refine FK (r:=AB) (l:=aq) (i:=0) (x:=eg) O O (⟨_,O,O,(BF _)⟩:Rd _ _ AB _ (A9 (b6+ab))) cq cr Nh.id Gq.1 (λ_=>rfl) ay (.tail (.tail (.tail (.tail (.tail .head))))) λgf ct gg=>?_;have gh:=bh.nw;refine AU ?_;obtain⟨cu,E⟩:=KM E;refine J2 (r:=AB) (zx:=0) H5 O ⟨O,by unfold AA;omega⟩ O O cu O O ct λeh gi br gj=>AU ?_;obtain⟨gl,cv,E⟩:=bd E;refine BT br mh O O Ce.1 cv O λgm cw=>AU ?_;obtain⟨ei,cx,E⟩:=bd E;refine FK (r:=AB) (l:=(List.replicate ((↑p0_w.b.I.length:Int):Int).toNat (0:Int))) (i:=0) (x:=ei) O O (⟨_,O,O,eb⟩:Rd _ _ AB _ ab) cw cx Nh.id Gq.1 (λ_=>rfl) br .head λb7 cy gn=>AU ?_;obtain⟨bs,aw,gp,ej⟩:=cy.pubs .head;refine Ta (m:=[(10,eh),(7,vI (A9 (ao+ab))),(2,vI (A9 (an+ab))),(8,vI G),(53,vI (↑p0_w.b.A.length:Int)),(0,vP u 0),(54,vI G)]) 14 [0] (λi v hh=>match i with|0=>v=vP u 0|1=>v=vP u 0|2=>v=vP u 0|3=>v=vP u 23|4=>v=au|5=>v=vP u 0|6=>v=vP u 0|7=>v=vP u 16|8=>v=vP u 16|9=>v=vI p0_w.s.C∧AA p0_w.s.C|10=>v=vI G∧AA G|11=>Sl bs hh AB v (upd (List.replicate ((↑p0_w.b.I.length:Int):Int).toNat (0:Int)) 0 ab)|12=>Rd bs hh BO v (⟨p0_w.s.C,(-1),G,(-4),(upd (List.replicate ((↑p0_w.b.I.length:Int):Int).toNat (0:Int)) 0 ab)⟩:AI)|13=>Sl (SN bs b7 hh) hh BO v ([(⟨p0_w.s.C,(-1),G,(-4),(upd (List.replicate ((↑p0_w.b.I.length:Int):Int).toNat (0:Int)) 0 ab)⟩:AI)]:List AI)∧∃ad,v= .slice (some ad) 1 1|_=>False) [[],[],[(1,120)],[(2,121)],[(3,122)],[],[(5,124)],[(6,125)],[(7,126)],[(8,127)],[],[],[(9,128),(10,129),(11,130)],[(12,131)]] [(0,119),(4,123),(13,132)] mo (by kernel_rfl) [10,7,2,8,53,0,54] O (by kernel_rfl) (by kernel_rfl) (by kernel_rfl) (kp [10,7,2,8,53,0,54] O) MO ?_ ?_ ?_
   ·refine Rv.cons [] (by kernel_rfl) O O (by kernel_rfl) ?_ ?_
    ·intro mq hh o;intro a hf;exact⟨vP u 0,NO hf O,O⟩
    exact trivial
   ·refine AV.cons O ET (AV.cons O ET (AV.cons O ET (AV.cons O ET (AV.cons O ET (AV.cons O ET (AV.cons O ET (AV.cons O ET (AV.cons O ET (AV.cons O ET (AV.cons O ET (AV.cons O ?_ ?_)))))))))))
    ·intro mq hh o;have cz:=o.st aw;refine AU ?_;have ek:=ej.mono' (o.ext aw.1);exact BC ek
    refine AV.cons O ?_ ?_
    ·intro mq hh o;intro gq el gr em en bf;have cz:=o.st aw;obtain⟨rfl,eo⟩:=el;obtain⟨rfl,ep⟩:=em;have bf:Sl _ _ AB en (upd (List.replicate ((↑p0_w.b.I.length:Int):Int).toNat (0:Int)) 0 ab):=bf;refine AU ?_;obtain⟨c0,bz,rfl,gs⟩:=(bf).len;refine FV (cs:=[vI p0_w.s.C,vI (-1),vI G,vI (-4),(.slice c0 (upd (List.replicate ((↑p0_w.b.I.length:Int):Int).toNat (0:Int)) 0 ab).length bz)]) T9 O O O (AU ?_);exact BC (BO.mk (x:=(⟨p0_w.s.C,(-1),G,(-4),(upd (List.replicate ((↑p0_w.b.I.length:Int):Int).toNat (0:Int)) 0 ab)⟩:AI)) eo (iq (n:=(-1)) O) ep (iq (n:=(-4)) O) bf)
    refine AV.cons O ?_ ?_
    ·intro mq hh o;intro eq a1;have cz:=SN.st aw o;have a1:=Rd.sn b7 a1;have a1:Rd _ _ BO eq (⟨p0_w.s.C,(-1),G,(-4),(upd (List.replicate ((↑p0_w.b.I.length:Int):Int).toNat (0:Int)) 0 ab)⟩:AI):=a1;have fq:=cz.fz;obtain⟨gt,rfl,er,es,eu,ev,b8⟩:=BO.ex a1;obtain⟨c1,b0,rfl,gu⟩:=(b8).len;refine Ez (cs:=[vI ((⟨p0_w.s.C,(-1),G,(-4),(upd (List.replicate ((↑p0_w.b.I.length:Int):Int).toNat (0:Int)) 0 ab)⟩:AI).C),vI ((⟨p0_w.s.C,(-1),G,(-4),(upd (List.replicate ((↑p0_w.b.I.length:Int):Int).toNat (0:Int)) 0 ab)⟩:AI).D),vI ((⟨p0_w.s.C,(-1),G,(-4),(upd (List.replicate ((↑p0_w.b.I.length:Int):Int).toNat (0:Int)) 0 ab)⟩:AI).B),vI ((⟨p0_w.s.C,(-1),G,(-4),(upd (List.replicate ((↑p0_w.b.I.length:Int):Int).toNat (0:Int)) 0 ab)⟩:AI).Ap),(.slice c1 ((⟨p0_w.s.C,(-1),G,(-4),(upd (List.replicate ((↑p0_w.b.I.length:Int):Int).toNat (0:Int)) 0 ab)⟩:AI).K).length b0)]) UT O O O O O O O fq λgv gw c2 ew=>?_;have ey:=b8.mono' ew;have c3:=c2.bxos (r:=BO) (l:=([(⟨p0_w.s.C,(-1),G,(-4),(upd (List.replicate ((↑p0_w.b.I.length:Int):Int).toNat (0:Int)) 0 ab)⟩:AI)]:List AI)) .head ⟨_,_,O,⟨_,O,er,es,eu,ev,ey⟩,O⟩ (by simp [maxLen]);obtain⟨gx,c4,gy,ez⟩:=c3.pubs .head;have bt:=Fz.done o EX c4;exact BB bt.1 ⟨Sl.mono' ez bt.2,_,O⟩
    exact trivial
   intro gz e0 g0 e1 g1 e2 g2 bu;have c5:=SN.st aw e0;cases e1;cases e2;obtain⟨bu,fr,rfl⟩:=bu;obtain⟨c6,E⟩:=KM E;refine KO (r:=BO) (l:=ap) (xs:=([(⟨p0_w.s.C,(-1),G,(-4),(upd (List.replicate ((↑p0_w.b.I.length:Int):Int).toNat (0:Int)) 0 ab)⟩:AI)]:List AI)) O O UT O (Sl.src bu) O c6 O c5 (λ_=>(.tail .head)) λg3 g4 bv g5=>AU ?_;obtain⟨bw,bg,rfl,g6⟩:=bv.oslen (mt mh);refine Ey (cs':=[.string p0_w.b.J,ac,vI p0_w.b.P,af,ag,ah,ai,aj,ak,am,vI p0_w.b.S,Q,U,V,W,X,vI p0_w.s.C,q,c,z,d,t,g,(.slice bw (ap++([(⟨p0_w.s.C,(-1),G,(-4),(upd (List.replicate ((↑p0_w.b.I.length:Int):Int).toNat (0:Int)) 0 ab)⟩:AI)]:List AI)).length bg),k,p]) O O O O aK.1 O bv (.tail (.tail .head)) O O λg7 c7 g8=>AU ?_;refine WF.nil (λaa ww hf hw=>?_);have c8:=c7.sel [1,1,0,0,0,0,0,0,0] 0 O;exact⟨(A9 (an+ab)),(A9 (ao+ab)),(.slice bw (ap++([(⟨p0_w.s.C,(-1),G,(-4),(upd (List.replicate ((↑p0_w.b.I.length:Int):Int).toNat (0:Int)) 0 ab)⟩:AI)]:List AI)).length bg),(ap++([(⟨p0_w.s.C,(-1),G,(-4),(upd (List.replicate ((↑p0_w.b.I.length:Int):Int).toNat (0:Int)) 0 ab)⟩:AI)]:List AI)),(upd av G (upd ed 0 (A9 (bp+ab)))),(upd aq 0 (A9 (b6+ab))),_,_,hf.sub (kp [53,0,54,2,7] O),hw,c8,EX,(BF _),(BF _),E⟩
  rintro aa ww ⟨az,a0,ba,bb,bc,be,g9,ha,hf,hw,c9,hc,e3,e4,E⟩;refine AK ?_ hf hw;clear hf hw ww aa;rw[EQ] at E;refine AU ?_;refine WF.nil (λaa ww hf hw=>?_);exact⟨az,a0,(A9 (G+1)),ba,bb,bc,be,_,_,hf.sub (kp [53,0,2,7,54] O),hw,c9,EX,e3,e4,(BF _),E⟩
 refine KH O (WF.nil (λaa ww hf hw=>?_));have da:=a3.sel [1,1,1,1,1,1,0,0,0] 0 O;cases E;exact JC hf O hw JB O EX ⟨_,_,_,O,da⟩
end Go.Proofs.YtedgiljmffngoaaGreat
