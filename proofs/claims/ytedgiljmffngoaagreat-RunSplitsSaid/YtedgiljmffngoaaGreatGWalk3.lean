import Derived.Test.YtedgiljmffngoaaGreatGInst
import Derived.Test.YtedgiljmffngoaaGreatGForms
import Derived.Test.YtedgiljmffngoaaGreatGWalk1
namespace Go.Proofs.YtedgiljmffngoaaGreat
set_option linter.all false
open Go.RowKit
open Go.Proofs.Tryz
set_option maxRecDepth 10000
set_option maxHeartbeats 2000000
variable {N:Nat}{S:Nat→Prop}{L:List HP}{h:AW}
def PB {g:Nat}{p0_w:AN}{af:Value}{ag:Value}{ah:Value}{ai:Value}{aj:Value}{ak:Value}{am:Value}{an:Value}{W:Value}{Y:Value}{ab:Value}{ac:Value}{l:Value}{d:Value}{q:Value}{ad:Value}{t:Value}{u:Value}{x:Value}{y:Value}{z:Value}{Q:Value}(hs:St S (Bx g 160 [.string p0_w.b.I,af,vI p0_w.b.O,ag,ah,ai,aj,ak,am,an,vI p0_w.b.R,W,Y,ab,ac,l,vI p0_w.s.B,d,q,ad,t,u,x,y,z,Q]::OO AB 3 29 d p0_w.s.D::OS AB 3 q p0_w.s.L::OS BL 106 t p0_w.s.M::OS AB 3 u p0_w.s.N::OS AB 3 x p0_w.s.K::OS BB 74 y p0_w.moves::OS AB 3 z p0_w.peaks::OS A3 121 Q p0_w.sent::L) h) (ce:p0_w.b.I.size≤maxLen) (ar:Sl S h A7.str af p0_w.b.H) (cf:AA p0_w.b.O) (aw:Sl S h B9 ag p0_w.b.A) (cg:Sl S h BZ ah p0_w.b.E) (ch:Sl S h HL ai p0_w.b.Ab) (ci:Sl S h Eu aj p0_w.b.Ad) (cj:Sl S h Gr ak p0_w.b.Ae) (ck:Sl S h DB am p0_w.b.Ag) (cl:Sl S h AB an p0_w.b.Ak) (bl:AA p0_w.b.R) (bm:Sl S h AB W p0_w.in_.Z) (bn:Sl S h Gf Y p0_w.in_.Ah) (bo:Sl S h Jp ab p0_w.in_.Aj) (bp:Sl S h Ge ac p0_w.in_.Aa) (au:Sl S h HV l p0_w.in_.Aq) (bq:AA p0_w.s.B) (br:Sl S h A3 ad p0_w.s.G) {r:(List (List Int))}(E:En N p0_w=some r):
 B0 prog 80 #[vP g 0] S h (λv S' h'=>∃av:Value,v= .tuple #[]∧St S' (Bx g 160 [.string p0_w.b.I,af,vI p0_w.b.O,ag,ah,ai,aj,ak,am,an,vI p0_w.b.R,W,Y,ab,ac,l,vI p0_w.s.B,av,q,ad,t,u,x,y,z,Q]::OO AB 3 29 av r::OS AB 3 q p0_w.s.L::OS BL 106 t p0_w.s.M::OS AB 3 u p0_w.s.N::OS AB 3 x p0_w.s.K::OS BB 74 y p0_w.moves::OS AB 3 z p0_w.peaks::OS A3 121 Q p0_w.sent::L) h'):=by
 refine BA 70 func80 O ntmps80 O λB=>?_;rw[En] at E;refine AU ?_;refine A5 (A4 (λn0=>λa w=>∃(i5:Int) (l7:List (List Int)),IV B S h (70,[]) a w [(9,vI (↑p0_w.in_.Aq.length:Int)),(8,l),(0,vP g 0),(10,vI i5)] (Bx g 160 [.string p0_w.b.I,af,vI p0_w.b.O,ag,ah,ai,aj,ak,am,an,vI p0_w.b.R,W,Y,ab,ac,l,vI p0_w.s.B,d,q,ad,t,u,x,y,z,Q]::OO AB 3 29 d l7::OS AB 3 q p0_w.s.L::OS BL 106 t p0_w.s.M::OS AB 3 u p0_w.s.N::OS AB 3 x p0_w.s.K::OS BB 74 y p0_w.moves::OS AB 3 z p0_w.peaks::OS A3 121 Q p0_w.sent::L) λ_ _=>AA i5∧CP N p0_w n0 i5 l7=some r) N ?_ ?_ ?_)
 ·intro aa ww hf hw;exact⟨0,p0_w.s.D,_,_,hf.sub (kp [9,8,0,10] O),hw,hs,(CB.refl S h),(iq (n:=0) O),E⟩
 ·rintro aa ww ⟨_,_,_,_,_,_,_,_,_,E⟩;rw[CP] at E;cases E
 rintro n0 aa ww ⟨i5,l7,S8,h9,hf,hw,bj,cm,r6,E⟩;refine AJ ?_ hf hw;clear hf hw ww aa;rw[CP] at E;refine AU ?_;refine AH O E (λde E=>?_) (λde E=>?_)
 ·refine AU ?_;refine AO (λa w=>∃(bi:List (List Int)),IV B S8 h9 (70,[]) a w [(9,vI (↑p0_w.in_.Aq.length:Int)),(8,l),(0,vP g 0),(10,vI i5)] (Bx g 160 [.string p0_w.b.I,af,vI p0_w.b.O,ag,ah,ai,aj,ak,am,an,vI p0_w.b.R,W,Y,ab,ac,l,vI p0_w.s.B,d,q,ad,t,u,x,y,z,Q]::OO AB 3 29 d bi::OS AB 3 q p0_w.s.L::OS BL 106 t p0_w.s.M::OS AB 3 u p0_w.s.N::OS AB 3 x p0_w.s.K::OS BB 74 y p0_w.moves::OS AB 3 z p0_w.peaks::OS A3 121 Q p0_w.sent::L) λ_ _=>GC N i5 (CP N p0_w n0) bi=some r) ?_ ?_
  ·refine AU ?_;have df:=au.mono' cm;refine AZ E O O df sl_58.1 O λao E fo dg=>?_;obtain⟨fp,_,dh⟩:=dg.lv;refine AU ?_;refine CO gP O bj λax fq cn co=>?_;have di:=dh.mono co;obtain⟨rfl,⟨bs,cp,cq,dj⟩⟩:=HV.ex di;refine Cu O O O O ty_251.1 O cn .head O λfr cr dk=>AU ?_;refine BX (.inr ⟨mo,by kernel_rfl⟩) cr ?_;have dl:=aw.nw;have dm:=dl.le;refine AU ?_;refine A8 E O O O Oa O (λcs ct h' o=>HD (St.all h') bs (Je dm) ct) λcs E=>AU ?_;obtain⟨cu,ap,E⟩:=bd E;refine AY 10 33 (.bool cu) ?_ ?_
   ·cases cv:cs
    ·have ap:=GW cv ap;cases ap;exact BF O O
    have ap:=GV cv ap;have dn:=ar.nw;have dp:=dn.le;refine AU ?_;refine A8 ap O O O Oa O (λdq cw h' o=>HD (St.all h') cp (Je dp) cw) λdq ap=>AU ?_;cases ap;exact A0 O
   refine AU ?_;obtain⟨dr,aq,E⟩:=bd E;refine AY 10 44 (.bool dr) ?_ ?_
   ·cases cx:cu
    ·have aq:=GW cx aq;cases aq;exact BF O O
    have aq:=GV cx aq;have ds:=ar.nw;have dt:=ds.le;refine AU ?_;refine A8 aq O O O Oa O (λdu cy h' o=>HD (St.all h') cq (Je dt) cy) λdu aq=>AU ?_;cases aq;exact A0 O
   refine BK (kp [44,3,9,8,0,10] O) λdv c dw=>AH O E (λdx E=>?_) (λdx E=>?_)
   ·obtain ⟨fs,cz,E⟩:=bd E;obtain⟨dy,c0,E⟩:=bd E;obtain⟨c1,c2,E⟩:=bd E;obtain⟨ft,c3,E⟩:=bd E;refine UD (m:=[(3,vP ax 0),(9,vI (↑p0_w.in_.Aq.length:Int)),(8,l),(0,vP g 0),(10,vI i5)]) [24] [] [] (by kernel_rfl) (λgv X F i v hh=>match i with|0=>v=vP g 0|1=>v=vP g 0|2=>v=vP g 16|3=>v=vP g 17|4=>v=d|5=>v=vP ax 0|6=>v=vI ao.Ap∧AA ao.Ap|7=>v=vP g 0|8=>v=vP g 0|9=>v=vP g 16|10=>v=vP g 17|11=>v=d|12=>v=vP ax 0|13=>v=vI ao.Ap∧AA ao.Ap|14=>EP d (ao.Ap.toNat*((A7.sl AB)).sz+0) v|15=>Sl (λb=>b<hh.size) hh AB v dy|16=>v=vP ax 1|17=>v=vI ao.J∧AA ao.J|18=>v=vP ax 2|19=>v=vI ao.C∧AA ao.C|20=>v=vP ax 3|21=>v=vI ao.Bd∧AA ao.Bd|22=>OW S8 dv X F [OS AB 3 v c1] hh|23=>EP d (ao.Ap.toNat*((A7.sl AB)).sz+0) v|_=>False) [[],[(0,45)],[(1,46)],[(2,47)],[(3,48)],[],[(5,50)],[],[(7,52)],[(8,53)],[(9,54)],[(10,55)],[],[(12,57)],[(11,56),(13,58)],[(14,59)],[],[(16,61)],[],[(18,63)],[],[(20,65)],[(15,60),(17,62),(19,64),(21,66)],[(4,49),(6,51)],[]] [(22,67),(23,68)] mo (by kernel_rfl) [3,9,8,0,10] O (by kernel_rfl) (by kernel_rfl) (by kernel_rfl) O (kp [3,9,8,0,10] O) (λgv i v h1 h2 X X' F o1 o2 hF u1 u2 U=>?_) (λgv fu X F i v h1 hz U=>?_) ?_ ?_ ?_
    ·match i,U with
      |0,U|1,U|2,U|3,U|4,U|5,U|6,U|7,U|8,U|9,U|10,U|11,U|12,U|13,U|14,U|16,U|17,U|18,U|19,U|20,U|21,U|23,U=>exact U
      |15,U=>exact Sl.mono U (λb hb=>tZ hb o2.siz) (λb hb=>o2.same b hb)
      |22,U=>exact OW.mono c.1 o1 o2 hF u1 u2 U
      |_+24,U=>exact U.elim
    ·match i,U with
      |0,U|1,U|2,U|3,U|4,U|5,U|6,U|7,U|8,U|9,U|10,U|11,U|12,U|13,U|14,U|15,U|16,U|17,U|18,U|19,U|20,U|21,U|22,U|23,U=>exact U
      |_+24,U=>exact U.elim
    ·exact trivial
    ·refine CU.cons O O ?_ ?_
     ·intro gv X mq hh o hX;have V:=o.st c;refine AU ?_;exact AS O
     refine CU.cons O O ?_ ?_
     ·intro gv X mq hh o hX;have V:=o.st c;intro fv bt;obtain⟨ek,_,_,bt⟩:=bt;cases bt;refine AU ?_;exact AS O
     refine CU.cons O O ?_ ?_
     ·intro gv X mq hh o hX;have V:=o.st c;intro fw bu;obtain⟨el,_,_,bu⟩:=bu;cases bu;refine AU ?_;exact AS O
     refine CU.cons O O ?_ ?_
     ·intro gv X mq hh o hX;have V:=o.st c;intro fx bv;obtain⟨em,_,_,bv⟩:=bv;cases bv;refine AU ?_;exact AS O
     refine CU.cons O O ?_ ?_
     ·intro gv X mq hh o hX;have V:=o.st c;intro fy bw;obtain⟨en,_,_,bw⟩:=bw;cases bw;refine AU ?_;exact AS O
     refine CU.cons O O ?_ ?_
     ·intro gv X mq hh o hX;have V:=o.st c;refine AU ?_;exact AS O
     refine CU.cons O O ?_ ?_
     ·intro gv X mq hh o hX;have V:=o.st c;intro f0 bx;obtain⟨eo,_,_,bx⟩:=bx;cases bx;refine AU ?_;exact AS ⟨O,bs⟩
     refine CU.cons O O ?_ ?_
     ·intro gv X mq hh o hX;have V:=o.st c;refine AU ?_;exact AS O
     refine CU.cons O O ?_ ?_
     ·intro gv X mq hh o hX;have V:=o.st c;intro f1 bz;obtain⟨ep,_,_,bz⟩:=bz;cases bz;refine AU ?_;exact AS O
     refine CU.cons O O ?_ ?_
     ·intro gv X mq hh o hX;have V:=o.st c;intro f2 b0;obtain⟨eq,_,_,b0⟩:=b0;cases b0;refine AU ?_;exact AS O
     refine CU.cons O O ?_ ?_
     ·intro gv X mq hh o hX;have V:=o.st c;intro f3 b1;obtain⟨er,_,_,b1⟩:=b1;cases b1;refine AU ?_;exact AS O
     refine CU.cons O O ?_ ?_
     ·intro gv X mq hh o hX;have V:=o.st c;intro f4 ay;obtain⟨dz,_,_,ay⟩:=ay;cases ay;refine AU ?_;exact AS O
     refine CU.cons O O ?_ ?_
     ·intro gv X mq hh o hX;have V:=o.st c;refine AU ?_;exact AS O
     refine CU.cons O O ?_ ?_
     ·intro gv X mq hh o hX;have V:=o.st c;intro es az;obtain⟨d0,_,_,az⟩:=az;cases az;refine AU ?_;exact AS ⟨O,bs⟩
     refine CU.cons O O ?_ ?_
     ·intro gv X mq hh o hX;have V:=o.st c;intro eu a0 ev a1;obtain⟨d1,_,_,a0⟩:=a0;cases a0;obtain⟨d2,_,_,a1⟩:=a1;obtain⟨rfl,ew⟩:=a1;refine AU ?_;refine QL (r:=AB) V (mt (mt mh)) O O sl_32.1 cz O λey b2=>AU ?_;exact AS b2
     refine CU.cons O O ?_ ?_
     ·intro gv X mq hh o hX;have V:=o.st c;intro ez a2;obtain⟨d3,_,_,a2⟩:=a2;refine AU ?_;refine UM (r:=AB) K9 V (mt (mt mh)) O c0 a2 ty_29.1 O λe0 d4 c4=>AU ?_;exact AS c4
     refine CU.cons O O ?_ ?_
     ·intro gv X mq hh o hX;have V:=o.st c;refine AU ?_;exact AS O
     refine CU.cons O O ?_ ?_
     ·intro gv X mq hh o hX;have V:=o.st c;intro e1 a3;obtain⟨d5,_,_,a3⟩:=a3;cases a3;refine AU ?_;exact AS ⟨O,cp⟩
     refine CU.cons O O ?_ ?_
     ·intro gv X mq hh o hX;have V:=o.st c;refine AU ?_;exact AS O
     refine CU.cons O O ?_ ?_
     ·intro gv X mq hh o hX;have V:=o.st c;intro e2 a4;obtain⟨d6,_,_,a4⟩:=a4;cases a4;refine AU ?_;exact AS ⟨O,cq⟩
     refine CU.cons O O ?_ ?_
     ·intro gv X mq hh o hX;have V:=o.st c;refine AU ?_;exact AS O
     refine CU.cons O O ?_ ?_
     ·intro gv X mq hh o hX;have V:=o.st c;intro e3 a5;obtain⟨d7,_,_,a5⟩:=a5;cases a5;refine AU ?_;exact AS ⟨O,dj⟩
     refine Ok O O ?_ ?_
     ·intro gv X mq hh o hX;have V:=SX.fz (X:=X) c o;intro e4 a6 e5 a7 e6 a8 e7 a9;obtain⟨d8,_,_,a6⟩:=a6;obtain⟨d9,_,_,a7⟩:=a7;obtain⟨rfl,c5⟩:=a7;obtain⟨ea,_,_,a8⟩:=a8;obtain⟨rfl,c6⟩:=a8;obtain⟨eb,_,_,a9⟩:=a9;obtain⟨rfl,c7⟩:=a9;refine E6 O O O lO O V (Sj (St.all _) a6 c5 c6 c7 c2) λe8 e9 fa ec c8 c9 p=>?_;have b3:=p;have ba:=V.join c9 b3 ⟨OS.flat (λ{_ _ _ _ _ _} k=>k),trivial⟩;simp only[uV,uK] at ba;have ed:=ba.pick (.tail .head);obtain⟨da,b4,db,fb,dc⟩:=OW.done c.1 o hX c8 ed;exact A9 db ⟨da,b4,dc⟩
     refine CU.cons O O ?_ ?_
     ·intro gv X mq hh o hX;have V:=o.st c;intro fc bb fd bc;obtain⟨ee,_,_,bb⟩:=bb;cases bb;obtain⟨ef,_,_,bc⟩:=bc;obtain⟨rfl,fe⟩:=bc;refine AU ?_;refine QL (r:=AB) V (mt (mt mh)) O O sl_32.1 c3 O λff b5=>AU ?_;exact AS b5
     exact CU.skip (by kernel_rfl) (trivial)
    intro fg eg eh bk be b6 fh bf fi bg;obtain⟨ei,bf⟩:=bf;obtain⟨ej,bg⟩:=bg;have bh:=(WM.cons (WM.nil c bk be) b6 (j:=22) O bf).st;simp only[uV,uK] at bh;have b7:=bh.sel [0,2,0,0,0,0,0,0,0,0,0] 0 O;obtain⟨fj,b8,E⟩:=bd E;refine Xe (r:=AB) (i:=ao.Ap) O O bg b8 ty_29.1 b7 λfk b9 dd=>AU ?_;refine WF.nil (λaa ww hf hw=>?_);have ca:=b9.sel [2,0,1,1,1,1,1,1,1] 1 O;have cb:=co.trans (dk.trans (dw.trans ((SX.ext c.1 bk (cA be)).trans dd)));exact⟨(upd l7 ao.Ap c1),_,_,hf.sub (kp [9,8,0,10] O),hw,ca,cb,E⟩
   refine AU ?_;refine WF.nil (λaa ww hf hw=>?_);have cc:=c.sel [1,1,1,1,1,1,1,1,1] 1 O;exact⟨l7,_,_,hf.sub (kp [9,8,0,10] O),hw,cc,EX,E⟩
  rintro aa ww ⟨bi,fl,fm,hf,hw,cd,fn,E⟩;refine AJ ?_ hf hw;clear hf hw ww aa;rw[GC] at E;refine AU ?_;refine WF.nil (λaa ww hf hw=>?_);exact⟨(BD (i5+1)),bi,_,_,hf.sub (kp [9,8,0,10] O),hw,cd,EX,(BI _),E⟩
 refine J6 O (WF.nil (λaa ww hf hw=>?_));cases E;exact JC hf O hw JB O cm ⟨_,O,bj⟩
def D0 (K:St S L h) {b:Value}{c:(List Int)}(k:Sl S h AB b c) {r:Int}(E:DF N c=some r):
 B0 prog 18 #[b] S h (λv S' h'=>v=vI r∧AA r∧St S' (L) h'):=by
 refine BA 17 func18 O ntmps18 O λB=>?_;rw[DF] at E;refine AU ?_;refine AO (λa w=>∃(y:Int),IV B S h (17,[]) a w [(3,vI y)] (L) λ_ _=>AA y∧IF N y=some r) ?_ ?_
 ·refine A4 (λH=>λa w=>∃(q:Int) (d:Int),IV B S h (17,[]) a w [(7,vI (↑c.length:Int)),(6,b),(3,vI q),(8,vI d)] (L) λ_ _=>AA q∧AA d∧Gn N c (IF N) H q d=some r) N ?_ ?_ ?_
  ·intro m p g j;exact⟨0,0,_,_,g.sub (kp [7,6,3,8] O),j,K,(CB.refl S h),(iq (n:=0) O),(iq (n:=0) O),E⟩
  ·rintro m p ⟨_,_,_,_,_,_,_,_,_,_,E⟩;rw[Gn] at E;cases E
  rintro H m p ⟨q,d,M,Q,g,j,l,s,I,U,E⟩;refine AJ ?_ g j;clear g j p m;rw[Gn] at E;refine AU ?_;refine AH O E (λz E=>?_) (λz E=>?_)
  ·refine AU ?_;refine A5 (AU ?_);have A:=k.mono' s;refine AZ E O O A sl_29.1 O λV E W C=>?_;have D:=C.i;refine AU ?_;refine BX (.inl O) l (AU ?_);refine CA E O O O Q9 O (λt u h' o=>Ho (St.all h') I D u) λt E F=>?_;have G:=F;refine AU ?_;refine BK (kp [3,7,6,8] O) λX x Y=>BE (AU ?_);refine WF.nil (λm p g j=>?_);exact⟨t,(BD (d+1)),_,_,g.sub (kp [7,6,3,8] O),j,x,EX,G,(BI _),E⟩
  refine BC O (λm p g j=>?_);exact⟨q,_,_,g.sub (kp [3] O),j,l,s,I,E⟩
 rintro m p ⟨y,Z,ab,g,j,J,ac,r3,E⟩;refine AJ ?_ g j;clear g j p m;rw[IF] at E;exact RT
def PW {u:Nat}{p0_w:AN}{ac:Value}{af:Value}{ag:Value}{ah:Value}{ai:Value}{aj:Value}{ak:Value}{am:Value}{Q:Value}{U:Value}{V:Value}{W:Value}{X:Value}{q:Value}{c:Value}{z:Value}{d:Value}{t:Value}{g:Value}{Y:Value}{k:Value}{p:Value}(hs:St S (Bx u 160 [.string p0_w.b.I,ac,vI p0_w.b.O,af,ag,ah,ai,aj,ak,am,vI p0_w.b.R,Q,U,V,W,X,vI p0_w.s.B,q,c,z,d,t,g,Y,k,p]::OO AB 3 29 q p0_w.s.D::OS AB 3 c p0_w.s.L::OS BL 106 d p0_w.s.M::OS AB 3 t p0_w.s.N::OS AB 3 g p0_w.s.K::OS BB 74 Y p0_w.moves::OS AB 3 k p0_w.peaks::OS A3 121 p p0_w.sent::L) h) (db:p0_w.b.I.size≤maxLen) (bh:Sl S h A7.str ac p0_w.b.H) (dc:AA p0_w.b.O) (bi:Sl S h B9 af p0_w.b.A) (dd:Sl S h BZ ag p0_w.b.E) (de:Sl S h HL ah p0_w.b.Ab) (df:Sl S h Eu ai p0_w.b.Ad) (dg:Sl S h Gr aj p0_w.b.Ae) (dh:Sl S h DB ak p0_w.b.Ag) (di:Sl S h AB am p0_w.b.Ak) (b9:AA p0_w.b.R) (ar:Sl S h AB Q p0_w.in_.Z) (ca:Sl S h Gf U p0_w.in_.Ah) (cb:Sl S h Jp V p0_w.in_.Aj) (cc:Sl S h Ge W p0_w.in_.Aa) (cd:Sl S h HV X p0_w.in_.Aq) (ce:AA p0_w.s.B) (a2:Sl S h A3 z p0_w.s.G) {r:(List (List Int))×(List Int)×(List AK)}(E:In N p0_w=some r):
 B0 prog 81 #[vP u 0] S h (λv S' h'=>∃a4 a5 a6:Value,v= .tuple #[]∧St S' (Bx u 160 [.string p0_w.b.I,ac,vI p0_w.b.O,af,ag,ah,ai,aj,ak,am,vI p0_w.b.R,Q,U,V,W,X,vI p0_w.s.B,a4,c,z,d,a5,g,a6,k,p]::OO AB 3 29 a4 r.1::OS AB 3 c p0_w.s.L::OS BL 106 d p0_w.s.M::OS AB 3 a5 r.2.1::OS AB 3 g p0_w.s.K::OS BB 74 a6 r.2.2::OS AB 3 k p0_w.peaks::OS A3 121 p p0_w.sent::L) h'):=by
 refine BA 137 func81 O ntmps81 O λB=>?_;rw[In] at E;refine AU ?_;refine bD hs (mt mh) O sl_32.1 O λb1=>AU ?_;refine AO (λa w=>∃(i2:Int),IV B S h (137,[]) a w [(0,vP u 0),(2,vI i2)] (Bx u 160 [.string p0_w.b.I,ac,vI p0_w.b.O,af,ag,ah,ai,aj,ak,am,vI p0_w.b.R,Q,U,V,W,X,vI p0_w.s.B,q,c,z,d,t,g,Y,k,p]::OO AB 3 29 q p0_w.s.D::OS AB 3 c p0_w.s.L::OS BL 106 d p0_w.s.M::OS AB 3 t p0_w.s.N::OS AB 3 g p0_w.s.K::OS BB 74 Y p0_w.moves::OS AB 3 k p0_w.peaks::OS A3 121 p p0_w.sent::L) λ_ _=>AA i2∧Dy N p0_w i2=some r) ?_ ?_
 ·refine A4 (λn1=>λa w=>∃(i8:Int) (bk:Int),IV B S h (137,[]) a w [(16,vI (↑p0_w.s.D.length:Int)),(15,q),(0,vP u 0),(2,vI i8),(17,vI bk)] (Bx u 160 [.string p0_w.b.I,ac,vI p0_w.b.O,af,ag,ah,ai,aj,ak,am,vI p0_w.b.R,Q,U,V,W,X,vI p0_w.s.B,q,c,z,d,t,g,Y,k,p]::OO AB 3 29 q p0_w.s.D::OS AB 3 c p0_w.s.L::OS BL 106 d p0_w.s.M::OS AB 3 t p0_w.s.N::OS AB 3 g p0_w.s.K::OS BB 74 Y p0_w.moves::OS AB 3 k p0_w.peaks::OS A3 121 p p0_w.sent::L) λ_ _=>AA i8∧AA bk∧Dw N p0_w (Dy N p0_w) n1 i8 bk=some r) N ?_ ?_ ?_
  ·intro aa ww hf hw;exact⟨0,0,_,_,hf.sub (kp [16,15,0,2,17] O),hw,hs,(CB.refl S h),(iq (n:=0) O),(iq (n:=0) O),E⟩
  ·rintro aa ww ⟨_,_,_,_,_,_,_,_,_,_,E⟩;rw[Dw] at E;cases E
  rintro n1 aa ww ⟨i8,bk,hd,he,hf,hw,a7,e6,r9,hg,E⟩;refine AJ ?_ hf hw;clear hf hw ww aa;rw[Dw] at E;refine AU ?_;refine AH O E (λe7 E=>?_) (λe7 E=>?_)
  ·refine AU ?_;refine A5 (AU ?_);obtain⟨hi,dj,E⟩:=bd E;refine QL (r:=AB) a7 (mt mh) O O sl_32.1 dj O λhj dk=>?_;obtain⟨hk,dl,E⟩:=bd E;refine UM (r:=AB) K9 a7 (mt mh) O dl dk ty_29.1 O λhl fs e8=>AU ?_;refine BX (.inl O) a7 (AU ?_);refine CA E O O O NJ O (λdm dn h' o=>D0 (St.all h') (e8.mono (λb hb=>tZ hb o.siz) (λb hb=>o.same b hb)) dn) λdm E e9=>?_;have hm:=e9;refine AU ?_;refine BK (kp [2,16,15,0,17] O) λhn dp ho=>BE (AU ?_);refine WF.nil (λaa ww hf hw=>?_);exact⟨(BD (i8+dm)),(BD (bk+1)),_,_,hf.sub (kp [16,15,0,2,17] O),hw,dp,EX,(BI _),(BI _),E⟩
  refine BC O (λaa ww hf hw=>?_);exact⟨i8,_,_,hf.sub (kp [0,2] O),hw,a7,e6,r9,E⟩
 rintro aa ww ⟨i2,cf,cg,hf,hw,dq,fa,r3,E⟩;refine AJ ?_ hf hw;clear hf hw ww aa;rw[Dy] at E;have fb:=a2.mono' fa;refine AU ?_;refine AO (λa w=>∃(bl:Int),IV B cf cg (137,[]) a w [(0,vP u 0),(2,vI bl)] (Bx u 160 [.string p0_w.b.I,ac,vI p0_w.b.O,af,ag,ah,ai,aj,ak,am,vI p0_w.b.R,Q,U,V,W,X,vI p0_w.s.B,q,c,z,d,t,g,Y,k,p]::OO AB 3 29 q p0_w.s.D::OS AB 3 c p0_w.s.L::OS BL 106 d p0_w.s.M::OS AB 3 t p0_w.s.N::OS AB 3 g p0_w.s.K::OS BB 74 Y p0_w.moves::OS AB 3 k p0_w.peaks::OS A3 121 p p0_w.sent::L) λ_ _=>AA bl∧Dx N p0_w bl=some r) ?_ ?_
 ·refine A4 (λn3=>λa w=>∃(bj:Int) (bm:Int),IV B cf cg (137,[]) a w [(31,vI (↑p0_w.s.G.length:Int)),(30,z),(0,vP u 0),(2,vI bj),(32,vI bm)] (Bx u 160 [.string p0_w.b.I,ac,vI p0_w.b.O,af,ag,ah,ai,aj,ak,am,vI p0_w.b.R,Q,U,V,W,X,vI p0_w.s.B,q,c,z,d,t,g,Y,k,p]::OO AB 3 29 q p0_w.s.D::OS AB 3 c p0_w.s.L::OS BL 106 d p0_w.s.M::OS AB 3 t p0_w.s.N::OS AB 3 g p0_w.s.K::OS BB 74 Y p0_w.moves::OS AB 3 k p0_w.peaks::OS A3 121 p p0_w.sent::L) λ_ _=>AA bj∧AA bm∧Dv N p0_w (Dx N p0_w) n3 bj bm=some r) N ?_ ?_ ?_
  ·intro aa ww hf hw;exact⟨i2,0,_,_,hf.sub (kp [31,30,0,2,32] O),hw,dq,(CB.refl cf cg),r3,(iq (n:=0) O),E⟩
  ·rintro aa ww ⟨_,_,_,_,_,_,_,_,_,_,E⟩;rw[Dv] at E;cases E
  rintro n3 aa ww ⟨bj,bm,hp,hq,hf,hw,b2,dr,fc,hr,E⟩;refine AJ ?_ hf hw;clear hf hw ww aa;rw[Dv] at E;refine AU ?_;refine AH O E (λfd E=>?_) (λfd E=>?_)
  ·refine AU ?_;refine A5 (AU ?_);have fe:=fb.mono' dr;refine AZ E O O fe sl_33.1 O λht E hu ff=>?_;obtain⟨hv,_,fg⟩:=ff.lv;refine AU ?_;refine CO OC O b2 λhx hy ds fh=>?_;have fi:=fg.mono fh;obtain⟨hz,rfl,h0,h1,fj⟩:=A3.ex fi;refine Dk O O O ON ty_121.1 O ds .head O λh2 b3 fk=>AU ?_;refine BX (.inl O) b3 (AU ?_);have fl:=fj.mono' fk;refine CA E O O O NJ O (λdt du h' o=>D0 (St.all h') (fl.mono' (o.all b3.1)) du) λdt E fm=>?_;have h3:=fm;refine AU ?_;refine BK (kp [2,31,30,0,32] O) λh4 dv h5=>BE (AU ?_);refine WF.nil (λaa ww hf hw=>?_);have dw:=dv.sel [1,1,1,1,1,1,1,1,1] 1 O;exact⟨(BD (bj+dt)),(BD (bm+1)),_,_,hf.sub (kp [31,30,0,2,32] O),hw,dw,EX,(BI _),(BI _),E⟩
  refine BC O (λaa ww hf hw=>?_);exact⟨bj,_,_,hf.sub (kp [0,2] O),hw,b2,dr,fc,E⟩
 rintro aa ww ⟨bl,dx,h6,hf,hw,b4,h7,fn,E⟩;refine AJ ?_ hf hw;clear hf hw ww aa;rw[Dx] at E;refine AU ?_;refine BX (.inl O) b4 (AU ?_);refine CA E O O O NJ O (λdy dz h' o=>D0 (St.all h') ((b4.oslAll (mt (mt (mt (mt mh))))).mono (λb hb=>tZ hb o.siz) (λb hb=>o.same b hb)) dz) λdy E fo=>?_;have fp:=fo;refine AU ?_;refine BK (kp [7,0,2] O) λd0 d1 h8=>?_;have h9:=bi.nw;refine AU ?_;refine A5 (A4 (λn4=>λa w=>∃(an:Int) (ao:Int) (F:Int) (au:Value) (ap:List AK) (av:List (List Int)) (aq:List Int),IV B dx d0 (137,[]) a w [(53,vI (↑p0_w.b.A.length:Int)),(0,vP u 0),(2,vI an),(7,vI ao),(54,vI F)] (OS BB 74 au ap::Bx u 160 [.string p0_w.b.I,ac,vI p0_w.b.O,af,ag,ah,ai,aj,ak,am,vI p0_w.b.R,Q,U,V,W,X,vI p0_w.s.B,q,c,z,d,t,g,au,k,p]::OO AB 3 29 q av::OS AB 3 c p0_w.s.L::OS BL 106 d p0_w.s.M::OS AB 3 t aq::OS AB 3 g p0_w.s.K::OS AB 3 k p0_w.peaks::OS A3 121 p p0_w.sent::L) λ_ _=>AA an∧AA ao∧AA F∧Cb N p0_w n4 an ao F ap av aq=some r) N ?_ ?_ ?_)
 ·intro aa ww hf hw;have ch:=d1.sel [6,0,0,0,0,0,0,0,0] 0 O;exact⟨bl,dy,0,Y,p0_w.moves,p0_w.s.D,p0_w.s.N,_,_,hf.sub (kp [53,0,2,7,54] O),hw,ch,(CB.refl dx d0),fn,fp,(iq (n:=0) O),E⟩
 ·rintro aa ww ⟨_,_,_,_,_,_,_,_,_,_,_,_,_,_,_,_,E⟩;rw[Cb] at E;cases E
 rintro n4 aa ww ⟨an,ao,F,au,ap,av,aq,a8,a9,hf,hw,a3,ft,d2,d3,fu,E⟩;refine AJ ?_ hf hw;clear hf hw ww aa;rw[Cb] at E;refine AU ?_;refine AH O E (λd4 E=>?_) (λd4 E=>?_)
 ·refine AU ?_;refine AO (λa w=>∃(az:Int) (a0:Int) (ba:Value) (bb:List AK) (bc:List (List Int)) (be:List Int),IV B a8 a9 (137,[]) a w [(53,vI (↑p0_w.b.A.length:Int)),(0,vP u 0),(54,vI F),(2,vI az),(7,vI a0)] (OS BB 74 ba bb::Bx u 160 [.string p0_w.b.I,ac,vI p0_w.b.O,af,ag,ah,ai,aj,ak,am,vI p0_w.b.R,Q,U,V,W,X,vI p0_w.s.B,q,c,z,d,t,g,ba,k,p]::OO AB 3 29 q bc::OS AB 3 c p0_w.s.L::OS BL 106 d p0_w.s.M::OS AB 3 t be::OS AB 3 g p0_w.s.K::OS AB 3 k p0_w.peaks::OS A3 121 p p0_w.sent::L) λ_ _=>AA az∧AA a0∧FP N F (Cb N p0_w n4) az a0 bb bc be=some r) ?_ ?_
  ·have fv:=ar.nw;refine AU ?_;refine Gq (λa w=>∃(ab:Int),IV B a8 a9 (137,[]) a w [(8,vI F),(53,vI (↑p0_w.b.A.length:Int)),(0,vP u 0),(2,vI an),(7,vI ao),(54,vI F),(9,vI ab)] (OS BB 74 au ap::Bx u 160 [.string p0_w.b.I,ac,vI p0_w.b.O,af,ag,ah,ai,aj,ak,am,vI p0_w.b.R,Q,U,V,W,X,vI p0_w.s.B,q,c,z,d,t,g,au,k,p]::OO AB 3 29 q av::OS AB 3 c p0_w.s.L::OS BL 106 d p0_w.s.M::OS AB 3 t aq::OS AB 3 g p0_w.s.K::OS AB 3 k p0_w.peaks::OS A3 121 p p0_w.sent::L) λ_ _=>AA ab∧Gj N p0_w an ao F ap av aq (FP N F (Cb N p0_w n4)) ab=some r) ?_ ?_
   ·refine AH O E (λd5 E=>?_) (λd5 E=>?_)
    ·refine AU ?_;have d6:=ar.nw;refine AZ E O O d6 sl_29.1 O λd7 E fw d8=>?_;have d9:=d8.i;refine AU ?_;refine eC O O O O (AU ?_);refine WF.nil (λaa ww hf hw=>?_);exact⟨(min (min d7 (BD (1125899906842624-an))) (BD (1152921504606846976-ao))),_,_,hf.sub (kp [8,53,0,2,7,54,9] O),hw,a3,(CB.refl a8 a9),(NF (NF d9 (BI _)) (BI _)),E⟩
    refine AU ?_;refine WF.nil (λaa ww hf hw=>?_);exact⟨0,_,_,hf.sub (kp [8,53,0,2,7,54,9] O),hw,a3,(CB.refl a8 a9),(iq (n:=0) O),E⟩
   rintro aa ww ⟨ab,fx,fy,hf,hw,ax,ea,eb,E⟩;refine AJ ?_ hf hw;clear hf hw ww aa;rw[Gj] at E;refine AU ?_;refine AH O E (λec E=>?_) (λec E=>?_)
   ·refine BC O (λaa ww hf hw=>?_);exact⟨an,ao,au,ap,av,aq,_,_,hf.sub (kp [53,0,54,2,7] O),hw,ax,ea,d2,d3,E⟩
   refine AU ?_;obtain⟨f0,ci,E⟩:=bd E;refine QL (r:=AB) ax (mt (mt mh)) O O sl_32.1 ci O λf1 bn=>?_;obtain⟨ed,bo,E⟩:=bd E;refine UM (r:=AB) K9 ax (mt (mt mh)) O bo bn ty_29.1 O λf2 cj b5=>?_;obtain⟨bp,ck,E⟩:=bd E;refine XU O O b5 sl_29.1 ck O λf3 ee e5=>F8 K9 (λ_ x=>x) O ee ty_3.1 O λf4=>AU ?_;obtain⟨f5,bq,E⟩:=bd E;refine XU O O b5 sl_29.1 bq O λf6 f7 bx=>AU ?_;have cl:=ax.pick (.tail (.tail .head));refine eT (r:=AB) (i:=F) (j:=0) (y:=(BD (bp+ab))) O O (⟨_,O,O,(BI _)⟩:Rd _ _ AB _ (BD (bp+ab))) bn cj bx bo bq ty_3.1 (λ_=>rfl) cl λf8 ay f9=>AU ?_;obtain⟨ga,cm,E⟩:=bd E;refine BR ay (mt (mt (mt (mt (mt mh))))) O O sl_29.1 cm O λgb cn=>?_;obtain⟨b6,co,E⟩:=bd E;have ef:=ay.epAt (mt (mt (mt (mt (mt mh))))) co FW.id cn;refine F8 K9 (λ_ x=>x) O ef ty_3.1 O λgc=>AU ?_;obtain⟨gd,cp,E⟩:=bd E;refine BR ay (mt (mt (mt (mt (mt mh))))) O O sl_29.1 cp O λge cq=>AU ?_;obtain⟨eg,cr,E⟩:=bd E;refine FM (r:=AB) (l:=aq) (i:=0) (x:=eg) O O (⟨_,O,O,(BI _)⟩:Rd _ _ AB _ (BD (b6+ab))) cq cr NM.id ty_3.1 (λ_=>rfl) ay (.tail (.tail (.tail (.tail (.tail .head))))) λgf ct gg=>?_;have gh:=bh.nw;refine AU ?_;obtain⟨cu,E⟩:=LA E;refine Jt (r:=AB) (zx:=0) IU O ⟨O,by unfold AA;omega⟩ O O cu O O ct λeh gi br gj=>AU ?_;obtain⟨gl,cv,E⟩:=bd E;refine BR br mh O O sl_29.1 cv O λgm cw=>AU ?_;obtain⟨ei,cx,E⟩:=bd E;refine FM (r:=AB) (l:=(List.replicate ((↑p0_w.b.H.length:Int):Int).toNat (0:Int))) (i:=0) (x:=ei) O O (⟨_,O,O,eb⟩:Rd _ _ AB _ ab) cw cx NM.id ty_3.1 (λ_=>rfl) br .head λb7 cy gn=>AU ?_;obtain⟨bs,aw,gp,ej⟩:=cy.pubs .head;refine UE (m:=[(10,eh),(7,vI (BD (ao+ab))),(2,vI (BD (an+ab))),(8,vI F),(53,vI (↑p0_w.b.A.length:Int)),(0,vP u 0),(54,vI F)]) 14 [0] (λi v hh=>match i with|0=>v=vP u 0|1=>v=vP u 0|2=>v=vP u 0|3=>v=vP u 23|4=>v=au|5=>v=vP u 0|6=>v=vP u 0|7=>v=vP u 16|8=>v=vP u 16|9=>v=vI p0_w.s.B∧AA p0_w.s.B|10=>v=vI F∧AA F|11=>Sl bs hh AB v (upd (List.replicate ((↑p0_w.b.H.length:Int):Int).toNat (0:Int)) 0 ab)|12=>Rd bs hh BB v (⟨p0_w.s.B,(-1),F,(-4),(upd (List.replicate ((↑p0_w.b.H.length:Int):Int).toNat (0:Int)) 0 ab)⟩:AK)|13=>Sl (SN bs b7 hh) hh BB v ([(⟨p0_w.s.B,(-1),F,(-4),(upd (List.replicate ((↑p0_w.b.H.length:Int):Int).toNat (0:Int)) 0 ab)⟩:AK)]:List AK)∧∃ad,v= .slice (some ad) 1 1|_=>False) [[],[],[(1,120)],[(2,121)],[(3,122)],[],[(5,124)],[(6,125)],[(7,126)],[(8,127)],[],[],[(9,128),(10,129),(11,130)],[(12,131)]] [(0,119),(4,123),(13,132)] mo (by kernel_rfl) [10,7,2,8,53,0,54] O (by kernel_rfl) (by kernel_rfl) (by kernel_rfl) (kp [10,7,2,8,53,0,54] O) MO ?_ ?_ ?_
   ·refine Qy.cons [] (by kernel_rfl) O O (by kernel_rfl) ?_ ?_
    ·intro mq hh o;intro a hf;exact⟨vP u 0,M4 hf O,O⟩
    exact trivial
   ·refine AQ.cons O EH (AQ.cons O EH (AQ.cons O EH (AQ.cons O EH (AQ.cons O EH (AQ.cons O EH (AQ.cons O EH (AQ.cons O EH (AQ.cons O EH (AQ.cons O EH (AQ.cons O EH (AQ.cons O ?_ ?_)))))))))))
    ·intro mq hh o;have cz:=o.st aw;refine AU ?_;have ek:=ej.mono' (o.ext aw.1);exact AS ek
    refine AQ.cons O ?_ ?_
    ·intro mq hh o;intro gq el gr em en bf;have cz:=o.st aw;obtain⟨rfl,eo⟩:=el;obtain⟨rfl,ep⟩:=em;have bf:Sl _ _ AB en (upd (List.replicate ((↑p0_w.b.H.length:Int):Int).toNat (0:Int)) 0 ab):=bf;refine AU ?_;obtain⟨c0,bz,rfl,gs⟩:=(bf).len;refine FV (cs:=[vI p0_w.s.B,vI (-1),vI F,vI (-4),(.slice c0 (upd (List.replicate ((↑p0_w.b.H.length:Int):Int).toNat (0:Int)) 0 ab).length bz)]) TA O O O (AU ?_);exact AS (BB.mk (x:=(⟨p0_w.s.B,(-1),F,(-4),(upd (List.replicate ((↑p0_w.b.H.length:Int):Int).toNat (0:Int)) 0 ab)⟩:AK)) eo (iq (n:=(-1)) O) ep (iq (n:=(-4)) O) bf)
    refine AQ.cons O ?_ ?_
    ·intro mq hh o;intro eq a1;have cz:=SN.st aw o;have a1:=Rd.sn b7 a1;have a1:Rd _ _ BB eq (⟨p0_w.s.B,(-1),F,(-4),(upd (List.replicate ((↑p0_w.b.H.length:Int):Int).toNat (0:Int)) 0 ab)⟩:AK):=a1;have fq:=cz.fz;obtain⟨gt,rfl,er,es,eu,ev,b8⟩:=BB.ex a1;obtain⟨c1,b0,rfl,gu⟩:=(b8).len;refine FO (cs:=[vI ((⟨p0_w.s.B,(-1),F,(-4),(upd (List.replicate ((↑p0_w.b.H.length:Int):Int).toNat (0:Int)) 0 ab)⟩:AK).B),vI ((⟨p0_w.s.B,(-1),F,(-4),(upd (List.replicate ((↑p0_w.b.H.length:Int):Int).toNat (0:Int)) 0 ab)⟩:AK).J),vI ((⟨p0_w.s.B,(-1),F,(-4),(upd (List.replicate ((↑p0_w.b.H.length:Int):Int).toNat (0:Int)) 0 ab)⟩:AK).C),vI ((⟨p0_w.s.B,(-1),F,(-4),(upd (List.replicate ((↑p0_w.b.H.length:Int):Int).toNat (0:Int)) 0 ab)⟩:AK).Ba),(.slice c1 ((⟨p0_w.s.B,(-1),F,(-4),(upd (List.replicate ((↑p0_w.b.H.length:Int):Int).toNat (0:Int)) 0 ab)⟩:AK).T).length b0)]) QG O O O O O O O fq λgv gw c2 ew=>?_;have ey:=b8.mono' ew;have c3:=c2.bxos (r:=BB) (l:=([(⟨p0_w.s.B,(-1),F,(-4),(upd (List.replicate ((↑p0_w.b.H.length:Int):Int).toNat (0:Int)) 0 ab)⟩:AK)]:List AK)) .head ⟨_,_,O,⟨_,O,er,es,eu,ev,ey⟩,O⟩ (by simp [maxLen]);obtain⟨gx,c4,gy,ez⟩:=c3.pubs .head;have bt:=Fz.done o EX c4;exact A9 bt.1 ⟨Sl.mono' ez bt.2,_,O⟩
    exact trivial
   intro gz e0 g0 e1 g1 e2 g2 bu;have c5:=SN.st aw e0;cases e1;cases e2;obtain⟨bu,fr,rfl⟩:=bu;obtain⟨c6,E⟩:=LA E;refine H4 (r:=BB) (l:=ap) (xs:=([(⟨p0_w.s.B,(-1),F,(-4),(upd (List.replicate ((↑p0_w.b.H.length:Int):Int).toNat (0:Int)) 0 ab)⟩:AK)]:List AK)) O O QG O (Sl.src bu) O c6 O c5 (λ_=>(.tail .head)) λg3 g4 bv g5=>AU ?_;obtain⟨bw,bg,rfl,g6⟩:=bv.oslen (mt mh);refine E5 (cs':=[.string p0_w.b.I,ac,vI p0_w.b.O,af,ag,ah,ai,aj,ak,am,vI p0_w.b.R,Q,U,V,W,X,vI p0_w.s.B,q,c,z,d,t,g,(.slice bw (ap++([(⟨p0_w.s.B,(-1),F,(-4),(upd (List.replicate ((↑p0_w.b.H.length:Int):Int).toNat (0:Int)) 0 ab)⟩:AK)]:List AK)).length bg),k,p]) O O O O ty_70.1 O bv (.tail (.tail .head)) O O λg7 c7 g8=>AU ?_;refine WF.nil (λaa ww hf hw=>?_);have c8:=c7.sel [1,1,0,0,0,0,0,0,0] 0 O;exact⟨(BD (an+ab)),(BD (ao+ab)),(.slice bw (ap++([(⟨p0_w.s.B,(-1),F,(-4),(upd (List.replicate ((↑p0_w.b.H.length:Int):Int).toNat (0:Int)) 0 ab)⟩:AK)]:List AK)).length bg),(ap++([(⟨p0_w.s.B,(-1),F,(-4),(upd (List.replicate ((↑p0_w.b.H.length:Int):Int).toNat (0:Int)) 0 ab)⟩:AK)]:List AK)),(upd av F (upd ed 0 (BD (bp+ab)))),(upd aq 0 (BD (b6+ab))),_,_,hf.sub (kp [53,0,54,2,7] O),hw,c8,EX,(BI _),(BI _),E⟩
  rintro aa ww ⟨az,a0,ba,bb,bc,be,g9,ha,hf,hw,c9,hc,e3,e4,E⟩;refine AJ ?_ hf hw;clear hf hw ww aa;rw[FP] at E;refine AU ?_;refine WF.nil (λaa ww hf hw=>?_);exact⟨az,a0,(BD (F+1)),ba,bb,bc,be,_,_,hf.sub (kp [53,0,2,7,54] O),hw,c9,EX,e3,e4,(BI _),E⟩
 refine J6 O (WF.nil (λaa ww hf hw=>?_));have da:=a3.sel [1,1,1,1,1,1,0,0,0] 0 O;cases E;exact JC hf O hw JB O EX ⟨_,_,_,O,da⟩
def Na (hs:St S L h) {j:Value}{b:(List Int)}(s:Sl S h AB j b) {d:Value}{c:(List Int)}(t:Sl S h AB d c) {r:(List Int)}(E:Gz N b c=some r):
 B0 prog 30 #[j,d] S h (λv S' h'=>St S' (OS AB 3 v r::L) h'):=by
 refine BA 35 func30 O ntmps30 O λB=>?_;rw[Gz] at E;refine AU ?_;refine SV O O O (AU ?_);obtain⟨X,E⟩:=LA E;refine Jt (r:=AB) (zx:=0) IU O ⟨O,by unfold AA;omega⟩ O O X O O hs λW h5 Y e7=>AU ?_;have k8:=s.mono' e7;refine UQ (r:=AB) (l:=(List.replicate ((max (↑b.length:Int) (↑c.length:Int)):Int).toNat (0:Int))) (xs:=b) O O sl_29.1 (Sl.src k8) O Y .head λZ D al=>?_;have ab:=t.nw;refine AU ?_;refine AO (λa w=>∃(y:List Int),IV B S Z (35,[]) a w [(5,W)] (OS AB 3 W y::L) λ_ _=>Hi N y=some r) ?_ ?_
 ·refine A4 (λn1=>λa w=>∃(g:Int) (m:List Int),IV B S Z (35,[]) a w [(18,vI (↑c.length:Int)),(17,d),(5,W),(19,vI g)] (OS AB 3 W m::L) λ_ _=>AA g∧Fm N c (Hi N) n1 g m=some r) N ?_ ?_ ?_
  ·intro z A o q;exact⟨0,(O2 (List.replicate ((max (↑b.length:Int) (↑c.length:Int)):Int).toNat (0:Int)) b),_,_,o.sub (kp [18,17,5,19] O),q,D,(CB.refl S Z),(iq (n:=0) O),E⟩
  ·rintro z A ⟨_,_,_,_,_,_,_,_,_,E⟩;rw[Fm] at E;cases E
  rintro n1 z A ⟨g,m,am,an,o,q,k,F,ao,E⟩;refine AJ ?_ o q;clear o q A z;rw[Fm] at E;refine AU ?_;refine AH O E (λac E=>?_) (λac E=>?_)
  ·refine AU ?_;refine A5 (AU ?_);have ad:=ab.mono' F;refine AZ E O O ad sl_29.1 O λap E aq ae=>?_;have af:=ae.i;refine AU ?_;refine Bw (AU ?_);obtain⟨ar,G,E⟩:=bd E;refine BR k mh O O sl_29.1 G O λau H=>?_;obtain⟨av,I,E⟩:=bd E;have ag:=k.epAt mh I FW.id H;refine F8 K9 (λ_ x=>x) O ag ty_3.1 O λah=>AU ?_;refine Cc E O O O Q9 O k (λC J=>Ho (St.all _) ah af J) λC E aw ax ay u az a0 p=>?_;obtain⟨rfl,ai,ak⟩:=p;refine AU ?_;obtain⟨a1,K,E⟩:=bd E;refine BR u mh O O sl_29.1 K O λa2 M=>AU ?_;obtain⟨aj,Q,E⟩:=bd E;refine FM (r:=AB) (l:=m) (i:=g) (x:=aj) O O (⟨_,O,O,ai⟩:Rd _ _ AB _ C) M Q NM.id ty_3.1 (λ_=>rfl) u .head λa3 U a4=>AU ?_;refine BE (AU ?_);refine WF.nil (λz A o q=>?_);exact⟨(BD (g+1)),(upd m g C),_,_,o.sub (kp [18,17,5,19] O),q,U,EX,(BI _),E⟩
  refine BC O (λz A o q=>?_);exact⟨m,_,_,o.sub (kp [5] O),q,k,F,E⟩
 rintro z A ⟨y,a5,a6,o,q,V,a7,E⟩;refine AJ ?_ o q;clear o q A z;rw[Hi] at E;refine AU ?_;cases E;exact KU V O O EX
def Sg (hs:St S L h) {d:Value}{u:(List AV)}(ag:Sl S h A3 d u) {b:Int}(a7:AA b) {z:Int}(J:AA z) {A:Int}(K:AA A) {r:(List (List Int))×(List AV)}(E:Lb N u b z A=some r):
 B0 prog 162 #[d,vI b,vI z,vI A] S h (λv S' h'=>∃b7 b8:Value,v= .tuple #[b7,b8]∧St S' (OS (A7.sl AB) 29 b7 r.1::OS A3 121 b8 r.2::L) h'):=by
 refine BA 79 func162 O ntmps162 O λB=>?_;rw[Lb] at E;refine AU ?_;refine BX (.inl O) hs (AU ?_);refine CA E O O O T7 O (λy1 dq h' o=>KC (St.all h') J (iq (n:=0) O) (iq (n:=64) O) dq) λy1 E r2=>?_;have r3:=r2;refine AU ?_;refine BK (kp [2,0,1,3] O) λh4 dr e6=>AU ?_;refine BX (.inl O) dr (AU ?_);refine CA E O O O T7 O (λy7 ds h' o=>KC (St.all h') K (iq (n:=0) O) (iq (n:=16) O) ds) λy7 E r8=>?_;have r9:=r8;refine AU ?_;refine BK (kp [3,2,0,1] O) λfr b9 fs=>AU ?_;obtain⟨ca,E⟩:=LA E;refine Jt (r:=(A7.sl AB)) (zx:=[]) Ms O ⟨_,O,.inl ⟨O,O⟩⟩ O O ca O O b9 λt a8 cb ft=>AU ?_;refine AO (λa w=>∃(av:List (List Int)),IV B S a8 (79,[]) a w [(8,t),(2,vI y1),(0,d),(1,vI b)] (OS (A7.sl AB) 29 t av::L) λ_ _=>Gc N u b y1 av=some r) ?_ ?_
 ·refine A4 (λn1=>λa w=>∃(Z:Int) (ai:List (List Int)),IV B S a8 (79,[]) a w [(20,vI (↑(List.replicate (y1:Int).toNat ([]:(List Int))).length:Int)),(8,t),(3,vI y7),(2,vI y1),(0,d),(1,vI b),(21,vI Z)] (OS (A7.sl AB) 29 t ai::L) λ_ _=>AA Z∧Gb N y1 y7 (Gc N u b y1) n1 Z ai=some r) N ?_ ?_ ?_
  ·intro H I s y;exact⟨0,(List.replicate (y1:Int).toNat ([]:(List Int))),_,_,s.sub (kp [20,8,3,2,0,1,21] O),y,cb,(CB.refl S a8),(iq (n:=0) O),E⟩
  ·rintro H I ⟨_,_,_,_,_,_,_,_,_,E⟩;rw[Gb] at E;cases E
  rintro n1 H I ⟨Z,ai,fu,fv,s,y,a1,dt,fw,E⟩;refine AJ ?_ s y;clear s y I H;rw[Gb] at E;refine AU ?_;refine AH O E (λdu E=>?_) (λdu E=>?_)
  ·refine AU ?_;refine A5 (AU ?_);obtain⟨cc,E⟩:=LA E;refine Jt (r:=AB) (zx:=0) IU O ⟨O,by unfold AA;omega⟩ O O cc O O a1 λfx fy a2 f0=>AU ?_;obtain⟨f1,cd,E⟩:=bd E;refine BR a2 (mt mh) O O sl_32.1 cd O λf2 ce=>AU ?_;obtain⟨dv,cf,E⟩:=bd E;obtain⟨f3,cg,f4,dw⟩:=a2.pubs .head;refine FM (r:=(A7.sl AB)) (l:=ai) (i:=Z) (x:=dv) O O (O5 dw) ce cf NM.id ty_29.1 (λ_=>rfl) cg .head λf5 ch f6=>AU ?_;refine BE (AU ?_);refine WF.nil (λH I s y=>?_);exact⟨(BD (Z+1)),(upd ai Z (List.replicate (y7:Int).toNat (0:Int))),_,_,s.sub (kp [20,8,3,2,0,1,21] O),y,ch,EX,(BI _),E⟩
  refine BC O (λH I s y=>?_);exact⟨ai,_,_,s.sub (kp [8,2,0,1] O),y,a1,dt,E⟩
 rintro H I ⟨av,a9,ba,s,y,ci,f7,E⟩;refine AJ ?_ s y;clear s y I H;rw[Gc] at E;have dx:=ag.nw;refine AU ?_;refine Ku 1 (dY O O O dx sl_33.1 O λa3=>AU ?_);have cj:=ci.zs A3 121 a3;have dy:=ag.nw;refine AU ?_;refine AO (λa w=>∃(bb:Value) (bc:List AV) (be:List (List Int)),IV B a9 ba (79,[]) a w [(8,t),(9,bb)] (OS A3 121 bb bc::OS (A7.sl AB) 29 t be::L) λ_ _=>Hw N bc be=some r) ?_ ?_
 ·refine A4 (λn3=>λa w=>∃(Q:Value) (ab:List AV) (M:Int) (ac:List (List Int)),IV B a9 ba (79,[]) a w [(33,vI (↑u.length:Int)),(32,d),(8,t),(2,vI y1),(1,vI b),(9,Q),(34,vI M)] (OS A3 121 Q ab::OS (A7.sl AB) 29 t ac::L) λ_ _=>AA M∧Fl N u b y1 (Hw N) n3 ab M ac=some r) N ?_ ?_ ?_
  ·intro H I s y;exact⟨(.slice a3 0 0),([]:List AV),0,av,_,_,s.sub (kp [33,32,8,2,1,9,34] O),y,cj,(CB.refl a9 ba),(iq (n:=0) O),E⟩
  ·rintro H I ⟨_,_,_,_,_,_,_,_,_,_,_,E⟩;rw[Fl] at E;cases E
  rintro n3 H I ⟨Q,ab,M,ac,U,dz,s,y,a4,ck,f8,E⟩;refine AJ ?_ s y;clear s y I H;rw[Fl] at E;refine AU ?_;refine AH O E (λd0 E=>?_) (λd0 E=>?_)
  ·refine AU ?_;refine AO (λa w=>∃(aw:Value) (ax:List AV) (ay:List (List Int)),IV B U dz (79,[]) a w [(33,vI (↑u.length:Int)),(32,d),(8,t),(2,vI y1),(1,vI b),(34,vI M),(9,aw)] (OS A3 121 aw ax::OS (A7.sl AB) 29 t ay::L) λ_ _=>JX N M (Fl N u b y1 (Hw N) n3) ax ay=some r) ?_ ?_
   ·refine AU ?_;have d1:=dy.mono' ck;refine AZ E O O d1 sl_33.1 O λc E f9 d2=>?_;obtain⟨ga,_,d3⟩:=d2.lv;refine AU ?_;refine CO OC O a4 λV gb cl d4=>?_;have d5:=d3.mono d4;obtain⟨gc,rfl,gd,ge,cm⟩:=A3.ex d5;refine Dk O O O ON ty_121.1 O cl .head O λaf j gf=>AU ?_;refine AH O E (λcn E=>?_) (λcn E=>?_)
    ·obtain ⟨d9,bf,E⟩:=bd E;obtain⟨a5,bg,E⟩:=bd E;obtain⟨aj,bh,E⟩:=bd E;obtain⟨eb,bi,E⟩:=bd E;refine Mt (m:=[(12,vP V 0),(33,vI (↑u.length:Int)),(32,d),(8,t),(2,vI y1),(1,vI b),(9,Q),(34,vI M)]) 12 (λi v G=>match i with|0=>v=t|1=>v=vP V 1|2=>v=vI c.C∧AA c.C|3=>v=t|4=>v=vP V 1|5=>v=vI c.C∧AA c.C|6=>EP t (c.C.toNat*((A7.sl AB)).sz+0) v|7=>Sl U G AB v a5|8=>v=vP V 2|9=>Sl U G AB v c.T|10=>Sl (SN U af G) G AB v aj|11=>EP t (c.C.toNat*((A7.sl AB)).sz+0) v|_=>False) [[],[],[(1,54)],[],[],[(4,57)],[(3,56),(5,58)],[(6,59)],[],[(8,61)],[(7,60),(9,62)],[(0,53),(2,55)]] [(10,63),(11,64)] mo (by kernel_rfl) [12,33,32,8,2,1,9,34] O (by kernel_rfl) (by kernel_rfl) (by kernel_rfl) (kp [12,33,32,8,2,1,9,34] O) MO ?_ ?_
     ·refine AQ.cons O EH (AQ.cons O EH (AQ.cons O EH (AQ.cons O EH (AQ.cons O EH (AQ.cons O EH (AQ.cons O ?_ ?_))))))
      ·intro mq G o;intro ec co ed cp;have D:=o.st j;cases co;obtain⟨rfl,ee⟩:=cp;refine AU ?_;refine BR D (mt (mt mh)) O O sl_32.1 bf O λef bj=>AU ?_;exact AS bj
      refine AQ.cons O ?_ ?_
      ·intro mq G o;intro eg cq;have D:=o.st j;refine AU ?_;have cr:=D.epAt (mt (mt mh)) bg FW.id cq;refine If K9 (λ_ x=>x) O cr ty_29.1 O λeh ct=>AU ?_;exact AS ct
      refine AQ.cons O EH (AQ.cons O ?_ ?_)
      ·intro mq G o;intro ei cu;have D:=o.st j;cases cu;refine AU ?_;have cv:=cm.nw;exact AS cv
      refine AQ.cons O ?_ ?_
      ·intro mq G o;intro cw W cx X;have D:=SN.st j o;have W:=Sl.sn af W;have W:Sl _ _ AB cw a5:=W;have X:=Sl.sn af X;have X:Sl _ _ AB cx c.T:=X;have F:=D.fz;refine E6 O O O Zz O F (Na (St.all _) (W.mono F.ea.1 F.ea.2) (X.mono F.ea.1 F.ea.2) bh) λej ek el d6 em cy p=>?_;have bk:=p;have ak:=F.join cy bk ⟨OS.flat (λ{_ _ _ _ _ _} k=>k),trivial⟩;simp only[uV,uK] at ak;obtain⟨en,bl,eo,cz⟩:=ak.pubs .head;have am:=Fz.done o EX bl;exact A9 am.1 (Sl.mono' cz am.2)
      refine AQ.cons O ?_ ?_
      ·intro mq G o;intro ep c0 eq c1;have D:=o.st j;cases c0;obtain⟨rfl,er⟩:=c1;refine AU ?_;refine BR D (mt (mt mh)) O O sl_32.1 bi O λes bm=>AU ?_;exact AS bm
      exact trivial
     intro eu c2 c3 an ev c4;have bn:=SN.st j c2;have an:Sl _ _ AB c3 aj:=an;obtain⟨c5,bo,E⟩:=bd E;refine FM (r:=(A7.sl AB)) (l:=ac) (i:=c.C) (x:=c5) O O (O5 an) c4 bo NM.id ty_29.1 (λ_=>rfl) bn (.tail (.tail .head)) λew bp ey=>AU ?_;refine WF.nil (λH I s y=>?_);have bq:=bp.sel [1,1] 1 O;exact⟨Q,ab,(upd ac c.C aj),_,_,s.sub (kp [33,32,8,2,1,34,9] O),y,bq,EX,E⟩
    obtain⟨g,br,E⟩:=bd E;refine Mt (m:=[(12,vP V 0),(33,vI (↑u.length:Int)),(32,d),(8,t),(2,vI y1),(1,vI b),(9,Q),(34,vI M)]) 10 (λi v G=>match i with|0=>v=Q|1=>v=vP V 0|2=>v=vI c.Am∧AA c.Am|3=>v=vP V 1|4=>v=vI c.C∧AA c.C|5=>v=vP V 2|6=>Sl U G AB v c.T|7=>Sl (SN U af G) G AB v g|8=>Rd (SN U af G) G A3 v ({ c with T:=g}:AV)|9=>Sl (SN U af G) G A3 v ([({ c with T:=g}:AV)]:List AV)∧∃ad,v= .slice (some ad) 1 1|_=>False) [[],[],[(1,66)],[],[(3,68)],[],[(5,70)],[(6,71)],[(2,67),(4,69),(7,72)],[(8,73)]] [(0,65),(9,74)] mo (by kernel_rfl) [12,33,32,8,2,1,9,34] O (by kernel_rfl) (by kernel_rfl) (by kernel_rfl) (kp [12,33,32,8,2,1,9,34] O) MO ?_ ?_
    ·refine AQ.cons O EH (AQ.cons O EH (AQ.cons O EH (AQ.cons O EH (AQ.cons O EH (AQ.cons O EH (AQ.cons O ?_ ?_))))))
     ·intro mq G o;intro ez c6;have D:=o.st j;cases c6;refine AU ?_;have c7:=cm.nw;exact AS c7
     refine AQ.cons O ?_ ?_
     ·intro mq G o;intro c8 Y;have D:=SN.st j o;have Y:=Sl.sn af Y;have Y:Sl _ _ AB c8 c.T:=Y;have F:=D.fz;refine E6 O O O Pk O F (Dj (St.all _) (Y.mono F.ea.1 F.ea.2) br) λe0 e1 e2 d7 e3 c9 p=>?_;have bs:=p;have ao:=F.join c9 bs ⟨OS.flat (λ{_ _ _ _ _ _} k=>k),trivial⟩;simp only[uV,uK] at ao;obtain⟨e4,bt,e5,da⟩:=ao.pubs .head;have ap:=Fz.done o EX bt;exact A9 ap.1 (Sl.mono' da ap.2)
     refine AQ.cons O ?_ ?_
     ·intro mq G o;intro e7 db e8 dc dd ah;have D:=SN.st j o;obtain⟨rfl,de⟩:=db;obtain⟨rfl,df⟩:=dc;have ah:Sl _ _ AB dd g:=ah;refine AU ?_;obtain⟨bu,az,rfl,e9⟩:=(ah).len;refine FV (cs:=[vI c.Am,vI c.C,(.slice bu g.length az)]) Vi O O O (AU ?_);exact AS (A3.mk (x:=({ c with T:=g}:AV)) de df ah)
     refine AQ.cons O ?_ ?_
     ·intro mq G o;intro dg aq;have D:=SN.st j o;have aq:Rd _ _ A3 dg ({ c with T:=g}:AV):=aq;have F:=D.fz;obtain⟨fa,rfl,dh,di,a6⟩:=A3.ex aq;obtain⟨bv,a0,rfl,fb⟩:=(a6).len;refine FO (cs:=[vI (({ c with T:=g}:AV).Am),vI (({ c with T:=g}:AV).C),(.slice bv (({ c with T:=g}:AV).T).length a0)]) Q8 O O O O O O O F λfc fd bw dj=>?_;have dk:=a6.mono' dj;have bx:=bw.bxos (r:=A3) (l:=([({ c with T:=g}:AV)]:List AV)) .head ⟨_,_,O,⟨_,O,dh,di,dk⟩,O⟩ (by simp [maxLen]);obtain⟨fe,bz,ff,dl⟩:=bx.pubs .head;have ar:=Fz.done o EX bz;exact A9 ar.1 ⟨Sl.mono' dl ar.2,_,O⟩
     exact trivial
    intro fg dm fh dn fi au;have b0:=SN.st j dm;cases dn;obtain⟨au,d8,rfl⟩:=au;obtain⟨b1,E⟩:=LA E;refine H4 (r:=A3) (l:=ab) (xs:=([({ c with T:=g}:AV)]:List AV)) O O Q8 O (Sl.src au) O b1 O b0 (λ_=>(.tail .head)) λdp fj b2 fk=>AU ?_;refine WF.nil (λH I s y=>?_);have b3:=b2.sel [1,1] 1 O;exact⟨dp,(ab++([({ c with T:=g}:AV)]:List AV)),ac,_,_,s.sub (kp [33,32,8,2,1,34,9] O),y,b3,EX,E⟩
   rintro H I ⟨aw,ax,ay,fl,fm,s,y,b4,fn,E⟩;refine AJ ?_ s y;clear s y I H;rw[JX] at E;refine AU ?_;refine WF.nil (λH I s y=>?_);exact⟨aw,ax,(BD (M+1)),ay,_,_,s.sub (kp [33,32,8,2,1,9,34] O),y,b4,EX,(BI _),E⟩
  refine BC O (λH I s y=>?_);exact⟨Q,ab,ac,_,_,s.sub (kp [8,9] O),y,a4,ck,E⟩
 rintro H I ⟨bb,bc,be,fo,fp,s,y,b5,fq,E⟩;refine AJ ?_ s y;clear s y I H;rw[Hw] at E;refine AU ?_;refine Bu (λH I s y=>?_);have b6:=b5.sel [1,0] 0 O;cases E;exact JC s O y (Gw (H7 s (v:=_) O) (Gw (H7 s (v:=_) O) JB)) O EX ⟨_,_,O,b6⟩
def RM (hs:St S L h) {c:Value}{n:BM}(l:Rd S h BZ c n) {d:Value}{b:AT}(m:Rd S h BL d b) {k:Int}(K:AA k) {r:AT}(E:G9 N n b k=some r):
 B0 prog 163 #[c,d,vI k] S h (λv S' h'=>v= .agg #[vI r.V,vI r.W,.bool r.At,.bool r.Ai]∧AT.ok r∧St S' (L) h'):=by
 refine BA 24 func163 O ntmps163 O λB=>?_;rw[G9] at E;refine AU ?_;refine By O l CE O hs λq1 S2 h3 M e5 k6=>?_;have k7:=m.mono e5;obtain⟨rfl,⟨r9,u⟩⟩:=BL.ex k7;refine Oq O O O M λx ab y ac=>CO PU O y λz A g ad=>?_;have ae:=k6.nw;refine AU ?_;refine AH O E (λQ E=>?_) (λQ E=>?_)
 ·refine AU ?_;refine Cu O O O O ty_106.1 O g .head O λaf C ag=>AU ?_;refine Bu (λs t i j=>?_);have o:=C.drop (.tail .head);have D:=o.drop .head;cases E;exact JC i O j (Gw (Tj i j o O mh ty_106.1 O) JB) O EX ⟨O,⟨r9,u⟩,D⟩
 refine AU ?_;refine AO (λa w=>∃(q:Bool),IV B S2 A (24,[]) a w [(6,vP z 0),(4,vP x 0)] (Bx z 106 [vI 0,vI 0,.bool false,.bool false]::Bx x 106 [vI b.V,vI b.W,.bool b.At,.bool q]::L) λ_ _=>Ip N b q=some r) ?_ ?_
 ·refine AU ?_;refine AH O E (λU E=>?_) (λU E=>?_)
  ·refine AU ?_;refine E5 (cs':=[vI b.V,vI b.W,.bool b.At,.bool true]) O O O O ty_4.1 O g (.tail .head) O O λah F X=>AU ?_;refine WF.nil (λs t i j=>?_);exact⟨true,_,_,i.sub (kp [6,4] O),j,F,X,E⟩
  refine AU ?_;refine AH O E (λY E=>?_) (λY E=>?_)
  ·refine AU ?_;refine E5 (cs':=[vI b.V,vI b.W,.bool b.At,.bool false]) O O O O ty_4.1 O g (.tail .head) O O λai G Z=>AU ?_;refine WF.nil (λs t i j=>?_);exact⟨false,_,_,i.sub (kp [6,4] O),j,G,Z,E⟩
  refine AU ?_;refine WF.nil (λs t i j=>?_);exact⟨b.Ai,_,_,i.sub (kp [6,4] O),j,g,(CB.refl S2 A),E⟩
 rintro s t ⟨q,aj,ak,i,j,H,am,E⟩;refine AJ ?_ i j;clear i j t s;rw[Ip] at E;refine AU ?_;refine Cu O O O O ty_106.1 O H .head O λan I ao=>AU ?_;refine Bu (λs t i j=>?_);have p:=I.drop (.tail .head);have J:=p.drop .head;cases E;exact JC i O j (Gw (Tj i j p O mh ty_106.1 O) JB) O EX ⟨O,⟨r9,u⟩,J⟩
def NW {c:Nat}{p0_w:AN}{an:Value}{ao:Value}{ag:Value}{ap:Value}{aq:Value}{ar:Value}{au:Value}{av:Value}{ah:Value}{ai:Value}{aj:Value}{ak:Value}{am:Value}{d:Value}{g:Value}{a3:Value}{ac:Value}{t:Value}{u:Value}{y:Value}{ad:Value}{z:Value}(hs:St S (Bx c 160 [.string p0_w.b.I,an,vI p0_w.b.O,ao,ag,ap,aq,ar,au,av,vI p0_w.b.R,ah,ai,aj,ak,am,vI p0_w.s.B,d,g,a3,ac,t,u,y,ad,z]::OO AB 3 29 d p0_w.s.D::OS AB 3 g p0_w.s.L::OS BL 106 ac p0_w.s.M::OS AB 3 t p0_w.s.N::OS AB 3 u p0_w.s.K::OS BB 74 y p0_w.moves::OS AB 3 ad p0_w.peaks::OS A3 121 z p0_w.sent::L) h) (fo:p0_w.b.I.size≤maxLen) (bt:Sl S h A7.str an p0_w.b.H) (fp:AA p0_w.b.O) (a7:Sl S h B9 ao p0_w.b.A) (bu:Sl S h BZ ag p0_w.b.E) (fq:Sl S h HL ap p0_w.b.Ab) (fr:Sl S h Eu aq p0_w.b.Ad) (fs:Sl S h Gr ar p0_w.b.Ae) (ft:Sl S h DB au p0_w.b.Ag) (fu:Sl S h AB av p0_w.b.Ak) (c7:AA p0_w.b.R) (c8:Sl S h AB ah p0_w.in_.Z) (c9:Sl S h Gf ai p0_w.in_.Ah) (da:Sl S h Jp aj p0_w.in_.Aj) (db:Sl S h Ge ak p0_w.in_.Aa) (dc:Sl S h HV am p0_w.in_.Aq) (bi:AA p0_w.s.B) (bj:Sl S h A3 a3 p0_w.s.G) {r:(List (List Int))×(List AV)×(List AT)×(List Int)}(E:Ex N p0_w=some r):
 B0 prog 82 #[vP c 0] S h (λv S' h'=>∃bn bo bp bq:Value,v= .tuple #[]∧St S' (Bx c 160 [.string p0_w.b.I,an,vI p0_w.b.O,ao,ag,ap,aq,ar,au,av,vI p0_w.b.R,ah,ai,aj,ak,am,vI p0_w.s.B,bn,g,bo,bp,t,u,y,bq,z]::OS (A7.sl AB) 29 bn r.1::OS AB 3 g p0_w.s.L::OS A3 121 bo r.2.1::OS BL 106 bp r.2.2.1::OS AB 3 t p0_w.s.N::OS AB 3 u p0_w.s.K::OS BB 74 y p0_w.moves::OS AB 3 bq r.2.2.2::OS A3 121 z p0_w.sent::L) h'):=by
 refine BA (l:=[vP c 0]) 123 func82 O ntmps82 O λB=>?_;rw[Ex] at E;have ij:=hs.pick (.tail .head);obtain⟨S2,af,e4⟩:=ij.ooPub;refine AU ?_;obtain⟨az,fv,E⟩:=bd E;refine UD (m:=[(0,vP c 0)]) [] [] [(23,[22]),(24,[23]),(25,[23]),(26,[24]),(27,[25])] (by kernel_rfl) (λgv X F i v hh=>match i with|0=>v=vP c 0|1=>v=vP c 0|2=>v=vP c 16|3=>v=vP c 19|4=>Sl S2 hh A3 v p0_w.s.G|5=>v=vP c 0|6=>v=vP c 0|7=>v=vP c 16|8=>v=vP c 16|9=>v=vI p0_w.s.B∧AA p0_w.s.B|10=>v=vP c 0|11=>v=vP c 0|12=>v=vP c 0|13=>v=vP c 3|14=>Sl S2 hh B9 v p0_w.b.A|15=>v=vI (↑p0_w.b.A.length:Int)∧AA (↑p0_w.b.A.length:Int)|16=>v=vP c 0|17=>v=vP c 0|18=>v=vP c 0|19=>v=vP c 1|20=>Sl S2 hh A7.str v p0_w.b.H|21=>v=vI (↑p0_w.b.H.length:Int)∧AA (↑p0_w.b.H.length:Int)|22=>∃w0 w1:Value,v= .tuple #[w0,w1]∧OW S2 h X F [OS (A7.sl AB) 29 w0 az.1,OS A3 121 w1 az.2] hh|23=>v=gv 22∧∃w0 w1:Value,v= .tuple #[w0,w1]|24=>v=fF (gv 23) 0|25=>v=fF (gv 23) 1|26=>v=gv 24|27=>v=gv 25|_=>False) [[],[(0,8)],[(1,9)],[(2,10)],[(3,11)],[],[(5,13)],[(6,14)],[(7,15)],[(8,16)],[],[(10,18)],[(11,19)],[(12,20)],[(13,21)],[(14,22)],[],[(16,24)],[(17,25)],[(18,26)],[(19,27)],[(20,28)],[(4,12),(9,17),(15,23),(21,29)],[(22,30)],[(23,7)],[(23,7)],[(24,31)],[(25,32)]] [(22,30),(23,7),(24,31),(25,32),(26,2),(27,3)] mo (by kernel_rfl) [0] O (by kernel_rfl) (by kernel_rfl) (by kernel_rfl) O (kp [0] O) (λgv i v h1 h2 X X' F o1 o2 hF u1 u2 W=>?_) (λgv l2 X F i v h1 hz W=>?_) ?_ ?_ ?_
 ·match i,W with
   |0,W|1,W|2,W|3,W|5,W|6,W|7,W|8,W|9,W|10,W|11,W|12,W|13,W|15,W|16,W|17,W|18,W|19,W|21,W|23,W|24,W|25,W|26,W|27,W=>exact W
   |4,W|14,W|20,W=>exact Sl.mono' W (o2.ext λb hb=>tZ (af.1 b hb) o1.siz)
   |22,W=>obtain⟨w0,w1,ev,q⟩:=W;exact⟨w0,w1,ev,OW.mono af.1 o1 o2 hF u1 u2 q⟩
   |_+28,W=>exact W.elim
 ·match i,W with
   |0,W|1,W|2,W|3,W|4,W|5,W|6,W|7,W|8,W|9,W|10,W|11,W|12,W|13,W|14,W|15,W|16,W|17,W|18,W|19,W|20,W|21,W|22,W=>exact W
   |23,W=>rw[hz _ uN O 22 (by decide)] at W;exact W
   |24,W=>rw[hz _ (uR _ uN) O 23 (by decide)] at W;exact W
   |25,W=>rw[hz _ (uR _ (uR _ uN)) O 23 (by decide)] at W;exact W
   |26,W=>rw[hz _ (uR _ (uR _ (uR _ uN))) O 24 (by decide)] at W;exact W
   |27,W=>rw[hz _ (uR _ (uR _ (uR _ (uR _ uN)))) O 25 (by decide)] at W;exact W
   |_+28,W=>exact W.elim
 ·exact trivial
 ·refine CU.cons O O ?_ ?_
  ·intro gv X mq hh o hX;have V:=o.st af;refine AU ?_;exact A9 (C5.refl _) O
  refine CU.cons O O ?_ ?_
  ·intro gv X mq hh o hX;have V:=o.st af;intro l3 dd;obtain⟨i5,_,_,dd⟩:=dd;cases dd;refine AU ?_;exact A9 (C5.refl _) O
  refine CU.cons O O ?_ ?_
  ·intro gv X mq hh o hX;have V:=o.st af;intro l4 de;obtain⟨i6,_,_,de⟩:=de;cases de;refine AU ?_;exact A9 (C5.refl _) O
  refine CU.cons O O ?_ ?_
  ·intro gv X mq hh o hX;have V:=o.st af;intro l5 df;obtain⟨i7,_,_,df⟩:=df;cases df;refine AU ?_;exact A9 (C5.refl _) O
  refine CU.cons O O ?_ ?_
  ·intro gv X mq hh o hX;have V:=o.st af;intro l6 dg;obtain⟨i8,_,_,dg⟩:=dg;cases dg;refine AU ?_;have ik:=bj.mono' (e4.trans (o.ext af.1));exact A9 (C5.refl _) ik
  refine CU.cons O O ?_ ?_
  ·intro gv X mq hh o hX;have V:=o.st af;refine AU ?_;exact A9 (C5.refl _) O
  refine CU.cons O O ?_ ?_
  ·intro gv X mq hh o hX;have V:=o.st af;intro l7 dh;obtain⟨i9,_,_,dh⟩:=dh;cases dh;refine AU ?_;exact A9 (C5.refl _) O
  refine CU.cons O O ?_ ?_
  ·intro gv X mq hh o hX;have V:=o.st af;intro l8 di;obtain⟨ja,_,_,di⟩:=di;cases di;refine AU ?_;exact A9 (C5.refl _) O
  refine CU.cons O O ?_ ?_
  ·intro gv X mq hh o hX;have V:=o.st af;intro l9 dj;obtain⟨jb,_,_,dj⟩:=dj;cases dj;refine AU ?_;exact A9 (C5.refl _) O
  refine CU.cons O O ?_ ?_
  ·intro gv X mq hh o hX;have V:=o.st af;intro ma dk;obtain⟨jc,_,_,dk⟩:=dk;cases dk;refine AU ?_;exact A9 (C5.refl _) ⟨O,bi⟩
  refine CU.cons O O ?_ ?_
  ·intro gv X mq hh o hX;have V:=o.st af;refine AU ?_;exact A9 (C5.refl _) O
  refine CU.cons O O ?_ ?_
  ·intro gv X mq hh o hX;have V:=o.st af;intro mb dl;obtain⟨jd,_,_,dl⟩:=dl;cases dl;refine AU ?_;exact A9 (C5.refl _) O
  refine CU.cons O O ?_ ?_
  ·intro gv X mq hh o hX;have V:=o.st af;intro mc dm;obtain⟨je,_,_,dm⟩:=dm;cases dm;refine AU ?_;exact A9 (C5.refl _) O
  refine CU.cons O O ?_ ?_
  ·intro gv X mq hh o hX;have V:=o.st af;intro md dn;obtain⟨jf,_,_,dn⟩:=dn;cases dn;refine AU ?_;exact A9 (C5.refl _) O
  refine CU.cons O O ?_ ?_
  ·intro gv X mq hh o hX;have V:=o.st af;intro me dp;obtain⟨jg,_,_,dp⟩:=dp;cases dp;refine AU ?_;have il:=a7.mono' (e4.trans (o.ext af.1));exact A9 (C5.refl _) il
  refine CU.cons O O ?_ ?_
  ·intro gv X mq hh o hX;have V:=o.st af;intro im bv;obtain⟨jh,_,_,bv⟩:=bv;have bv:Sl _ _ B9 im p0_w.b.A:=bv;have io:=bv.le;refine AU ?_;exact A9 (C5.refl _) ⟨O,(Je io)⟩
  refine CU.cons O O ?_ ?_
  ·intro gv X mq hh o hX;have V:=o.st af;refine AU ?_;exact A9 (C5.refl _) O
  refine CU.cons O O ?_ ?_
  ·intro gv X mq hh o hX;have V:=o.st af;intro mf dq;obtain⟨ji,_,_,dq⟩:=dq;cases dq;refine AU ?_;exact A9 (C5.refl _) O
  refine CU.cons O O ?_ ?_
  ·intro gv X mq hh o hX;have V:=o.st af;intro mg dr;obtain⟨jj,_,_,dr⟩:=dr;cases dr;refine AU ?_;exact A9 (C5.refl _) O
  refine CU.cons O O ?_ ?_
  ·intro gv X mq hh o hX;have V:=o.st af;intro mi ds;obtain⟨jk,_,_,ds⟩:=ds;cases ds;refine AU ?_;exact A9 (C5.refl _) O
  refine CU.cons O O ?_ ?_
  ·intro gv X mq hh o hX;have V:=o.st af;intro mj dt;obtain⟨jl,_,_,dt⟩:=dt;cases dt;refine AU ?_;have ip:=bt.mono' (e4.trans (o.ext af.1));exact A9 (C5.refl _) ip
  refine CU.cons O O ?_ ?_
  ·intro gv X mq hh o hX;have V:=o.st af;intro ir bw;obtain⟨jm,_,_,bw⟩:=bw;have bw:Sl _ _ A7.str ir p0_w.b.H:=bw;have it:=bw.le;refine AU ?_;exact A9 (C5.refl _) ⟨O,(Je it)⟩
  refine Ok O O ?_ ?_
  ·intro gv X mq hh o hX;have V:=SX.fz (X:=X) af o;intro iu bk ml du mm dv mn dw;obtain⟨jn,_,_,bk⟩:=bk;have bk:=Sl.mono' (S':=(SX S2 h hh X)) bk ⟨λb hb=>(SX.ext af.1 o hX).sub b hb,λ_ _=>rfl,tX _⟩;have bk:Sl _ _ A3 iu p0_w.s.G:=bk;obtain⟨jo,_,_,du⟩:=du;obtain⟨rfl,iv⟩:=du;obtain⟨jp,_,_,dv⟩:=dv;obtain⟨rfl,iw⟩:=dv;obtain⟨jq,_,_,dw⟩:=dw;obtain⟨rfl,iy⟩:=dw;refine Dh O O O lN O (Sg V bk iv iw iy fv) λmp mr ms iz p=>?_;obtain⟨mu,mv,rfl,dx⟩:=p;have i0:=dx.pick (.tail (.tail .head));obtain⟨fw,dy,fx,jr,fy⟩:=OW.done af.1 o hX iz i0;exact A9 fx ⟨fw,dy,⟨_,_,O,fy⟩⟩
  refine CU.cons O O ?_ ?_
  ·intro gv X mq hh o hX;have V:=o.st af;intro js bx;obtain⟨dz,_,_,bx⟩:=bx;obtain⟨jt,ju,rfl,jv⟩:=bx;refine AU ?_;exact A9 (C5.refl _) ⟨dz,_,_,O⟩
  refine CU.cons O O ?_ ?_
  ·intro gv X mq hh o hX;have V:=o.st af;intro jw bz;obtain⟨d0,_,_,bz⟩:=bz;obtain⟨_,jx,jy,rfl⟩:=bz;refine AU ?_;exact A9 (C5.refl _) (by rw[←d0];rfl)
  refine CU.cons O O ?_ ?_
  ·intro gv X mq hh o hX;have V:=o.st af;intro jz b0;obtain⟨d1,_,_,b0⟩:=b0;obtain⟨_,j0,j1,rfl⟩:=b0;refine AU ?_;exact A9 (C5.refl _) (by rw[←d1];rfl)
  refine CU.cons O O ?_ ?_
  ·intro gv X mq hh o hX;have V:=o.st af;intro j2 cl;obtain⟨d2,_,_,cl⟩:=cl;refine AU ?_;exact A9 (C5.refl _) d2
  refine CU.cons O O ?_ ?_
  ·intro gv X mq hh o hX;have V:=o.st af;intro j3 cm;obtain⟨d3,_,_,cm⟩:=cm;refine AU ?_;exact A9 (C5.refl _) d3
  exact trivial
 intro b1 bl i1 br bc d4 j4 b2 cn b3 co b4 cp b5 cq b6 cr b7;obtain⟨d5,b2⟩:=b2;obtain⟨b8,b3⟩:=b3;obtain⟨d6,b4⟩:=b4;obtain⟨d7,b5⟩:=b5;obtain⟨i2,b6⟩:=b6;obtain⟨i3,b7⟩:=b7;obtain⟨a1,a8,rfl,f0⟩:=b2;have bm:=(WM.cons (WM.nil af br bc) d4 (j:=22) O f0).st;simp only[uV,uK] at bm;obtain rfl: .tuple #[a1,a8]=cn:=((by rw[b3.1,←d5];try rfl:cn= .tuple #[a1,a8])).symm;obtain rfl:a1=co:=((by rw[b4,←b8];try rfl:co=a1)).symm;obtain rfl:a8=cp:=((by rw[b5,←b8];try rfl:cp=a8)).symm;obtain rfl:a1=cq:=((by rw[b6,←d6];try rfl:cq=a1)).symm;obtain rfl:a8=cr:=((by rw[b7,←d7];try rfl:cr=a8)).symm;refine AU ?_;obtain⟨a0,ax,rfl,j5⟩:=bm.oslen (mt mh);refine E5 (vs:=[(.slice a0 az.2.length ax)]) (cs':=[.string p0_w.b.I,an,vI p0_w.b.O,ao,ag,ap,aq,ar,au,av,vI p0_w.b.R,ah,ai,aj,ak,am,vI p0_w.s.B,d,g,(.slice a0 az.2.length ax),ac,t,u,y,ad,z]) O O O O ty_33.1 O bm (.tail (.tail (.tail .head))) O O λb9 d8 ca=>?_;have d9:=e4.trans ((SX.ext af.1 br (cA bc)).trans ca);have j6:=a7.mono' d9;refine AU ?_;refine AO (λa w=>∃(a4:List (List Int)) (a5:List Int),IV B (SX S2 h b1 (UX bl)) b9 (123,[]) a w [(0,vP c 0)] (OS A3 121 (.slice a0 az.2.length ax) az.2::OS (A7.sl AB) 29 d a4::Bx c 160 [.string p0_w.b.I,an,vI p0_w.b.O,ao,ag,ap,aq,ar,au,av,vI p0_w.b.R,ah,ai,aj,ak,am,vI p0_w.s.B,d,g,(.slice a0 az.2.length ax),ac,t,u,y,ad,z]::OS AB 3 g p0_w.s.L::OS BL 106 ac p0_w.s.M::OS AB 3 t p0_w.s.N::OS AB 3 u p0_w.s.K::OS BB 74 y p0_w.moves::OS AB 3 ad a5::OS A3 121 z p0_w.sent::L) λ_ _=>Ce N p0_w az a4 a5=some r) ?_ ?_
 ·refine A4 (λn1=>λa w=>∃(aw:Int) (a9:List (List Int)) (ba:List Int),IV B (SX S2 h b1 (UX bl)) b9 (123,[]) a w [(43,vI (↑p0_w.b.A.length:Int)),(2,a1),(0,vP c 0),(44,vI aw)] (OS (A7.sl AB) 29 a1 az.1::OS A3 121 (.slice a0 az.2.length ax) az.2::OS (A7.sl AB) 29 d a9::Bx c 160 [.string p0_w.b.I,an,vI p0_w.b.O,ao,ag,ap,aq,ar,au,av,vI p0_w.b.R,ah,ai,aj,ak,am,vI p0_w.s.B,d,g,(.slice a0 az.2.length ax),ac,t,u,y,ad,z]::OS AB 3 g p0_w.s.L::OS BL 106 ac p0_w.s.M::OS AB 3 t p0_w.s.N::OS AB 3 u p0_w.s.K::OS BB 74 y p0_w.moves::OS AB 3 ad ba::OS A3 121 z p0_w.sent::L) λ_ _=>AA aw∧CS N p0_w az (Ce N p0_w az) n1 aw a9 ba=some r) N ?_ ?_ ?_
  ·intro aa ww hf hw;exact⟨0,p0_w.s.D,p0_w.peaks,_,_,hf.sub (kp [43,2,0,44] O),hw,d8,(CB.refl (SX S2 h b1 (UX bl)) b9),(iq (n:=0) O),E⟩
  ·rintro aa ww ⟨_,_,_,_,_,_,_,_,_,_,E⟩;rw[CS] at E;cases E
  rintro n1 aa ww ⟨aw,a9,ba,be,cb,hf,hw,ab,cs,cc,E⟩;refine AJ ?_ hf hw;clear hf hw ww aa;rw[CS] at E;refine AU ?_;refine AH O E (λf1 E=>?_) (λf1 E=>?_)
  ·refine AU ?_;refine A5 (AU ?_);refine SR (kp [4,43,2,0,44] O) ?_;obtain⟨j7,ea,E⟩:=bd E;obtain⟨ct,eb,E⟩:=bd E;obtain⟨j8,ec,E⟩:=bd E;obtain⟨cu,ed,E⟩:=bd E;obtain⟨cd,ee,E⟩:=bd E;obtain⟨j9,ef,E⟩:=bd E;refine Mt (m:=[(4,vI aw),(43,vI (↑p0_w.b.A.length:Int)),(2,a1),(0,vP c 0),(44,vI aw)]) 20 (λi v hh=>match i with|0=>v=vP c 0|1=>v=vP c 0|2=>v=vP c 16|3=>v=vP c 17|4=>v=d|5=>v=vI aw∧AA aw|6=>v=vP c 0|7=>v=vP c 0|8=>v=vP c 16|9=>v=vP c 17|10=>v=d|11=>v=vI aw∧AA aw|12=>EP d (aw.toNat*((A7.sl AB)).sz+0) v|13=>Sl be hh AB v ct|14=>v=a1|15=>v=vI aw∧AA aw|16=>EP a1 (aw.toNat*((A7.sl AB)).sz+0) v|17=>Sl be hh AB v cu|18=>Sl (SN be cb hh) hh AB v cd|19=>EP d (aw.toNat*((A7.sl AB)).sz+0) v|_=>False) [[],[(0,47)],[(1,48)],[(2,49)],[(3,50)],[],[],[(6,53)],[(7,54)],[(8,55)],[(9,56)],[],[(10,57),(11,58)],[(12,59)],[],[],[(14,61),(15,62)],[(16,63)],[(13,60),(17,64)],[(4,51),(5,52)]] [(18,65),(19,66)] mo (by kernel_rfl) [4,43,2,0,44] O (by kernel_rfl) (by kernel_rfl) (by kernel_rfl) (kp [4,43,2,0,44] O) (λi v h1 h2 o1 o2 W=>?_) ?_ ?_
   ·match i,W with
     |0,W|1,W|2,W|3,W|4,W|5,W|6,W|7,W|8,W|9,W|10,W|11,W|12,W|14,W|15,W|16,W|19,W=>exact W
     |13,W|17,W=>exact Sl.mono' W (o2.ext λb hb=>tZ (ab.1 b hb) o1.siz)
     |18,W=>exact Sl.mono' W (SN.mono ab.1 o1 o2)
     |_+20,W=>exact W.elim
   ·refine AQ.cons O ?_ ?_
    ·intro mq hh o;have V:=o.st ab;refine AU ?_;exact A9 (C5.refl _) O
    refine AQ.cons O ?_ ?_
    ·intro mq hh o;intro ka f2;have V:=o.st ab;cases f2;refine AU ?_;exact A9 (C5.refl _) O
    refine AQ.cons O ?_ ?_
    ·intro mq hh o;intro kb f3;have V:=o.st ab;cases f3;refine AU ?_;exact A9 (C5.refl _) O
    refine AQ.cons O ?_ ?_
    ·intro mq hh o;intro kc f4;have V:=o.st ab;cases f4;refine AU ?_;exact A9 (C5.refl _) O
    refine AQ.cons O ?_ ?_
    ·intro mq hh o;intro kd f5;have V:=o.st ab;cases f5;refine AU ?_;exact A9 (C5.refl _) O
    refine AQ.cons O ?_ ?_
    ·intro mq hh o;have V:=o.st ab;refine AU ?_;exact A9 (C5.refl _) ⟨O,cc⟩
    refine AQ.cons O ?_ ?_
    ·intro mq hh o;have V:=o.st ab;refine AU ?_;exact A9 (C5.refl _) O
    refine AQ.cons O ?_ ?_
    ·intro mq hh o;intro ke f6;have V:=o.st ab;cases f6;refine AU ?_;exact A9 (C5.refl _) O
    refine AQ.cons O ?_ ?_
    ·intro mq hh o;intro kf f7;have V:=o.st ab;cases f7;refine AU ?_;exact A9 (C5.refl _) O
    refine AQ.cons O ?_ ?_
    ·intro mq hh o;intro kg f8;have V:=o.st ab;cases f8;refine AU ?_;exact A9 (C5.refl _) O
    refine AQ.cons O ?_ ?_
    ·intro mq hh o;intro kh f9;have V:=o.st ab;cases f9;refine AU ?_;exact A9 (C5.refl _) O
    refine AQ.cons O ?_ ?_
    ·intro mq hh o;have V:=o.st ab;refine AU ?_;exact A9 (C5.refl _) ⟨O,cc⟩
    refine AQ.cons O ?_ ?_
    ·intro mq hh o;intro ki ga kj gb;have V:=o.st ab;cases ga;obtain⟨rfl,kk⟩:=gb;refine AU ?_;refine BR V (mt (mt mh)) O O sl_32.1 ea O λkl eg=>AU ?_;exact A9 (C5.refl _) eg
    refine AQ.cons O ?_ ?_
    ·intro mq hh o;intro km gc;have V:=o.st ab;refine AU ?_;have gd:=V.epAt (mt (mt mh)) eb FW.id gc;refine If K9 (λ_ x=>x) O gd ty_29.1 O λkn ge=>AU ?_;exact A9 (C5.refl _) ge
    refine AQ.cons O ?_ ?_
    ·intro mq hh o;have V:=o.st ab;refine AU ?_;exact A9 (C5.refl _) O
    refine AQ.cons O ?_ ?_
    ·intro mq hh o;have V:=o.st ab;refine AU ?_;exact A9 (C5.refl _) ⟨O,cc⟩
    refine AQ.cons O ?_ ?_
    ·intro mq hh o;intro ko gf kr gg;have V:=o.st ab;cases gf;obtain⟨rfl,ks⟩:=gg;refine AU ?_;refine BR V mh O O sl_32.1 ec O λkt eh=>AU ?_;exact A9 (C5.refl _) eh
    refine AQ.cons O ?_ ?_
    ·intro mq hh o;intro ku gh;have V:=o.st ab;refine AU ?_;have gi:=V.epAt mh ed FW.id gh;refine If K9 (λ_ x=>x) O gi ty_29.1 O λkv gj=>AU ?_;exact A9 (C5.refl _) gj
    refine AQ.cons O ?_ ?_
    ·intro mq hh o;intro gl bf gm bg;have V:=SN.st ab o;have bf:=Sl.mono' (S':=(SN be cb hh)) bf ⟨λb hb=> .inl hb,λ_ _=>rfl,tX _⟩;have bf:Sl _ _ AB gl ct:=bf;have bg:=Sl.mono' (S':=(SN be cb hh)) bg ⟨λb hb=> .inl hb,λ_ _=>rfl,tX _⟩;have bg:Sl _ _ AB gm cu:=bg;have ck:=V.fz;refine E6 O O O Zz O ck (Na (St.all _) (bf.mono (λb hb=>ck.1 b hb) (λ_ _=>rfl)) (bg.mono (λb hb=>ck.1 b hb) (λ_ _=>rfl)) ee) λkw kx ky i4 gn gp p=>?_;have ei:=p;have ce:=ck.join gp ei ⟨OS.flat (λ{_ _ _ _ _ _} k=>k),trivial⟩;simp only[uV,uK] at ce;obtain⟨kz,ej,gq,gr⟩:=ce.pubs .head;have cf:=Fz.done o (gn.trans gq) ej;exact A9 cf.1 (Sl.mono' gr cf.2)
    refine AQ.cons O ?_ ?_
    ·intro mq hh o;intro k0 gs k1 gt;have V:=o.st ab;cases gs;obtain⟨rfl,k2⟩:=gt;refine AU ?_;refine BR V (mt (mt mh)) O O sl_32.1 ef O λk3 ek=>AU ?_;exact A9 (C5.refl _) ek
    exact trivial
   intro k4 cv gu cg k5 gw;have el:=SN.st ab cv;have cg:Sl _ _ AB gu cd:=cg;obtain⟨gx,em,E⟩:=bd E;refine FM (r:=(A7.sl AB)) (l:=a9) (i:=aw) (x:=gx) O O (O5 cg) gw em NM.id ty_29.1 (λ_=>rfl) el (.tail (.tail .head)) λk6 a6 gy=>AU ?_;refine Lo 15 mo (by kernel_rfl) O a6 (AU ?_);obtain⟨k7,en,E⟩:=bd E;refine BR a6 (mt (mt mh)) O O sl_32.1 en O λk8 eo=>?_;obtain⟨k9,ep,E⟩:=bd E;have gz:=a6.epAt (mt (mt mh)) ep FW.id eo;refine If NI (λ_ x=>x) O gz ty_29.1 O λla g0=>?_;obtain⟨cw,eq,E⟩:=bd E;refine Pq O O O NJ O (λh' o=>D0 (St.all h') (g0.mono' (o.all a6.1)) eq) λg1=>?_;have g2:=g1;obtain⟨lb,er,E⟩:=bd E;refine BR a6 (mt (mt (mt (mt (mt (mt (mt (mt (mt mh))))))))) O O sl_29.1 er O λlc es=>KD λlf eu g3=>?_;obtain⟨g4,ew,E⟩:=bd E;refine FM (r:=AB) (l:=ba) (i:=aw) (x:=g4) O O (⟨_,O,O,g2⟩:Rd _ _ AB _ cw) es ew NM.id ty_3.1 (λ_=>rfl) eu (.tail (.tail (.tail (.tail (.tail (.tail (.tail (.tail (.tail .head))))))))) λlg ey g5=>AU ?_;refine BE (AU ?_);refine WF.nil (λaa ww hf hw=>?_);have ez:=cs.trans ((SN.ext ab.1 cv).trans (gy.trans (g3.trans g5)));exact⟨(BD (aw+1)),(upd a9 aw cd),(upd ba aw cw),_,_,hf.sub (kp [43,2,0,44] O),hw,ey,ez,(BI _),E⟩
  refine BC O (λaa ww hf hw=>?_);have e0:=ab.sel [1,1,1,1,1,1,1,1,1,1] 1 O;exact⟨a9,ba,_,_,hf.sub (kp [0] O),hw,e0,cs,E⟩
 rintro aa ww ⟨a4,a5,cx,cy,hf,hw,e1,cz,E⟩;refine AJ ?_ hf hw;clear hf hw ww aa;rw[Ce] at E;have e2:=e4.trans ((SX.ext af.1 br (cA bc)).trans (ca.trans cz));have g6:=bu.mono' e2;refine AU ?_;refine A5 (A4 (λn2=>λa w=>∃(a2:Int) (bb:List AT),IV B cx cy (123,[]) a w [(88,vI (↑p0_w.b.E.length:Int)),(87,ag),(0,vP c 0),(89,vI a2)] (OS A3 121 (.slice a0 az.2.length ax) az.2::OS (A7.sl AB) 29 d a4::Bx c 160 [.string p0_w.b.I,an,vI p0_w.b.O,ao,ag,ap,aq,ar,au,av,vI p0_w.b.R,ah,ai,aj,ak,am,vI p0_w.s.B,d,g,(.slice a0 az.2.length ax),ac,t,u,y,ad,z]::OS AB 3 g p0_w.s.L::OS BL 106 ac bb::OS AB 3 t p0_w.s.N::OS AB 3 u p0_w.s.K::OS BB 74 y p0_w.moves::OS AB 3 ad a5::OS A3 121 z p0_w.sent::L) λ_ _=>AA a2∧CC N p0_w az a4 a5 n2 a2 bb=some r) N ?_ ?_ ?_)
 ·intro aa ww hf hw;exact⟨0,p0_w.s.M,_,_,hf.sub (kp [88,87,0,89] O),hw,e1,(CB.refl cx cy),(iq (n:=0) O),E⟩
 ·rintro aa ww ⟨_,_,_,_,_,_,_,_,_,E⟩;rw[CC] at E;cases E
 rintro n2 aa ww ⟨a2,bb,g7,g8,hf,hw,ch,ci,lh,E⟩;refine AJ ?_ hf hw;clear hf hw ww aa;rw[CC] at E;refine AU ?_;refine AH O E (λg9 E=>?_) (λg9 E=>?_)
 ·refine AU ?_;refine AO (λa w=>∃(bs:List AT),IV B g7 g8 (123,[]) a w [(88,vI (↑p0_w.b.E.length:Int)),(87,ag),(0,vP c 0),(89,vI a2)] (OS A3 121 (.slice a0 az.2.length ax) az.2::OS (A7.sl AB) 29 d a4::Bx c 160 [.string p0_w.b.I,an,vI p0_w.b.O,ao,ag,ap,aq,ar,au,av,vI p0_w.b.R,ah,ai,aj,ak,am,vI p0_w.s.B,d,g,(.slice a0 az.2.length ax),ac,t,u,y,ad,z]::OS AB 3 g p0_w.s.L::OS BL 106 ac bs::OS AB 3 t p0_w.s.N::OS AB 3 u p0_w.s.K::OS BB 74 y p0_w.moves::OS AB 3 ad a5::OS A3 121 z p0_w.sent::L) λ_ _=>Er N a2 (CC N p0_w az a4 a5 n2) bs=some r) ?_ ?_
  ·refine AU ?_;have ha:=g6.mono' ci;obtain⟨ae,e3,E⟩:=bd E;refine M2 O O ha sl_24.1 e3 O λli hc=>?_;obtain⟨lj,_,hd⟩:=hc.lv;refine AU ?_;refine CO OD O ch λll lm e5 cj=>AU ?_;have he:=hd.mono cj;obtain⟨c0,c1,c2,rfl,hg,hi,hj,hk,c3,c4,c5,hl,hm,hn,ho,hp,hq,ht,hu,hv,hx,hy⟩:=BZ.ex he;refine SZ (vs:=[.string ae.I,vI ae.F,vI ae.J,vI ae.C,c0,c1,c2,vI ae.U,vI ae.Ac,vI ae.Bb,vI ae.Bc,vI ae.Y,vI ae.S,vI ae.Aw,vI ae.Ax,vI ae.Ar,vI ae.Al,vI ae.Q]) (cs':=[.string ae.I,vI ae.F,vI ae.J,vI ae.C,c0,c1,c2,vI ae.U,vI ae.Ac,vI ae.Bb,vI ae.Bc,vI ae.Y,vI ae.S,vI ae.Aw,vI ae.Ax,vI ae.Ar,vI ae.Al,vI ae.Q]) O O O (CD O (CD O (CD O (CD O (CD c3.one (CD c4.one (CD c5.one (CD O (CD O (CD O (CD O (CD O (CD O (CD O (CD O (CD O (CD O (CD O Mo)))))))))))))))))) ty_117.1 O e5 .head O O λln ay bh=>AU ?_;refine AH O E (λh0 E=>?_) (λh0 E=>?_)
   ·refine Lo 25 mo (by kernel_rfl) O ay (AU ?_);obtain⟨lo,e6,E⟩:=bd E;refine BR ay (mt (mt (mt (mt (mt mh))))) O O sl_34.1 e6 O λlp e7=>?_;obtain⟨lq,e8,E⟩:=bd E;have h3:=ay.epAt (mt (mt (mt (mt (mt mh))))) e8 FW.id e7;refine Nv NI (λ_ x=>x) O h3 ty_106.1 (λe=>by cases e) O λlr h4=>AU ?_;obtain⟨ls,e9,E⟩:=bd E;refine BR ay (mt (mt (mt (mt (mt (mt (mt (mt (mt mh))))))))) O O sl_29.1 e9 O λlt fa=>?_;obtain⟨lu,fb,E⟩:=bd E;have h5:=ay.epAt (mt (mt (mt (mt (mt (mt (mt (mt (mt mh))))))))) fb FW.id fa;refine F8 NI (λ_ x=>x) O h5 ty_3.1 O λh6=>?_;have h7:=c3.mono' bh;have h8:=c4.mono' bh;have h9:=c5.mono' bh;obtain⟨c6,fc,E⟩:=bd E;refine Pq O O O lM O (λh' o=>RM (St.all h') (BZ.mk (x:=ae) hg hi hj hk (h7.mono' (o.all ay.1)) (h8.mono' (o.all ay.1)) (h9.mono' (o.all ay.1)) hl hm hn ho hp hq ht hu hv hx hy) (h4.mono (o.all ay.1)) h6 fc) λia=>?_;obtain⟨ib,ic⟩:=ia;obtain⟨lw,fd,E⟩:=bd E;refine BR ay (mt (mt (mt (mt (mt mh))))) O O sl_34.1 fd O λlx fe=>KD λly ff ie=>?_;obtain⟨ig,fg,E⟩:=bd E;refine FM (r:=BL) (l:=bb) (i:=a2) (x:=ig) O O (BL.mk (x:=c6) ⟨ib,ic⟩) fe fg NM.id ty_106.1 (λe=>by cases e) ff (.tail (.tail (.tail (.tail (.tail .head))))) λlz fh ih=>AU ?_;refine WF.nil (λaa ww hf hw=>?_);have fi:=fh.sel [1,1,1,1,1,1,1,1,1,1] 1 O;have fj:=cj.trans (bh.trans (ie.trans ih));exact⟨(upd bb a2 c6),_,_,hf.sub (kp [88,87,0,89] O),hw,fi,fj,E⟩
   refine AU ?_;refine WF.nil (λaa ww hf hw=>?_);have fk:=ay.sel [1,1,1,1,1,1,1,1,1,1] 1 O;exact⟨bb,_,_,hf.sub (kp [88,87,0,89] O),hw,fk,(cj.trans bh),E⟩
  rintro aa ww ⟨bs,l0,l1,hf,hw,fl,ii,E⟩;refine AJ ?_ hf hw;clear hf hw ww aa;rw[Er] at E;refine AU ?_;refine WF.nil (λaa ww hf hw=>?_);exact⟨(BD (a2+1)),bs,_,_,hf.sub (kp [88,87,0,89] O),hw,fl,(ci.trans ii),(BI _),E⟩
 refine J6 O (WF.nil (λaa ww hf hw=>?_));have fm:=ch.sel [2,1,1,0,0,0,0,0,0,0] 0 O;cases E;have fn:=e4.trans ((SX.ext af.1 br (cA bc)).trans (ca.trans (cz.trans ci)));exact JC hf O hw JB O fn ⟨_,_,_,_,O,fm⟩
end Go.Proofs.YtedgiljmffngoaaGreat
