import Derived.Test.YtedgiljmffngoaaGreatFFacts
import Derived.Test.YtedgiljmffngoaaGreatFForms
import Derived.Test.YtedgiljmffngoaaGreatFInst
import Derived.Test.YtedgiljmffngoaaGreatFSort5
import Derived.Test.YtedgiljmffngoaaGreatFWalk0
import Derived.Test.YtedgiljmffngoaaGreatFWalk1
namespace Go.Proofs.YtedgiljmffngoaaGreat
set_option linter.all false
open Go.RowKit
open Go.Proofs.Tryz
set_option maxRecDepth 10000
set_option maxHeartbeats 2000000
variable {N:Nat}{S:Nat→Prop}{L:List HP}{h:AT}
def N1 {g:Nat}{p0_w:A5}{ai:Value}{aj:Value}{ak:Value}{am:Value}{an:Value}{ao:Value}{ap:Value}{aq:Value}{ac:Value}{ad:Value}{af:Value}{ag:Value}{l:Value}{d:Value}{q:Value}{ah:Value}{t:Value}{u:Value}{x:Value}{y:Value}{z:Value}{M:Value}(hs:St S (Bx g 160 [.string p0_w.b.C,ai,vI p0_w.b.H,aj,ak,am,an,ao,ap,aq,vI p0_w.b.G,ac,ad,af,ag,l,vI p0_w.s.A,d,q,ah,t,u,x,y,z,M]::OO AB 3 29 d p0_w.s.F::OS AB 3 q p0_w.s.K::OS BK 106 t p0_w.s.Q::OS AB 3 u p0_w.s.O::OS AB 3 x p0_w.s.N::OS BJ 74 y p0_w.moves::OS AB 3 z p0_w.peaks::OS A3 121 M p0_w.sent::L) h) (ch:p0_w.b.C.size≤maxLen) (aw:Sl S h BB.str ai p0_w.b.I) (ci:AA p0_w.b.H) (az:Sl S h BX aj p0_w.b.E) (cj:Sl S h Bu ak p0_w.b.J) (ck:Sl S h DL am p0_w.b.U) (cl:Sl S h Cw an p0_w.b.W) (cm:Sl S h DM ao p0_w.b.Y) (cn:Sl S h Cd ap p0_w.b.Z) (co:Sl S h AB aq p0_w.b.X) (bo:AA p0_w.b.G) (bp:Sl S h AB ac p0_w.in_.Aa) (bq:Sl S h D0 ad p0_w.in_.Ai) (br:Sl S h H2 af p0_w.in_.Aj) (bs:Sl S h D3 ag p0_w.in_.Ak) (ax:Sl S h Ea l p0_w.in_.Ag) (bt:AA p0_w.s.A) (bu:Sl S h A3 ah p0_w.s.P) {r:(List (List Int))}(E:Jw N p0_w=some r):
 B0 prog 80 #[vP g 0] S h (λv S' h'=>∃ay:Value,v= .tuple #[]∧St S' (Bx g 160 [.string p0_w.b.C,ai,vI p0_w.b.H,aj,ak,am,an,ao,ap,aq,vI p0_w.b.G,ac,ad,af,ag,l,vI p0_w.s.A,ay,q,ah,t,u,x,y,z,M]::OO AB 3 29 ay r::OS AB 3 q p0_w.s.K::OS BK 106 t p0_w.s.Q::OS AB 3 u p0_w.s.O::OS AB 3 x p0_w.s.N::OS BJ 74 y p0_w.moves::OS AB 3 z p0_w.peaks::OS A3 121 M p0_w.sent::L) h'):=by
 refine BA 70 func80 O ntmps80 O λB=>?_;rw[Jw] at E;refine AU ?_;refine AZ (AY (λn0=>λa w=>∃(i5:Int) (l7:List (List Int)),IV B S h (70,[]) a w [(9,vI (↑p0_w.in_.Ag.length:Int)),(8,l),(0,vP g 0),(10,vI i5)] (Bx g 160 [.string p0_w.b.C,ai,vI p0_w.b.H,aj,ak,am,an,ao,ap,aq,vI p0_w.b.G,ac,ad,af,ag,l,vI p0_w.s.A,d,q,ah,t,u,x,y,z,M]::OO AB 3 29 d l7::OS AB 3 q p0_w.s.K::OS BK 106 t p0_w.s.Q::OS AB 3 u p0_w.s.O::OS AB 3 x p0_w.s.N::OS BJ 74 y p0_w.moves::OS AB 3 z p0_w.peaks::OS A3 121 M p0_w.sent::L) λ_ _=>AA i5∧DP N p0_w n0 i5 l7=some r) N ?_ ?_ ?_)
 ·intro aa ww hf hw;exact⟨0,p0_w.s.F,_,_,hf.sub (kp [9,8,0,10] O),hw,hs,(B6.refl S h),(iq (n:=0) O),E⟩
 ·rintro aa ww ⟨_,_,_,_,_,_,_,_,_,E⟩;rw[DP] at E;cases E
 rintro n0 aa ww ⟨i5,l7,S8,h9,hf,hw,bm,cp,r6,E⟩;refine AI ?_ hf hw;clear hf hw ww aa;rw[DP] at E;refine AU ?_;refine AF O E (λdh E=>?_) (λdh E=>?_)
 ·refine AU ?_;refine AK (λa w=>∃(bl:List (List Int)),IV B S8 h9 (70,[]) a w [(9,vI (↑p0_w.in_.Ag.length:Int)),(8,l),(0,vP g 0),(10,vI i5)] (Bx g 160 [.string p0_w.b.C,ai,vI p0_w.b.H,aj,ak,am,an,ao,ap,aq,vI p0_w.b.G,ac,ad,af,ag,l,vI p0_w.s.A,d,q,ah,t,u,x,y,z,M]::OO AB 3 29 d bl::OS AB 3 q p0_w.s.K::OS BK 106 t p0_w.s.Q::OS AB 3 u p0_w.s.O::OS AB 3 x p0_w.s.N::OS BJ 74 y p0_w.moves::OS AB 3 z p0_w.peaks::OS A3 121 M p0_w.sent::L) λ_ _=>Gn N i5 (DP N p0_w n0) bl=some r) ?_ ?_
  ·refine AU ?_;have di:=ax.mono' cp;refine A9 E O O di sl_58.1 O λar E fs dj=>?_;obtain⟨ft,_,dk⟩:=dj.lv;refine AU ?_;refine CG YQ O bm λa0 fu cq cr=>?_;have dl:=dk.mono cr;obtain⟨rfl,⟨bv,cs,ct,dm⟩⟩:=Ea.ex dl;refine CV O O O O ty_251.1 O cq .head O λfv cu dn=>AU ?_;refine BZ (.inr ⟨mo,by kernel_rfl⟩) cu ?_;have dp:=az.nw;have dq:=dp.le;refine AU ?_;refine BC E O O O NZ O (λcv cw h' o=>FH (St.all h') bv (Jb dq) cw) λcv E=>AU ?_;obtain⟨cx,au,E⟩:=bd E;refine AS 10 33 (.bool cx) ?_ ?_
   ·cases cy:cv
    ·have au:=Em cy au;cases au;exact A6 O O
    have au:=El cy au;have dr:=aw.nw;have ds:=dr.le;refine AU ?_;refine BC au O O O NZ O (λdt cz h' o=>FH (St.all h') cs (Jb ds) cz) λdt au=>AU ?_;cases au;exact AQ O
   refine AU ?_;obtain⟨du,av,E⟩:=bd E;refine AS 10 44 (.bool du) ?_ ?_
   ·cases c0:cx
    ·have av:=Em c0 av;cases av;exact A6 O O
    have av:=El c0 av;have dv:=aw.nw;have dw:=dv.le;refine AU ?_;refine BC av O O O NZ O (λdx c1 h' o=>FH (St.all h') ct (Jb dw) c1) λdx av=>AU ?_;cases av;exact AQ O
   refine BL (kp [44,3,9,8,0,10] O) λdy c dz=>AF O E (λd0 E=>?_) (λd0 E=>?_)
   ·obtain ⟨fw,c2,E⟩:=bd E;obtain⟨d1,c3,E⟩:=bd E;obtain⟨c4,c5,E⟩:=bd E;obtain⟨fx,c6,E⟩:=bd E;refine R7 (m:=[(3,vP a0 0),(9,vI (↑p0_w.in_.Ag.length:Int)),(8,l),(0,vP g 0),(10,vI i5)]) [24] [] [] (by kernel_rfl) (λgv X F i v hh=>match i with|0=>v=vP g 0|1=>v=vP g 0|2=>v=vP g 16|3=>v=vP g 17|4=>v=d|5=>v=vP a0 0|6=>v=vI ar.Ab∧AA ar.Ab|7=>v=vP g 0|8=>v=vP g 0|9=>v=vP g 16|10=>v=vP g 17|11=>v=d|12=>v=vP a0 0|13=>v=vI ar.Ab∧AA ar.Ab|14=>EP d (ar.Ab.toNat*((BB.sl AB)).sz+0) v|15=>Sl (λb=>b<hh.size) hh AB v d1|16=>v=vP a0 1|17=>v=vI ar.D∧AA ar.D|18=>v=vP a0 2|19=>v=vI ar.B∧AA ar.B|20=>v=vP a0 3|21=>v=vI ar.Bc∧AA ar.Bc|22=>OW S8 dy X F [OS AB 3 v c4] hh|23=>EP d (ar.Ab.toNat*((BB.sl AB)).sz+0) v|_=>False) [[],[(0,45)],[(1,46)],[(2,47)],[(3,48)],[],[(5,50)],[],[(7,52)],[(8,53)],[(9,54)],[(10,55)],[],[(12,57)],[(11,56),(13,58)],[(14,59)],[],[(16,61)],[],[(18,63)],[],[(20,65)],[(15,60),(17,62),(19,64),(21,66)],[(4,49),(6,51)],[]] [(22,67),(23,68)] mo (by kernel_rfl) [3,9,8,0,10] O (by kernel_rfl) (by kernel_rfl) (by kernel_rfl) O (kp [3,9,8,0,10] O) (λgv i v h1 h2 X X' F o1 o2 hF u1 u2 V=>?_) (λgv fy X F i v h1 hz V=>?_) ?_ ?_ ?_
    ·match i,V with
      |0,V|1,V|2,V|3,V|4,V|5,V|6,V|7,V|8,V|9,V|10,V|11,V|12,V|13,V|14,V|16,V|17,V|18,V|19,V|20,V|21,V|23,V=>exact V
      |15,V=>exact Sl.mono V (λb hb=>gJ hb o2.siz) (λb hb=>o2.same b hb)
      |22,V=>exact OW.mono c.1 o1 o2 hF u1 u2 V
      |_+24,V=>exact V.elim
    ·match i,V with
      |0,V|1,V|2,V|3,V|4,V|5,V|6,V|7,V|8,V|9,V|10,V|11,V|12,V|13,V|14,V|15,V|16,V|17,V|18,V|19,V|20,V|21,V|22,V|23,V=>exact V
      |_+24,V=>exact V.elim
    ·exact trivial
    ·refine CL.cons O O ?_ ?_
     ·intro gv X mq hh o hX;have ab:=o.st c;refine AU ?_;exact CR O
     refine CL.cons O O ?_ ?_
     ·intro gv X mq hh o hX;have ab:=o.st c;intro f0 bw;obtain⟨en,_,_,bw⟩:=bw;cases bw;refine AU ?_;exact CR O
     refine CL.cons O O ?_ ?_
     ·intro gv X mq hh o hX;have ab:=o.st c;intro f1 bx;obtain⟨eo,_,_,bx⟩:=bx;cases bx;refine AU ?_;exact CR O
     refine CL.cons O O ?_ ?_
     ·intro gv X mq hh o hX;have ab:=o.st c;intro f2 bz;obtain⟨ep,_,_,bz⟩:=bz;cases bz;refine AU ?_;exact CR O
     refine CL.cons O O ?_ ?_
     ·intro gv X mq hh o hX;have ab:=o.st c;intro f3 b0;obtain⟨eq,_,_,b0⟩:=b0;cases b0;refine AU ?_;exact CR O
     refine CL.cons O O ?_ ?_
     ·intro gv X mq hh o hX;have ab:=o.st c;refine AU ?_;exact CR O
     refine CL.cons O O ?_ ?_
     ·intro gv X mq hh o hX;have ab:=o.st c;intro f4 b1;obtain⟨er,_,_,b1⟩:=b1;cases b1;refine AU ?_;exact CR ⟨O,bv⟩
     refine CL.cons O O ?_ ?_
     ·intro gv X mq hh o hX;have ab:=o.st c;refine AU ?_;exact CR O
     refine CL.cons O O ?_ ?_
     ·intro gv X mq hh o hX;have ab:=o.st c;intro f5 b2;obtain⟨es,_,_,b2⟩:=b2;cases b2;refine AU ?_;exact CR O
     refine CL.cons O O ?_ ?_
     ·intro gv X mq hh o hX;have ab:=o.st c;intro f6 b3;obtain⟨eu,_,_,b3⟩:=b3;cases b3;refine AU ?_;exact CR O
     refine CL.cons O O ?_ ?_
     ·intro gv X mq hh o hX;have ab:=o.st c;intro f7 b4;obtain⟨ev,_,_,b4⟩:=b4;cases b4;refine AU ?_;exact CR O
     refine CL.cons O O ?_ ?_
     ·intro gv X mq hh o hX;have ab:=o.st c;intro f8 a1;obtain⟨d2,_,_,a1⟩:=a1;cases a1;refine AU ?_;exact CR O
     refine CL.cons O O ?_ ?_
     ·intro gv X mq hh o hX;have ab:=o.st c;refine AU ?_;exact CR O
     refine CL.cons O O ?_ ?_
     ·intro gv X mq hh o hX;have ab:=o.st c;intro ew a2;obtain⟨d3,_,_,a2⟩:=a2;cases a2;refine AU ?_;exact CR ⟨O,bv⟩
     refine CL.cons O O ?_ ?_
     ·intro gv X mq hh o hX;have ab:=o.st c;intro ey a3 ez a4;obtain⟨d4,_,_,a3⟩:=a3;cases a3;obtain⟨d5,_,_,a4⟩:=a4;obtain⟨rfl,e0⟩:=a4;refine AU ?_;refine O7 (r:=AB) ab (mt (mt mh)) O O sl_32.1 c2 O λe1 b5=>AU ?_;exact CR b5
     refine CL.cons O O ?_ ?_
     ·intro gv X mq hh o hX;have ab:=o.st c;intro e2 a5;obtain⟨d6,_,_,a5⟩:=a5;refine AU ?_;refine SG (r:=AB) FC ab (mt (mt mh)) O c3 a5 ty_29.1 O λe3 d7 c7=>AU ?_;exact CR c7
     refine CL.cons O O ?_ ?_
     ·intro gv X mq hh o hX;have ab:=o.st c;refine AU ?_;exact CR O
     refine CL.cons O O ?_ ?_
     ·intro gv X mq hh o hX;have ab:=o.st c;intro e4 a6;obtain⟨d8,_,_,a6⟩:=a6;cases a6;refine AU ?_;exact CR ⟨O,cs⟩
     refine CL.cons O O ?_ ?_
     ·intro gv X mq hh o hX;have ab:=o.st c;refine AU ?_;exact CR O
     refine CL.cons O O ?_ ?_
     ·intro gv X mq hh o hX;have ab:=o.st c;intro e5 a7;obtain⟨d9,_,_,a7⟩:=a7;cases a7;refine AU ?_;exact CR ⟨O,ct⟩
     refine CL.cons O O ?_ ?_
     ·intro gv X mq hh o hX;have ab:=o.st c;refine AU ?_;exact CR O
     refine CL.cons O O ?_ ?_
     ·intro gv X mq hh o hX;have ab:=o.st c;intro e6 a8;obtain⟨ea,_,_,a8⟩:=a8;cases a8;refine AU ?_;exact CR ⟨O,dm⟩
     refine Nj O O ?_ ?_
     ·intro gv X mq hh o hX;have ab:=SX.fz (X:=X) c o;intro e7 a9 e8 ba e9 bb fa bc;obtain⟨eb,_,_,a9⟩:=a9;obtain⟨ec,_,_,ba⟩:=ba;obtain⟨rfl,c8⟩:=ba;obtain⟨ed,_,_,bb⟩:=bb;obtain⟨rfl,c9⟩:=bb;obtain⟨ee,_,_,bc⟩:=bc;obtain⟨rfl,da⟩:=bc;refine Cn O O O Zr O ab (Q6 (St.all _) a9 c8 c9 da c5) λfb fc fd ef db dc p=>?_;have b6:=p;have be:=ab.join dc b6 ⟨OS.flat (λ{_ _ _ _ _ _} k=>k),trivial⟩;simp only[gZ,gQ] at be;have eg:=be.pick (.tail .head);obtain⟨dd,b7,de,fe,df⟩:=OW.done c.1 o hX db eg;exact AL de ⟨dd,b7,df⟩
     refine CL.cons O O ?_ ?_
     ·intro gv X mq hh o hX;have ab:=o.st c;intro ff bf fg bg;obtain⟨eh,_,_,bf⟩:=bf;cases bf;obtain⟨ei,_,_,bg⟩:=bg;obtain⟨rfl,fh⟩:=bg;refine AU ?_;refine O7 (r:=AB) ab (mt (mt mh)) O O sl_32.1 c6 O λfi b8=>AU ?_;exact CR b8
     exact CL.skip (by kernel_rfl) (trivial)
    intro fj ej ek bn bh b9 fk bi fm bj;obtain⟨el,bi⟩:=bi;obtain⟨em,bj⟩:=bj;have bk:=(Tt.cons (Tt.nil c bn bh) b9 (j:=22) O bi).st;simp only[gZ,gQ] at bk;have ca:=bk.sel [0,2,0,0,0,0,0,0,0,0,0] 0 O;obtain⟨fn,cb,E⟩:=bd E;refine Uh (r:=AB) (i:=ar.Ab) O O bj cb ty_29.1 ca λfo cc dg=>AU ?_;refine WF.nil (λaa ww hf hw=>?_);have cd:=cc.sel [2,0,1,1,1,1,1,1,1] 1 O;have ce:=cr.trans (dn.trans (dz.trans ((SX.ext c.1 bn (Wt bh)).trans dg)));exact⟨(upd l7 ar.Ab c4),_,_,hf.sub (kp [9,8,0,10] O),hw,cd,ce,E⟩
   refine AU ?_;refine WF.nil (λaa ww hf hw=>?_);have cf:=c.sel [1,1,1,1,1,1,1,1,1] 1 O;exact⟨l7,_,_,hf.sub (kp [9,8,0,10] O),hw,cf,EX,E⟩
  rintro aa ww ⟨bl,fp,fq,hf,hw,cg,fr,E⟩;refine AI ?_ hf hw;clear hf hw ww aa;rw[Gn] at E;refine AU ?_;refine WF.nil (λaa ww hf hw=>?_);exact⟨(BG (i5+1)),bl,_,_,hf.sub (kp [9,8,0,10] O),hw,cg,EX,(BF _),E⟩
 refine JI O (WF.nil (λaa ww hf hw=>?_));cases E;exact Hk hf O hw Hj O cp ⟨_,O,bm⟩
def Ci (K:St S L h) {b:Value}{c:(List Int)}(k:Sl S h AB b c) {r:Int}(E:Cc N c=some r):
 B0 prog 18 #[b] S h (λv S' h'=>v=vI r∧AA r∧St S' (L) h'):=by
 refine BA 17 func18 O ntmps18 O λB=>?_;rw[Cc] at E;refine AU ?_;refine AK (λa w=>∃(y:Int),IV B S h (17,[]) a w [(3,vI y)] (L) λ_ _=>AA y∧Ei N y=some r) ?_ ?_
 ·refine AY (λH=>λa w=>∃(q:Int) (d:Int),IV B S h (17,[]) a w [(7,vI (↑c.length:Int)),(6,b),(3,vI q),(8,vI d)] (L) λ_ _=>AA q∧AA d∧Dz N c (Ei N) H q d=some r) N ?_ ?_ ?_
  ·intro m p g j;exact⟨0,0,_,_,g.sub (kp [7,6,3,8] O),j,K,(B6.refl S h),(iq (n:=0) O),(iq (n:=0) O),E⟩
  ·rintro m p ⟨_,_,_,_,_,_,_,_,_,_,E⟩;rw[Dz] at E;cases E
  rintro H m p ⟨q,d,M,Q,g,j,l,s,I,U,E⟩;refine AI ?_ g j;clear g j p m;rw[Dz] at E;refine AU ?_;refine AF O E (λz E=>?_) (λz E=>?_)
  ·refine AU ?_;refine AZ (AU ?_);have A:=k.mono' s;refine A9 E O O A sl_29.1 O λV E W C=>?_;have D:=C.i;refine AU ?_;refine BZ (.inl O) l (AU ?_);refine CC E O O O Pm O (λt u h' o=>GB (St.all h') I D u) λt E F=>?_;have G:=F;refine AU ?_;refine BL (kp [3,7,6,8] O) λX x Y=>BD (AU ?_);refine WF.nil (λm p g j=>?_);exact⟨t,(BG (d+1)),_,_,g.sub (kp [7,6,3,8] O),j,x,EX,G,(BF _),E⟩
  refine A8 O (λm p g j=>?_);exact⟨q,_,_,g.sub (kp [3] O),j,l,s,I,E⟩
 rintro m p ⟨y,Z,ab,g,j,J,ac,r3,E⟩;refine AI ?_ g j;clear g j p m;rw[Ei] at E;exact RT
def OQ {u:Nat}{p0_w:A5}{aj:Value}{ak:Value}{am:Value}{an:Value}{ao:Value}{ap:Value}{aq:Value}{ar:Value}{V:Value}{ab:Value}{ac:Value}{af:Value}{ag:Value}{q:Value}{c:Value}{z:Value}{d:Value}{t:Value}{g:Value}{ah:Value}{k:Value}{p:Value}(hs:St S (Bx u 160 [.string p0_w.b.C,aj,vI p0_w.b.H,ak,am,an,ao,ap,aq,ar,vI p0_w.b.G,V,ab,ac,af,ag,vI p0_w.s.A,q,c,z,d,t,g,ah,k,p]::OO AB 3 29 q p0_w.s.F::OS AB 3 c p0_w.s.K::OS BK 106 d p0_w.s.Q::OS AB 3 t p0_w.s.O::OS AB 3 g p0_w.s.N::OS BJ 74 ah p0_w.moves::OS AB 3 k p0_w.peaks::OS A3 121 p p0_w.sent::L) h) (dg:p0_w.b.C.size≤maxLen) (bm:Sl S h BB.str aj p0_w.b.I) (dh:AA p0_w.b.H) (bn:Sl S h BX ak p0_w.b.E) (di:Sl S h Bu am p0_w.b.J) (dj:Sl S h DL an p0_w.b.U) (dk:Sl S h Cw ao p0_w.b.W) (dl:Sl S h DM ap p0_w.b.Y) (dm:Sl S h Cd aq p0_w.b.Z) (dn:Sl S h AB ar p0_w.b.X) (ce:AA p0_w.b.G) (ay:Sl S h AB V p0_w.in_.Aa) (cf:Sl S h D0 ab p0_w.in_.Ai) (cg:Sl S h H2 ac p0_w.in_.Aj) (ch:Sl S h D3 af p0_w.in_.Ak) (ci:Sl S h Ea ag p0_w.in_.Ag) (cj:AA p0_w.s.A) (a7:Sl S h A3 z p0_w.s.P) {r:(List (List Int))×(List Int)×(List AX)}(E:KU N p0_w=some r):
 B0 prog 81 #[vP u 0] S h (λv S' h'=>∃a9 ba bb:Value,v= .tuple #[]∧St S' (Bx u 160 [.string p0_w.b.C,aj,vI p0_w.b.H,ak,am,an,ao,ap,aq,ar,vI p0_w.b.G,V,ab,ac,af,ag,vI p0_w.s.A,a9,c,z,d,ba,g,bb,k,p]::OO AB 3 29 a9 r.1::OS AB 3 c p0_w.s.K::OS BK 106 d p0_w.s.Q::OS AB 3 ba r.2.1::OS AB 3 g p0_w.s.N::OS BJ 74 bb r.2.2::OS AB 3 k p0_w.peaks::OS A3 121 p p0_w.sent::L) h'):=by
 refine BA 137 func81 O ntmps81 O λB=>?_;rw[KU] at E;refine AU ?_;refine WT hs (mt mh) O sl_32.1 O λb1=>AU ?_;refine AK (λa w=>∃(i2:Int),IV B S h (137,[]) a w [(0,vP u 0),(2,vI i2)] (Bx u 160 [.string p0_w.b.C,aj,vI p0_w.b.H,ak,am,an,ao,ap,aq,ar,vI p0_w.b.G,V,ab,ac,af,ag,vI p0_w.s.A,q,c,z,d,t,g,ah,k,p]::OO AB 3 29 q p0_w.s.F::OS AB 3 c p0_w.s.K::OS BK 106 d p0_w.s.Q::OS AB 3 t p0_w.s.O::OS AB 3 g p0_w.s.N::OS BJ 74 ah p0_w.moves::OS AB 3 k p0_w.peaks::OS A3 121 p p0_w.sent::L) λ_ _=>AA i2∧HE N p0_w i2=some r) ?_ ?_
 ·refine AY (λn1=>λa w=>∃(i8:Int) (bp:Int),IV B S h (137,[]) a w [(16,vI (↑p0_w.s.F.length:Int)),(15,q),(0,vP u 0),(2,vI i8),(17,vI bp)] (Bx u 160 [.string p0_w.b.C,aj,vI p0_w.b.H,ak,am,an,ao,ap,aq,ar,vI p0_w.b.G,V,ab,ac,af,ag,vI p0_w.s.A,q,c,z,d,t,g,ah,k,p]::OO AB 3 29 q p0_w.s.F::OS AB 3 c p0_w.s.K::OS BK 106 d p0_w.s.Q::OS AB 3 t p0_w.s.O::OS AB 3 g p0_w.s.N::OS BJ 74 ah p0_w.moves::OS AB 3 k p0_w.peaks::OS A3 121 p p0_w.sent::L) λ_ _=>AA i8∧AA bp∧Fs N p0_w (HE N p0_w) n1 i8 bp=some r) N ?_ ?_ ?_
  ·intro aa ww hf hw;exact⟨0,0,_,_,hf.sub (kp [16,15,0,2,17] O),hw,hs,(B6.refl S h),(iq (n:=0) O),(iq (n:=0) O),E⟩
  ·rintro aa ww ⟨_,_,_,_,_,_,_,_,_,_,E⟩;rw[Fs] at E;cases E
  rintro n1 aa ww ⟨i8,bp,hk,hl,hf,hw,bc,fb,r9,hm,E⟩;refine AI ?_ hf hw;clear hf hw ww aa;rw[Fs] at E;refine AU ?_;refine AF O E (λfc E=>?_) (λfc E=>?_)
  ·refine AU ?_;refine AZ (AU ?_);obtain⟨hn,dp,E⟩:=bd E;refine O7 (r:=AB) bc (mt mh) O O sl_32.1 dp O λho dq=>?_;obtain⟨hp,dr,E⟩:=bd E;refine SG (r:=AB) FC bc (mt mh) O dr dq ty_29.1 O λhq fy fd=>AU ?_;refine BZ (.inl O) bc (AU ?_);refine CC E O O O Ls O (λds dt h' o=>Ci (St.all h') (fd.mono (λb hb=>gJ hb o.siz) (λb hb=>o.same b hb)) dt) λds E fe=>?_;have hr:=fe;refine AU ?_;refine BL (kp [2,16,15,0,17] O) λht du hu=>BD (AU ?_);refine WF.nil (λaa ww hf hw=>?_);exact⟨(BG (i8+ds)),(BG (bp+1)),_,_,hf.sub (kp [16,15,0,2,17] O),hw,du,EX,(BF _),(BF _),E⟩
  refine A8 O (λaa ww hf hw=>?_);exact⟨i8,_,_,hf.sub (kp [0,2] O),hw,bc,fb,r9,E⟩
 rintro aa ww ⟨i2,ck,cl,hf,hw,dv,ff,r3,E⟩;refine AI ?_ hf hw;clear hf hw ww aa;rw[HE] at E;have fg:=a7.mono' ff;refine AU ?_;refine AK (λa w=>∃(bq:Int),IV B ck cl (137,[]) a w [(0,vP u 0),(2,vI bq)] (Bx u 160 [.string p0_w.b.C,aj,vI p0_w.b.H,ak,am,an,ao,ap,aq,ar,vI p0_w.b.G,V,ab,ac,af,ag,vI p0_w.s.A,q,c,z,d,t,g,ah,k,p]::OO AB 3 29 q p0_w.s.F::OS AB 3 c p0_w.s.K::OS BK 106 d p0_w.s.Q::OS AB 3 t p0_w.s.O::OS AB 3 g p0_w.s.N::OS BJ 74 ah p0_w.moves::OS AB 3 k p0_w.peaks::OS A3 121 p p0_w.sent::L) λ_ _=>AA bq∧HD N p0_w bq=some r) ?_ ?_
 ·refine AY (λn3=>λa w=>∃(bo:Int) (br:Int),IV B ck cl (137,[]) a w [(31,vI (↑p0_w.s.P.length:Int)),(30,z),(0,vP u 0),(2,vI bo),(32,vI br)] (Bx u 160 [.string p0_w.b.C,aj,vI p0_w.b.H,ak,am,an,ao,ap,aq,ar,vI p0_w.b.G,V,ab,ac,af,ag,vI p0_w.s.A,q,c,z,d,t,g,ah,k,p]::OO AB 3 29 q p0_w.s.F::OS AB 3 c p0_w.s.K::OS BK 106 d p0_w.s.Q::OS AB 3 t p0_w.s.O::OS AB 3 g p0_w.s.N::OS BJ 74 ah p0_w.moves::OS AB 3 k p0_w.peaks::OS A3 121 p p0_w.sent::L) λ_ _=>AA bo∧AA br∧Fq N p0_w (HD N p0_w) n3 bo br=some r) N ?_ ?_ ?_
  ·intro aa ww hf hw;exact⟨i2,0,_,_,hf.sub (kp [31,30,0,2,32] O),hw,dv,(B6.refl ck cl),r3,(iq (n:=0) O),E⟩
  ·rintro aa ww ⟨_,_,_,_,_,_,_,_,_,_,E⟩;rw[Fq] at E;cases E
  rintro n3 aa ww ⟨bo,br,hv,hx,hf,hw,b7,dw,fh,hy,E⟩;refine AI ?_ hf hw;clear hf hw ww aa;rw[Fq] at E;refine AU ?_;refine AF O E (λfi E=>?_) (λfi E=>?_)
  ·refine AU ?_;refine AZ (AU ?_);have fj:=fg.mono' dw;refine A9 E O O fj sl_33.1 O λhz E h0 fk=>?_;obtain⟨h1,_,fm⟩:=fk.lv;refine AU ?_;refine CG NB O b7 λh2 h3 dx fn=>?_;have fo:=fm.mono fn;obtain⟨h4,rfl,h5,h6,fp⟩:=A3.ex fo;refine Dj O O O ON ty_121.1 O dx .head O λh7 b8 fq=>AU ?_;refine BZ (.inl O) b8 (AU ?_);have fr:=fp.mono' fq;refine CC E O O O Ls O (λdy dz h' o=>Ci (St.all h') (fr.mono' (o.all b8.1)) dz) λdy E fs=>?_;have h8:=fs;refine AU ?_;refine BL (kp [2,31,30,0,32] O) λh9 d0 ia=>BD (AU ?_);refine WF.nil (λaa ww hf hw=>?_);have d1:=d0.sel [1,1,1,1,1,1,1,1,1] 1 O;exact⟨(BG (bo+dy)),(BG (br+1)),_,_,hf.sub (kp [31,30,0,2,32] O),hw,d1,EX,(BF _),(BF _),E⟩
  refine A8 O (λaa ww hf hw=>?_);exact⟨bo,_,_,hf.sub (kp [0,2] O),hw,b7,dw,fh,E⟩
 rintro aa ww ⟨bq,d2,ib,hf,hw,b9,ic,ft,E⟩;refine AI ?_ hf hw;clear hf hw ww aa;rw[HD] at E;refine AU ?_;refine BZ (.inl O) b9 (AU ?_);refine CC E O O O Ls O (λd3 d4 h' o=>Ci (St.all h') ((b9.oslAll (mt (mt (mt (mt mh))))).mono (λb hb=>gJ hb o.siz) (λb hb=>o.same b hb)) d4) λd3 E fu=>?_;have fv:=fu;refine AU ?_;refine BL (kp [7,0,2] O) λd5 d6 ie=>?_;have ig:=bn.nw;refine AU ?_;refine AZ (AY (λn4=>λa w=>∃(au:Int) (av:Int) (M:Int) (az:Value) (aw:List AX) (a0:List (List Int)) (ax:List Int),IV B d2 d5 (137,[]) a w [(53,vI (↑p0_w.b.E.length:Int)),(0,vP u 0),(2,vI au),(7,vI av),(54,vI M)] (OS BJ 74 az aw::Bx u 160 [.string p0_w.b.C,aj,vI p0_w.b.H,ak,am,an,ao,ap,aq,ar,vI p0_w.b.G,V,ab,ac,af,ag,vI p0_w.s.A,q,c,z,d,t,g,az,k,p]::OO AB 3 29 q a0::OS AB 3 c p0_w.s.K::OS BK 106 d p0_w.s.Q::OS AB 3 t ax::OS AB 3 g p0_w.s.N::OS AB 3 k p0_w.peaks::OS A3 121 p p0_w.sent::L) λ_ _=>AA au∧AA av∧AA M∧DF N p0_w n4 au av M aw a0 ax=some r) N ?_ ?_ ?_)
 ·intro aa ww hf hw;have cm:=d6.sel [6,0,0,0,0,0,0,0,0] 0 O;exact⟨bq,d3,0,ah,p0_w.moves,p0_w.s.F,p0_w.s.O,_,_,hf.sub (kp [53,0,2,7,54] O),hw,cm,(B6.refl d2 d5),ft,fv,(iq (n:=0) O),E⟩
 ·rintro aa ww ⟨_,_,_,_,_,_,_,_,_,_,_,_,_,_,_,_,E⟩;rw[DF] at E;cases E
 rintro n4 aa ww ⟨au,av,M,az,aw,a0,ax,be,bf,hf,hw,a8,f0,d7,d8,f1,E⟩;refine AI ?_ hf hw;clear hf hw ww aa;rw[DF] at E;refine AU ?_;refine AF O E (λd9 E=>?_) (λd9 E=>?_)
 ·refine AU ?_;refine AK (λa w=>∃(a4:Int) (a5:Int) (bg:Value) (bh:List AX) (bi:List (List Int)) (bj:List Int),IV B be bf (137,[]) a w [(53,vI (↑p0_w.b.E.length:Int)),(0,vP u 0),(54,vI M),(2,vI a4),(7,vI a5)] (OS BJ 74 bg bh::Bx u 160 [.string p0_w.b.C,aj,vI p0_w.b.H,ak,am,an,ao,ap,aq,ar,vI p0_w.b.G,V,ab,ac,af,ag,vI p0_w.s.A,q,c,z,d,t,g,bg,k,p]::OO AB 3 29 q bi::OS AB 3 c p0_w.s.K::OS BK 106 d p0_w.s.Q::OS AB 3 t bj::OS AB 3 g p0_w.s.N::OS AB 3 k p0_w.peaks::OS A3 121 p p0_w.sent::L) λ_ _=>AA a4∧AA a5∧Ft N M (DF N p0_w n4) a4 a5 bh bi bj=some r) ?_ ?_
  ·have f2:=ay.nw;refine AU ?_;refine EZ (λa w=>∃(ai:Int),IV B be bf (137,[]) a w [(8,vI M),(53,vI (↑p0_w.b.E.length:Int)),(0,vP u 0),(2,vI au),(7,vI av),(54,vI M),(9,vI ai)] (OS BJ 74 az aw::Bx u 160 [.string p0_w.b.C,aj,vI p0_w.b.H,ak,am,an,ao,ap,aq,ar,vI p0_w.b.G,V,ab,ac,af,ag,vI p0_w.s.A,q,c,z,d,t,g,az,k,p]::OO AB 3 29 q a0::OS AB 3 c p0_w.s.K::OS BK 106 d p0_w.s.Q::OS AB 3 t ax::OS AB 3 g p0_w.s.N::OS AB 3 k p0_w.peaks::OS A3 121 p p0_w.sent::L) λ_ _=>AA ai∧HC N p0_w au av M aw a0 ax (Ft N M (DF N p0_w n4)) ai=some r) ?_ ?_
   ·refine AF O E (λea E=>?_) (λea E=>?_)
    ·refine AU ?_;have eb:=ay.nw;refine A9 E O O eb sl_29.1 O λec E f3 ed=>?_;have ee:=ed.i;refine AU ?_;refine XT O O O O (AU ?_);refine WF.nil (λaa ww hf hw=>?_);exact⟨(min (min ec (BG (1125899906842624-au))) (BG (1152921504606846976-av))),_,_,hf.sub (kp [8,53,0,2,7,54,9] O),hw,a8,(B6.refl be bf),(MM (MM ee (BF _)) (BF _)),E⟩
    refine AU ?_;refine WF.nil (λaa ww hf hw=>?_);exact⟨0,_,_,hf.sub (kp [8,53,0,2,7,54,9] O),hw,a8,(B6.refl be bf),(iq (n:=0) O),E⟩
   rintro aa ww ⟨ai,f4,f5,hf,hw,a2,ef,eg,E⟩;refine AI ?_ hf hw;clear hf hw ww aa;rw[HC] at E;refine AU ?_;refine AF O E (λeh E=>?_) (λeh E=>?_)
   ·refine A8 O (λaa ww hf hw=>?_);exact⟨au,av,az,aw,a0,ax,_,_,hf.sub (kp [53,0,54,2,7] O),hw,a2,ef,d7,d8,E⟩
   refine AU ?_;obtain⟨f6,cn,E⟩:=bd E;refine O7 (r:=AB) a2 (mt (mt mh)) O O sl_32.1 cn O λf7 bs=>?_;obtain⟨ei,bt,E⟩:=bd E;refine SG (r:=AB) FC a2 (mt (mt mh)) O bt bs ty_29.1 O λf8 co ca=>?_;obtain⟨bu,cp,E⟩:=bd E;refine UY O O ca sl_29.1 cp O λf9 ej fa=>C8 FC (λ_ x=>x) O ej ty_3.1 O λga=>AU ?_;obtain⟨gb,bv,E⟩:=bd E;refine UY O O ca sl_29.1 bv O λgc gd b4=>AU ?_;have cq:=a2.pick (.tail (.tail .head));refine Xh (r:=AB) (i:=M) (j:=0) (y:=(BG (bu+ai))) O O (⟨_,O,O,(BF _)⟩:Rd _ _ AB _ (BG (bu+ai))) bs co b4 bt bv ty_3.1 (λ_=>rfl) cq λge a3 gf=>AU ?_;obtain⟨gg,cr,E⟩:=bd E;refine BT a3 (mt (mt (mt (mt (mt mh))))) O O sl_29.1 cr O λgh ct=>?_;obtain⟨cb,cu,E⟩:=bd E;have ek:=a3.epAt (mt (mt (mt (mt (mt mh))))) cu Co.id ct;refine C8 FC (λ_ x=>x) O ek ty_3.1 O λgi=>AU ?_;obtain⟨gj,cv,E⟩:=bd E;refine BT a3 (mt (mt (mt (mt (mt mh))))) O O sl_29.1 cv O λgk cw=>AU ?_;obtain⟨el,cx,E⟩:=bd E;refine De (r:=AB) (l:=ax) (i:=0) (x:=el) O O (⟨_,O,O,(BF _)⟩:Rd _ _ AB _ (BG (cb+ai))) cw cx MT.id ty_3.1 (λ_=>rfl) a3 (.tail (.tail (.tail (.tail (.tail .head))))) λgl cy gm=>?_;have gn:=bm.nw;refine AU ?_;obtain⟨cz,E⟩:=LA E;refine I7 (r:=AB) (zx:=0) GC O ⟨O,by unfold AA;omega⟩ O O cz O O cy λem gp bw gq=>AU ?_;obtain⟨gr,c0,E⟩:=bd E;refine BT bw mh O O sl_29.1 c0 O λgs c1=>AU ?_;obtain⟨en,c2,E⟩:=bd E;refine De (r:=AB) (l:=(List.replicate ((↑p0_w.b.I.length:Int):Int).toNat (0:Int))) (i:=0) (x:=en) O O (⟨_,O,O,eg⟩:Rd _ _ AB _ ai) c1 c2 MT.id ty_3.1 (λ_=>rfl) bw .head λcc c3 gt=>AU ?_;obtain⟨bx,a1,gu,eo⟩:=c3.pubs .head;refine R8 (m:=[(10,em),(7,vI (BG (av+ai))),(2,vI (BG (au+ai))),(8,vI M),(53,vI (↑p0_w.b.E.length:Int)),(0,vP u 0),(54,vI M)]) 14 [0] (λi v hh=>match i with|0=>v=vP u 0|1=>v=vP u 0|2=>v=vP u 0|3=>v=vP u 23|4=>v=az|5=>v=vP u 0|6=>v=vP u 0|7=>v=vP u 16|8=>v=vP u 16|9=>v=vI p0_w.s.A∧AA p0_w.s.A|10=>v=vI M∧AA M|11=>Sl bx hh AB v (upd (List.replicate ((↑p0_w.b.I.length:Int):Int).toNat (0:Int)) 0 ai)|12=>Rd bx hh BJ v (⟨p0_w.s.A,(-1),M,(-4),(upd (List.replicate ((↑p0_w.b.I.length:Int):Int).toNat (0:Int)) 0 ai)⟩:AX)|13=>Sl (SN bx cc hh) hh BJ v ([(⟨p0_w.s.A,(-1),M,(-4),(upd (List.replicate ((↑p0_w.b.I.length:Int):Int).toNat (0:Int)) 0 ai)⟩:AX)]:List AX)∧∃ad,v= .slice (some ad) 1 1|_=>False) [[],[],[(1,120)],[(2,121)],[(3,122)],[],[(5,124)],[(6,125)],[(7,126)],[(8,127)],[],[],[(9,128),(10,129),(11,130)],[(12,131)]] [(0,119),(4,123),(13,132)] mo (by kernel_rfl) [10,7,2,8,53,0,54] O (by kernel_rfl) (by kernel_rfl) (by kernel_rfl) (kp [10,7,2,8,53,0,54] O) MO ?_ ?_ ?_
   ·refine Pd.cons [] (by kernel_rfl) O O (by kernel_rfl) ?_ ?_
    ·intro mq hh o;intro a hf;exact⟨vP u 0,ME hf O,O⟩
    exact trivial
   ·refine AW.cons O Fg (AW.cons O Fg (AW.cons O Fg (AW.cons O Fg (AW.cons O Fg (AW.cons O Fg (AW.cons O Fg (AW.cons O Fg (AW.cons O Fg (AW.cons O Fg (AW.cons O Fg (AW.cons O ?_ ?_)))))))))))
    ·intro mq hh o;have c4:=o.st a1;refine AU ?_;have ep:=eo.mono' (o.ext a1.1);exact CR ep
    refine AW.cons O ?_ ?_
    ·intro mq hh o;intro gv eq gw er es bk;have c4:=o.st a1;obtain⟨rfl,eu⟩:=eq;obtain⟨rfl,ev⟩:=er;have bk:Sl _ _ AB es (upd (List.replicate ((↑p0_w.b.I.length:Int):Int).toNat (0:Int)) 0 ai):=bk;refine AU ?_;obtain⟨c5,b5,rfl,gx⟩:=(bk).len;refine Dd (cs:=[vI p0_w.s.A,vI (-1),vI M,vI (-4),(.slice c5 (upd (List.replicate ((↑p0_w.b.I.length:Int):Int).toNat (0:Int)) 0 ai).length b5)]) RQ O O O (AU ?_);exact CR (BJ.mk (x:=(⟨p0_w.s.A,(-1),M,(-4),(upd (List.replicate ((↑p0_w.b.I.length:Int):Int).toNat (0:Int)) 0 ai)⟩:AX)) eu (iq (n:=(-1)) O) ev (iq (n:=(-4)) O) bk)
    refine AW.cons O ?_ ?_
    ·intro mq hh o;intro ew a6;have c4:=SN.st a1 o;have a6:=Rd.sn cc a6;have a6:Rd _ _ BJ ew (⟨p0_w.s.A,(-1),M,(-4),(upd (List.replicate ((↑p0_w.b.I.length:Int):Int).toNat (0:Int)) 0 ai)⟩:AX):=a6;have fw:=c4.fz;obtain⟨gy,rfl,ey,ez,e0,e1,cd⟩:=BJ.ex a6;obtain⟨c6,b6,rfl,gz⟩:=(cd).len;refine Df (cs:=[vI ((⟨p0_w.s.A,(-1),M,(-4),(upd (List.replicate ((↑p0_w.b.I.length:Int):Int).toNat (0:Int)) 0 ai)⟩:AX).A),vI ((⟨p0_w.s.A,(-1),M,(-4),(upd (List.replicate ((↑p0_w.b.I.length:Int):Int).toNat (0:Int)) 0 ai)⟩:AX).D),vI ((⟨p0_w.s.A,(-1),M,(-4),(upd (List.replicate ((↑p0_w.b.I.length:Int):Int).toNat (0:Int)) 0 ai)⟩:AX).B),vI ((⟨p0_w.s.A,(-1),M,(-4),(upd (List.replicate ((↑p0_w.b.I.length:Int):Int).toNat (0:Int)) 0 ai)⟩:AX).Aw),(.slice c6 ((⟨p0_w.s.A,(-1),M,(-4),(upd (List.replicate ((↑p0_w.b.I.length:Int):Int).toNat (0:Int)) 0 ai)⟩:AX).R).length b6)]) Rb O O O O O O O fw λg0 g1 c7 e2=>?_;have e3:=cd.mono' e2;have c8:=c7.bxos (r:=BJ) (l:=([(⟨p0_w.s.A,(-1),M,(-4),(upd (List.replicate ((↑p0_w.b.I.length:Int):Int).toNat (0:Int)) 0 ai)⟩:AX)]:List AX)) .head ⟨_,_,O,⟨_,O,ey,ez,e0,e1,e3⟩,O⟩ (by simp [maxLen]);obtain⟨g2,c9,g3,e4⟩:=c8.pubs .head;have bz:=Fz.done o EX c9;exact AL bz.1 ⟨Sl.mono' e4 bz.2,_,O⟩
    exact trivial
   intro g4 e5 g5 e6 g6 e7 g7 b0;have da:=SN.st a1 e5;cases e6;cases e7;obtain⟨b0,fx,rfl⟩:=b0;obtain⟨db,E⟩:=LA E;refine IJ (r:=BJ) (l:=aw) (xs:=([(⟨p0_w.s.A,(-1),M,(-4),(upd (List.replicate ((↑p0_w.b.I.length:Int):Int).toNat (0:Int)) 0 ai)⟩:AX)]:List AX)) O O Rb O (Sl.src b0) O db O da (λ_=>(.tail .head)) λg8 g9 b2 ha=>AU ?_;obtain⟨b3,bl,rfl,hc⟩:=b2.oslen (mt mh);refine DY (cs':=[.string p0_w.b.C,aj,vI p0_w.b.H,ak,am,an,ao,ap,aq,ar,vI p0_w.b.G,V,ab,ac,af,ag,vI p0_w.s.A,q,c,z,d,t,g,(.slice b3 (aw++([(⟨p0_w.s.A,(-1),M,(-4),(upd (List.replicate ((↑p0_w.b.I.length:Int):Int).toNat (0:Int)) 0 ai)⟩:AX)]:List AX)).length bl),k,p]) O O O O ty_70.1 O b2 (.tail (.tail .head)) O O λhd dc he=>AU ?_;refine WF.nil (λaa ww hf hw=>?_);have dd:=dc.sel [1,1,0,0,0,0,0,0,0] 0 O;exact⟨(BG (au+ai)),(BG (av+ai)),(.slice b3 (aw++([(⟨p0_w.s.A,(-1),M,(-4),(upd (List.replicate ((↑p0_w.b.I.length:Int):Int).toNat (0:Int)) 0 ai)⟩:AX)]:List AX)).length bl),(aw++([(⟨p0_w.s.A,(-1),M,(-4),(upd (List.replicate ((↑p0_w.b.I.length:Int):Int).toNat (0:Int)) 0 ai)⟩:AX)]:List AX)),(upd a0 M (upd ei 0 (BG (bu+ai)))),(upd ax 0 (BG (cb+ai))),_,_,hf.sub (kp [53,0,54,2,7] O),hw,dd,EX,(BF _),(BF _),E⟩
  rintro aa ww ⟨a4,a5,bg,bh,bi,bj,hg,hi,hf,hw,de,hj,e8,e9,E⟩;refine AI ?_ hf hw;clear hf hw ww aa;rw[Ft] at E;refine AU ?_;refine WF.nil (λaa ww hf hw=>?_);exact⟨a4,a5,(BG (M+1)),bg,bh,bi,bj,_,_,hf.sub (kp [53,0,2,7,54] O),hw,de,EX,e8,e9,(BF _),E⟩
 refine JI O (WF.nil (λaa ww hf hw=>?_));have df:=a8.sel [1,1,1,1,1,1,0,0,0] 0 O;cases E;exact Hk hf O hw Hj O EX ⟨_,_,_,O,df⟩
end Go.Proofs.YtedgiljmffngoaaGreat
