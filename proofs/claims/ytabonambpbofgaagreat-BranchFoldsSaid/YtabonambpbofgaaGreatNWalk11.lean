import Derived.Test.YtabonambpbofgaaGreatNInst
import Derived.Test.YtabonambpbofgaaGreatNForms
import Derived.Test.YtabonambpbofgaaGreatNSort5
import Derived.Test.YtabonambpbofgaaGreatNSortD
import Derived.Test.YtabonambpbofgaaGreatNWalk1
import Derived.Test.YtabonambpbofgaaGreatNWalk6
import Derived.Test.YtabonambpbofgaaGreatNWalk9
namespace Go.Proofs.YtabonambpbofgaaGreat
set_option linter.all false
open Go.RowKit
open Go.Proofs.Tryz
set_option maxRecDepth 10000
set_option maxHeartbeats 20000000
variable {N:Nat}{S:Nat→Prop}{L:List HP}{h:AS}
def OG (hs:St S L h) {j:Value}{b:(List Int)}(s:Sl S h AB j b) {d:Value}{c:(List Int)}(t:Sl S h AB d c) {r:(List Int)}(E:Hr N b c=some r):
 CL prog 119 #[j,d] S h (λv S' h'=>St S' (OS AB 3 v r::L) h'):=by
 refine CL.go 35 func119 O ntmps119 O λB=>?_;rw[Hr] at E;refine AU ?_;refine Rw O O O (AU ?_);obtain⟨X,E⟩:=Lt E;refine Lf (r:=AB) (zx:=0) JU O ⟨O,by unfold AA;omega⟩ O O X O O hs λW h5 Y e7=>AU ?_;have k8:=s.mono' e7;refine Vi (r:=AB) (l:=(List.replicate ((max (↑b.length:Int) (↑c.length:Int)):Int).toNat (0:Int))) (xs:=b) O O Ck.1 (Sl.src k8) O Y .head λZ D al=>?_;have ab:=t.nw;refine AU ?_;refine AV (λa w=>∃(y:List Int),IV B S Z (35,[]) a w [(5,W)] (OS AB 3 W y::L) λ_ _=>IZ N y=some r) ?_ ?_
 ·refine A9 (λn1=>λa w=>∃(g:Int) (m:List Int),IV B S Z (35,[]) a w [(18,vI (↑c.length:Int)),(17,d),(5,W),(19,vI g)] (OS AB 3 W m::L) λ_ _=>AA g∧Gs N c (IZ N) n1 g m=some r) N ?_ ?_ ?_
  ·intro z A o q;exact⟨0,(Pr (List.replicate ((max (↑b.length:Int) (↑c.length:Int)):Int).toNat (0:Int)) b),_,_,o.sub (kp [18,17,5,19] O),q,D,(CJ.refl S Z),(iq (n:=0) O),E⟩
  ·rintro z A ⟨_,_,_,_,_,_,_,_,_,E⟩;rw[Gs] at E;cases E
  rintro n1 z A ⟨g,m,am,an,o,q,k,F,ao,E⟩;refine AK ?_ o q;clear o q A z;rw[Gs] at E;refine AU ?_;refine AH O E (λac E=>?_) (λac E=>?_)
  ·refine AU ?_;refine A6 (AU ?_);have ad:=ab.mono' F;refine BK E O O ad Ck.1 O λap E aq ae=>?_;have af:=ae.i;refine AU ?_;refine DQ (AU ?_);obtain⟨ar,G,E⟩:=bd E;refine BY k mh O O Ck.1 G O λau H=>?_;obtain⟨av,I,E⟩:=bd E;have ag:=k.epAt mh I FZ.id H;refine Fs Hc (λ_ x=>x) O ag Fa.1 O λah=>AU ?_;refine DX E O O O Wq O k (λC J=>Ks (St.all _) ah af J) λC E aw ax ay u az a0 p=>?_;obtain⟨rfl,ai,ak⟩:=p;refine AU ?_;obtain⟨a1,K,E⟩:=bd E;refine BY u mh O O Ck.1 K O λa2 M=>AU ?_;obtain⟨aj,Q,E⟩:=bd E;refine Ed (r:=AB) (l:=m) (i:=g) (x:=aj) O O (⟨_,O,O,ai⟩:Rd _ _ AB _ C) M Q Mh.id Fa.1 (λ_=>rfl) u .head λa3 U a4=>AU ?_;refine BP (AU ?_);refine WF.nil (λz A o q=>?_);exact⟨(BT (g+1)),(upd m g C),_,_,o.sub (kp [18,17,5,19] O),q,U,EX,(BV _),E⟩
  refine BM O (λz A o q=>?_);exact⟨m,_,_,o.sub (kp [5] O),q,k,F,E⟩
 rintro z A ⟨y,a5,a6,o,q,V,a7,E⟩;refine AK ?_ o q;clear o q A z;rw[IZ] at E;refine AU ?_;cases E;exact GE V O O EX
def Tx (hs:St S L h) {d:Value}{u:(List AT)}(ag:Sl S h AY d u) {b:Int}(a7:AA b) {z:Int}(I:AA z) {A:Int}(J:AA A) {r:(List (List Int))×(List AT)}(E:MU N u b z A=some r):
 CL prog 118 #[d,vI b,vI z,vI A] S h (λv S' h'=>∃b7 b8:Value,v= .tuple #[b7,b8]∧St S' (OS (A5.sl AB) 29 b7 r.1::OS AY 103 b8 r.2::L) h'):=by
 refine CL.go 79 func118 O ntmps118 O λB=>?_;rw[MU] at E;refine AU ?_;refine CX (.inl O) hs (AU ?_);refine DM E O O O Yr O (λy1 dq h' o=>Kz (St.all h') I (iq (n:=0) O) (iq (n:=64) O) dq) λy1 E r2=>?_;have r3:=r2;refine AU ?_;refine By (kp [2,0,1,3] O) λh4 dr e6=>AU ?_;refine CX (.inl O) dr (AU ?_);refine DM E O O O Yr O (λy7 ds h' o=>Kz (St.all h') J (iq (n:=0) O) (iq (n:=16) O) ds) λy7 E r8=>?_;have r9:=r8;refine AU ?_;refine By (kp [3,2,0,1] O) λfr b9 fs=>AU ?_;obtain⟨ca,E⟩:=Lt E;refine Lf (r:=(A5.sl AB)) (zx:=[]) Wk O ⟨_,O,.inl ⟨O,O⟩⟩ O O ca O O b9 λt a8 cb ft=>AU ?_;refine AV (λa w=>∃(av:List (List Int)),IV B S a8 (79,[]) a w [(8,t),(2,vI y1),(0,d),(1,vI b)] (OS (A5.sl AB) 29 t av::L) λ_ _=>HV N u b y1 av=some r) ?_ ?_
 ·refine A9 (λn1=>λa w=>∃(Z:Int) (ai:List (List Int)),IV B S a8 (79,[]) a w [(20,vI (↑(List.replicate (y1:Int).toNat ([]:(List Int))).length:Int)),(8,t),(3,vI y7),(2,vI y1),(0,d),(1,vI b),(21,vI Z)] (OS (A5.sl AB) 29 t ai::L) λ_ _=>AA Z∧HU N y1 y7 (HV N u b y1) n1 Z ai=some r) N ?_ ?_ ?_
  ·intro G H s y;exact⟨0,(List.replicate (y1:Int).toNat ([]:(List Int))),_,_,s.sub (kp [20,8,3,2,0,1,21] O),y,cb,(CJ.refl S a8),(iq (n:=0) O),E⟩
  ·rintro G H ⟨_,_,_,_,_,_,_,_,_,E⟩;rw[HU] at E;cases E
  rintro n1 G H ⟨Z,ai,fu,fv,s,y,a1,dt,fw,E⟩;refine AK ?_ s y;clear s y H G;rw[HU] at E;refine AU ?_;refine AH O E (λdu E=>?_) (λdu E=>?_)
  ·refine AU ?_;refine A6 (AU ?_);obtain⟨cc,E⟩:=Lt E;refine Lf (r:=AB) (zx:=0) JU O ⟨O,by unfold AA;omega⟩ O O cc O O a1 λfx fy a2 f0=>AU ?_;obtain⟨f1,cd,E⟩:=bd E;refine BY a2 (mt mh) O O Jl.1 cd O λf2 ce=>AU ?_;obtain⟨dv,cf,E⟩:=bd E;obtain⟨f3,cg,f4,dw⟩:=a2.pubs .head;refine Ed (r:=(A5.sl AB)) (l:=ai) (i:=Z) (x:=dv) O O (KH dw) ce cf Mh.id GH.1 (λ_=>rfl) cg .head λf5 ch f6=>AU ?_;refine BP (AU ?_);refine WF.nil (λG H s y=>?_);exact⟨(BT (Z+1)),(upd ai Z (List.replicate (y7:Int).toNat (0:Int))),_,_,s.sub (kp [20,8,3,2,0,1,21] O),y,ch,EX,(BV _),E⟩
  refine BM O (λG H s y=>?_);exact⟨ai,_,_,s.sub (kp [8,2,0,1] O),y,a1,dt,E⟩
 rintro G H ⟨av,a9,ba,s,y,ci,f7,E⟩;refine AK ?_ s y;clear s y H G;rw[HV] at E;have dx:=ag.nw;refine AU ?_;refine AJ 1 (lV O O O dx O2.1 O λa3=>AU ?_);have cj:=ci.zs AY 103 a3;have dy:=ag.nw;refine AU ?_;refine AV (λa w=>∃(bb:Value) (bc:List AT) (be:List (List Int)),IV B a9 ba (79,[]) a w [(8,t),(9,bb)] (OS AY 103 bb bc::OS (A5.sl AB) 29 t be::L) λ_ _=>Ip N bc be=some r) ?_ ?_
 ·refine A9 (λn3=>λa w=>∃(M:Value) (ab:List AT) (K:Int) (ac:List (List Int)),IV B a9 ba (79,[]) a w [(33,vI (↑u.length:Int)),(32,d),(8,t),(2,vI y1),(1,vI b),(9,M),(34,vI K)] (OS AY 103 M ab::OS (A5.sl AB) 29 t ac::L) λ_ _=>AA K∧Gr N u b y1 (Ip N) n3 ab K ac=some r) N ?_ ?_ ?_
  ·intro G H s y;exact⟨(.slice a3 0 0),([]:List AT),0,av,_,_,s.sub (kp [33,32,8,2,1,9,34] O),y,cj,(CJ.refl a9 ba),(iq (n:=0) O),E⟩
  ·rintro G H ⟨_,_,_,_,_,_,_,_,_,_,_,E⟩;rw[Gr] at E;cases E
  rintro n3 G H ⟨M,ab,K,ac,Q,dz,s,y,a4,ck,f8,E⟩;refine AK ?_ s y;clear s y H G;rw[Gr] at E;refine AU ?_;refine AH O E (λd0 E=>?_) (λd0 E=>?_)
  ·refine AU ?_;refine AV (λa w=>∃(aw:Value) (ax:List AT) (ay:List (List Int)),IV B Q dz (79,[]) a w [(33,vI (↑u.length:Int)),(32,d),(8,t),(2,vI y1),(1,vI b),(34,vI K),(9,aw)] (OS AY 103 aw ax::OS (A5.sl AB) 29 t ay::L) λ_ _=>KQ N K (Gr N u b y1 (Ip N) n3) ax ay=some r) ?_ ?_
   ·refine AU ?_;have d1:=dy.mono' ck;refine BK E O O d1 O2.1 O λc E f9 d2=>?_;obtain⟨ga,_,d3⟩:=d2.lv;refine AU ?_;refine Dp Sn O a4 λU gb cl d4=>?_;have d5:=d3.mono d4;obtain⟨gc,rfl,ge,gf,cm⟩:=AY.ex d5;refine IH O O O ON Su.1 O cl .head O λaf j gg=>AU ?_;refine AH O E (λcn E=>?_) (λcn E=>?_)
    ·obtain ⟨d9,bf,E⟩:=bd E;obtain⟨a5,bg,E⟩:=bd E;obtain⟨aj,bh,E⟩:=bd E;obtain⟨eb,bi,E⟩:=bd E;refine Nd (m:=[(12,vP U 0),(33,vI (↑u.length:Int)),(32,d),(8,t),(2,vI y1),(1,vI b),(9,M),(34,vI K)]) 12 (λi v F=>match i with|0=>v=t|1=>v=vP U 1|2=>v=vI c.E∧AA c.E|3=>v=t|4=>v=vP U 1|5=>v=vI c.E∧AA c.E|6=>EP t (c.E.toNat*((A5.sl AB)).sz+0) v|7=>Sl Q F AB v a5|8=>v=vP U 2|9=>Sl Q F AB v c.V|10=>Sl (SN Q af F) F AB v aj|11=>EP t (c.E.toNat*((A5.sl AB)).sz+0) v|_=>False) [[],[],[(1,54)],[],[],[(4,57)],[(3,56),(5,58)],[(6,59)],[],[(8,61)],[(7,60),(9,62)],[(0,53),(2,55)]] [(10,63),(11,64)] mo (by kernel_rfl) [12,33,32,8,2,1,9,34] O (by kernel_rfl) (by kernel_rfl) (by kernel_rfl) (kp [12,33,32,8,2,1,9,34] O) MO ?_ ?_
     ·refine A7.cons O Fy (A7.cons O Fy (A7.cons O Fy (A7.cons O Fy (A7.cons O Fy (A7.cons O Fy (A7.cons O ?_ ?_))))))
      ·intro mq F o;intro ec co ed cp;have C:=o.st j;cases co;obtain⟨rfl,ee⟩:=cp;refine AU ?_;refine BY C (mt (mt mh)) O O Jl.1 bf O λef bj=>AU ?_;exact B0 bj
      refine A7.cons O ?_ ?_
      ·intro mq F o;intro eg cq;have C:=o.st j;refine AU ?_;have cr:=C.epAt (mt (mt mh)) bg FZ.id cq;refine G6 Hc (λ_ x=>x) O cr GH.1 O λeh ct=>AU ?_;exact B0 ct
      refine A7.cons O Fy (A7.cons O ?_ ?_)
      ·intro mq F o;intro ei cu;have C:=o.st j;cases cu;refine AU ?_;have cv:=cm.nw;exact B0 cv
      refine A7.cons O ?_ ?_
      ·intro mq F o;intro cw W cx X;have C:=SN.st j o;have W:=Sl.sn af W;have W:Sl _ _ AB cw a5:=W;have X:=Sl.sn af X;have X:Sl _ _ AB cx c.V:=X;have D:=C.fz;refine E9 O O O Xh O D (OG (St.all _) (W.mono D.ea.1 D.ea.2) (X.mono D.ea.1 D.ea.2) bh) λej ek el d6 em cy p=>?_;have bk:=p;have ak:=D.join cy bk ⟨OS.flat (λ{_ _ _ _ _ _} k=>k),trivial⟩;simp only[Acu,Acs] at ak;obtain⟨en,bl,eo,cz⟩:=ak.pubs .head;have am:=Fz.done o EX bl;exact BB am.1 (Sl.mono' cz am.2)
      refine A7.cons O ?_ ?_
      ·intro mq F o;intro ep c0 eq c1;have C:=o.st j;cases c0;obtain⟨rfl,er⟩:=c1;refine AU ?_;refine BY C (mt (mt mh)) O O Jl.1 bi O λes bm=>AU ?_;exact B0 bm
      exact trivial
     intro eu c2 c3 an ev c4;have bn:=SN.st j c2;have an:Sl _ _ AB c3 aj:=an;obtain⟨c5,bo,E⟩:=bd E;refine Ed (r:=(A5.sl AB)) (l:=ac) (i:=c.E) (x:=c5) O O (KH an) c4 bo Mh.id GH.1 (λ_=>rfl) bn (.tail (.tail .head)) λew bp ey=>AU ?_;refine WF.nil (λG H s y=>?_);have bq:=bp.sel [1,1] 1 O;exact⟨M,ab,(upd ac c.E aj),_,_,s.sub (kp [33,32,8,2,1,34,9] O),y,bq,EX,E⟩
    obtain⟨g,br,E⟩:=bd E;refine Nd (m:=[(12,vP U 0),(33,vI (↑u.length:Int)),(32,d),(8,t),(2,vI y1),(1,vI b),(9,M),(34,vI K)]) 10 (λi v F=>match i with|0=>v=M|1=>v=vP U 0|2=>v=vI c.At∧AA c.At|3=>v=vP U 1|4=>v=vI c.E∧AA c.E|5=>v=vP U 2|6=>Sl Q F AB v c.V|7=>Sl (SN Q af F) F AB v g|8=>Rd (SN Q af F) F AY v ({ c with V:=g}:AT)|9=>Sl (SN Q af F) F AY v ([({ c with V:=g}:AT)]:List AT)∧∃ad,v= .slice (some ad) 1 1|_=>False) [[],[],[(1,66)],[],[(3,68)],[],[(5,70)],[(6,71)],[(2,67),(4,69),(7,72)],[(8,73)]] [(0,65),(9,74)] mo (by kernel_rfl) [12,33,32,8,2,1,9,34] O (by kernel_rfl) (by kernel_rfl) (by kernel_rfl) (kp [12,33,32,8,2,1,9,34] O) MO ?_ ?_
    ·refine A7.cons O Fy (A7.cons O Fy (A7.cons O Fy (A7.cons O Fy (A7.cons O Fy (A7.cons O Fy (A7.cons O ?_ ?_))))))
     ·intro mq F o;intro ez c6;have C:=o.st j;cases c6;refine AU ?_;have c7:=cm.nw;exact B0 c7
     refine A7.cons O ?_ ?_
     ·intro mq F o;intro c8 Y;have C:=SN.st j o;have Y:=Sl.sn af Y;have Y:Sl _ _ AB c8 c.V:=Y;have D:=C.fz;refine E9 O O O NN O D (B7 (St.all _) (Y.mono D.ea.1 D.ea.2) br) λe0 e1 e2 d7 e3 c9 p=>?_;have bs:=p;have ao:=D.join c9 bs ⟨OS.flat (λ{_ _ _ _ _ _} k=>k),trivial⟩;simp only[Acu,Acs] at ao;obtain⟨e4,bt,e5,da⟩:=ao.pubs .head;have ap:=Fz.done o EX bt;exact BB ap.1 (Sl.mono' da ap.2)
     refine A7.cons O ?_ ?_
     ·intro mq F o;intro e7 db e8 dc dd ah;have C:=SN.st j o;obtain⟨rfl,de⟩:=db;obtain⟨rfl,df⟩:=dc;have ah:Sl _ _ AB dd g:=ah;refine AU ?_;obtain⟨bu,az,rfl,e9⟩:=(ah).len;refine HO (cs:=[vI c.At,vI c.E,(.slice bu g.length az)]) cA O O O (AU ?_);exact B0 (AY.mk (x:=({ c with V:=g}:AT)) de df ah)
     refine A7.cons O ?_ ?_
     ·intro mq F o;intro dg aq;have C:=SN.st j o;have aq:Rd _ _ AY dg ({ c with V:=g}:AT):=aq;have D:=C.fz;obtain⟨fa,rfl,dh,di,a6⟩:=AY.ex aq;obtain⟨bv,a0,rfl,fb⟩:=(a6).len;refine Ft (cs:=[vI (({ c with V:=g}:AT).At),vI (({ c with V:=g}:AT).E),(.slice bv (({ c with V:=g}:AT).V).length a0)]) SE O O O O O O O D λfc fd bw dj=>?_;have dk:=a6.mono' dj;have bx:=bw.bxos (r:=AY) (l:=([({ c with V:=g}:AT)]:List AT)) .head ⟨_,_,O,⟨_,O,dh,di,dk⟩,O⟩ (by simp [maxLen]);obtain⟨fe,bz,ff,dl⟩:=bx.pubs .head;have ar:=Fz.done o EX bz;exact BB ar.1 ⟨Sl.mono' dl ar.2,_,O⟩
     exact trivial
    intro fg dm fh dn fi au;have b0:=SN.st j dm;cases dn;obtain⟨au,d8,rfl⟩:=au;obtain⟨b1,E⟩:=Lt E;refine Eb (r:=AY) (l:=ab) (xs:=([({ c with V:=g}:AT)]:List AT)) O O SE O (Sl.src au) O b1 O b0 (λ_=>(.tail .head)) λdp fj b2 fk=>AU ?_;refine WF.nil (λG H s y=>?_);have b3:=b2.sel [1,1] 1 O;exact⟨dp,(ab++([({ c with V:=g}:AT)]:List AT)),ac,_,_,s.sub (kp [33,32,8,2,1,34,9] O),y,b3,EX,E⟩
   rintro G H ⟨aw,ax,ay,fl,fm,s,y,b4,fn,E⟩;refine AK ?_ s y;clear s y H G;rw[KQ] at E;refine AU ?_;refine WF.nil (λG H s y=>?_);exact⟨aw,ax,(BT (K+1)),ay,_,_,s.sub (kp [33,32,8,2,1,9,34] O),y,b4,EX,(BV _),E⟩
  refine BM O (λG H s y=>?_);exact⟨M,ab,ac,_,_,s.sub (kp [8,9] O),y,a4,ck,E⟩
 rintro G H ⟨bb,bc,be,fo,fp,s,y,b5,fq,E⟩;refine AK ?_ s y;clear s y H G;rw[Ip] at E;refine AU ?_;refine CO (λG H s y=>?_);have b6:=b5.sel [1,0] 0 O;cases E;exact K6 s O y (Iy (J7 s (v:=_) O) (Iy (J7 s (v:=_) O) K5)) O EX ⟨_,_,O,b6⟩
def SR (Z:St S L h) {c:Value}{n:BC}(l:Rd S h CB c n) {d:Value}{b:A3}(m:Rd S h BQ d b) {k:Int}(K:AA k) {r:A3}(E:Hz N n b k=some r):
 CL prog 120 #[c,d,vI k] S h (λv S' h'=>v= .agg #[vI r.Ab,vI r.Ac,.bool r.Ay,.bool r.Am]∧A3.ok r∧St S' (L) h'):=by
 refine CL.go 24 func120 O ntmps120 O λB=>?_;rw[Hz] at E;refine AU ?_;refine CZ O l CE O Z λq1 S2 h3 M e5 k6=>?_;have k7:=m.mono e5;obtain⟨rfl,⟨Y,u⟩⟩:=BQ.ex k7;refine NQ O O O M λx ab y ac=>Dp Sm O y λz A g ad=>?_;have ae:=k6.nw;refine AU ?_;refine AH O E (λQ E=>?_) (λQ E=>?_)
 ·refine AU ?_;refine FK O O O O I6.1 O g .head O λaf C ag=>AU ?_;refine CO (λs t i j=>?_);have o:=C.drop (.tail .head);have D:=o.drop .head;cases E;exact K6 i O j (Iy (W5 i j o O mh I6.1 O) K5) O EX ⟨O,⟨Y,u⟩,D⟩
 refine AU ?_;refine AV (λa w=>∃(q:Bool),IV B S2 A (24,[]) a w [(6,vP z 0),(4,vP x 0)] (Bx z 107 [vI 0,vI 0,.bool false,.bool false]::Bx x 107 [vI b.Ab,vI b.Ac,.bool b.Ay,.bool q]::L) λ_ _=>Jq N b q=some r) ?_ ?_
 ·refine AU ?_;refine AH O E (λU E=>?_) (λU E=>?_)
  ·refine AU ?_;refine Ge (cs':=[vI b.Ab,vI b.Ac,.bool b.Ay,.bool true]) O O O O XD.1 O g (.tail .head) O O λah F V=>AU ?_;refine WF.nil (λs t i j=>?_);exact⟨true,_,_,i.sub (kp [6,4] O),j,F,V,E⟩
  refine AU ?_;refine AH O E (λW E=>?_) (λW E=>?_)
  ·refine AU ?_;refine Ge (cs':=[vI b.Ab,vI b.Ac,.bool b.Ay,.bool false]) O O O O XD.1 O g (.tail .head) O O λai G X=>AU ?_;refine WF.nil (λs t i j=>?_);exact⟨false,_,_,i.sub (kp [6,4] O),j,G,X,E⟩
  refine AU ?_;refine WF.nil (λs t i j=>?_);exact⟨b.Am,_,_,i.sub (kp [6,4] O),j,g,(CJ.refl S2 A),E⟩
 rintro s t ⟨q,aj,ak,i,j,H,am,E⟩;refine AK ?_ i j;clear i j t s;rw[Jq] at E;refine AU ?_;refine FK O O O O I6.1 O H .head O λan I ao=>AU ?_;refine CO (λs t i j=>?_);have p:=I.drop (.tail .head);have J:=p.drop .head;cases E;exact K6 i O j (Iy (W5 i j p O mh I6.1 O) K5) O EX ⟨O,⟨Y,u⟩,J⟩
def OE {c:Nat}{p0_w:AM}{am:Value}{an:Value}{af:Value}{ao:Value}{ap:Value}{aq:Value}{ar:Value}{au:Value}{ag:Value}{ah:Value}{ai:Value}{aj:Value}{ak:Value}{d:Value}{g:Value}{a2:Value}{ab:Value}{t:Value}{u:Value}{y:Value}{ac:Value}{z:Value}(hs:St S (Bx c 112 [.string p0_w.b.F,am,vI p0_w.b.K,an,af,ao,ap,aq,ar,au,vI p0_w.b.L,ag,ah,ai,aj,ak,vI p0_w.s.B,d,g,a2,ab,t,u,y,ac,z]::OO AB 3 29 d p0_w.s.H::OS AB 3 g p0_w.s.N::OS BQ 107 ab p0_w.s.P::OS AB 3 t p0_w.s.D::OS AB 3 u p0_w.s.O::OS CA 116 y p0_w.moves::OS AB 3 ac p0_w.peaks::OS AY 103 z p0_w.sent::L) h) (fm:p0_w.b.F.size≤maxLen) (br:Sl S h A5.str am p0_w.b.J) (fn:AA p0_w.b.K) (a6:Sl S h B1 an p0_w.b.A) (bs:Sl S h CB af p0_w.b.C) (fo:Sl S h HN ao p0_w.b.Af) (fp:Sl S h Et ap p0_w.b.Ah) (fq:Sl S h G5 aq p0_w.b.Ai) (fr:Sl S h DW ar p0_w.b.Ak) (fs:Sl S h AB au p0_w.b.Aj) (c5:AA p0_w.b.L) (c6:Sl S h AB ag p0_w.in_.S) (c7:Sl S h Cv ah p0_w.in_.X) (c8:Sl S h FY ai p0_w.in_.Y) (c9:Sl S h DK aj p0_w.in_.U) (da:Sl S h Dj ak p0_w.in_.Ad) (bg:AA p0_w.s.B) (bh:Sl S h AY a2 p0_w.s.I) {r:(List (List Int))×(List AT)×(List A3)×(List Int)}(E:F9 N p0_w=some r):
 CL prog 61 #[vP c 0] S h (λv S' h'=>∃bl bm bn bo:Value,v= .tuple #[]∧St S' (Bx c 112 [.string p0_w.b.F,am,vI p0_w.b.K,an,af,ao,ap,aq,ar,au,vI p0_w.b.L,ag,ah,ai,aj,ak,vI p0_w.s.B,bl,g,bm,bn,t,u,y,bo,z]::OS (A5.sl AB) 29 bl r.1::OS AB 3 g p0_w.s.N::OS AY 103 bm r.2.1::OS BQ 107 bn r.2.2.1::OS AB 3 t p0_w.s.D::OS AB 3 u p0_w.s.O::OS CA 116 y p0_w.moves::OS AB 3 bo r.2.2.2::OS AY 103 z p0_w.sent::L) h'):=by
 refine CL.go (l:=[vP c 0]) 123 func61 O ntmps61 O λB=>?_;rw[F9] at E;have hy:=hs.pick (.tail .head);obtain⟨S2,ae,e4⟩:=hy.ooPub;refine AU ?_;obtain⟨ax,ft,E⟩:=bd E;refine VU (m:=[(0,vP c 0)]) [] [] [(23,[22]),(24,[23]),(25,[23]),(26,[24]),(27,[25])] (by kernel_rfl) (λgv X F i v hh=>match i with|0=>v=vP c 0|1=>v=vP c 0|2=>v=vP c 16|3=>v=vP c 19|4=>Sl S2 hh AY v p0_w.s.I|5=>v=vP c 0|6=>v=vP c 0|7=>v=vP c 16|8=>v=vP c 16|9=>v=vI p0_w.s.B∧AA p0_w.s.B|10=>v=vP c 0|11=>v=vP c 0|12=>v=vP c 0|13=>v=vP c 3|14=>Sl S2 hh B1 v p0_w.b.A|15=>v=vI (↑p0_w.b.A.length:Int)∧AA (↑p0_w.b.A.length:Int)|16=>v=vP c 0|17=>v=vP c 0|18=>v=vP c 0|19=>v=vP c 1|20=>Sl S2 hh A5.str v p0_w.b.J|21=>v=vI (↑p0_w.b.J.length:Int)∧AA (↑p0_w.b.J.length:Int)|22=>∃w0 w1:Value,v= .tuple #[w0,w1]∧OW S2 h X F [OS (A5.sl AB) 29 w0 ax.1,OS AY 103 w1 ax.2] hh|23=>v=gv 22∧∃w0 w1:Value,v= .tuple #[w0,w1]|24=>v=nI (gv 23) 0|25=>v=nI (gv 23) 1|26=>v=gv 24|27=>v=gv 25|_=>False) [[],[(0,8)],[(1,9)],[(2,10)],[(3,11)],[],[(5,13)],[(6,14)],[(7,15)],[(8,16)],[],[(10,18)],[(11,19)],[(12,20)],[(13,21)],[(14,22)],[],[(16,24)],[(17,25)],[(18,26)],[(19,27)],[(20,28)],[(4,12),(9,17),(15,23),(21,29)],[(22,30)],[(23,7)],[(23,7)],[(24,31)],[(25,32)]] [(22,30),(23,7),(24,31),(25,32),(26,2),(27,3)] mo (by kernel_rfl) [0] O (by kernel_rfl) (by kernel_rfl) (by kernel_rfl) O (kp [0] O) (λgv i v h1 h2 X X' F o1 o2 hF u1 u2 V=>?_) (λgv l1 X F i v h1 hz V=>?_) ?_ ?_ ?_
 ·match i,V with
   |0,V|1,V|2,V|3,V|5,V|6,V|7,V|8,V|9,V|10,V|11,V|12,V|13,V|15,V|16,V|17,V|18,V|19,V|21,V|23,V|24,V|25,V|26,V|27,V=>exact V
   |4,V|14,V|20,V=>exact Sl.mono' V (o2.ext λb hb=>Acv (ae.1 b hb) o1.siz)
   |22,V=>obtain⟨w0,w1,ev,q⟩:=V;exact⟨w0,w1,ev,OW.mono ae.1 o1 o2 hF u1 u2 q⟩
   |_+28,V=>exact V.elim
 ·match i,V with
   |0,V|1,V|2,V|3,V|4,V|5,V|6,V|7,V|8,V|9,V|10,V|11,V|12,V|13,V|14,V|15,V|16,V|17,V|18,V|19,V|20,V|21,V|22,V=>exact V
   |23,V=>rw[hz _ Ac4 O 22 (by decide)] at V;exact V
   |24,V=>rw[hz _ (Adi _ Ac4) O 23 (by decide)] at V;exact V
   |25,V=>rw[hz _ (Adi _ (Adi _ Ac4)) O 23 (by decide)] at V;exact V
   |26,V=>rw[hz _ (Adi _ (Adi _ (Adi _ Ac4))) O 24 (by decide)] at V;exact V
   |27,V=>rw[hz _ (Adi _ (Adi _ (Adi _ (Adi _ Ac4)))) O 25 (by decide)] at V;exact V
   |_+28,V=>exact V.elim
 ·exact trivial
 ·refine DD.cons O O ?_ ?_
  ·intro gv X mq hh o hX;have Q:=o.st ae;refine AU ?_;exact BB (EY.refl _) O
  refine DD.cons O O ?_ ?_
  ·intro gv X mq hh o hX;have Q:=o.st ae;intro l2 db;obtain⟨il,_,_,db⟩:=db;cases db;refine AU ?_;exact BB (EY.refl _) O
  refine DD.cons O O ?_ ?_
  ·intro gv X mq hh o hX;have Q:=o.st ae;intro l3 dc;obtain⟨im,_,_,dc⟩:=dc;cases dc;refine AU ?_;exact BB (EY.refl _) O
  refine DD.cons O O ?_ ?_
  ·intro gv X mq hh o hX;have Q:=o.st ae;intro l4 dd;obtain⟨io,_,_,dd⟩:=dd;cases dd;refine AU ?_;exact BB (EY.refl _) O
  refine DD.cons O O ?_ ?_
  ·intro gv X mq hh o hX;have Q:=o.st ae;intro l5 de;obtain⟨ip,_,_,de⟩:=de;cases de;refine AU ?_;have h0:=bh.mono' (e4.trans (o.ext ae.1));exact BB (EY.refl _) h0
  refine DD.cons O O ?_ ?_
  ·intro gv X mq hh o hX;have Q:=o.st ae;refine AU ?_;exact BB (EY.refl _) O
  refine DD.cons O O ?_ ?_
  ·intro gv X mq hh o hX;have Q:=o.st ae;intro l6 df;obtain⟨ir,_,_,df⟩:=df;cases df;refine AU ?_;exact BB (EY.refl _) O
  refine DD.cons O O ?_ ?_
  ·intro gv X mq hh o hX;have Q:=o.st ae;intro l7 dg;obtain⟨it,_,_,dg⟩:=dg;cases dg;refine AU ?_;exact BB (EY.refl _) O
  refine DD.cons O O ?_ ?_
  ·intro gv X mq hh o hX;have Q:=o.st ae;intro l8 dh;obtain⟨iu,_,_,dh⟩:=dh;cases dh;refine AU ?_;exact BB (EY.refl _) O
  refine DD.cons O O ?_ ?_
  ·intro gv X mq hh o hX;have Q:=o.st ae;intro l9 di;obtain⟨iv,_,_,di⟩:=di;cases di;refine AU ?_;exact BB (EY.refl _) ⟨O,bg⟩
  refine DD.cons O O ?_ ?_
  ·intro gv X mq hh o hX;have Q:=o.st ae;refine AU ?_;exact BB (EY.refl _) O
  refine DD.cons O O ?_ ?_
  ·intro gv X mq hh o hX;have Q:=o.st ae;intro ma dj;obtain⟨iw,_,_,dj⟩:=dj;cases dj;refine AU ?_;exact BB (EY.refl _) O
  refine DD.cons O O ?_ ?_
  ·intro gv X mq hh o hX;have Q:=o.st ae;intro mb dk;obtain⟨iy,_,_,dk⟩:=dk;cases dk;refine AU ?_;exact BB (EY.refl _) O
  refine DD.cons O O ?_ ?_
  ·intro gv X mq hh o hX;have Q:=o.st ae;intro mc dl;obtain⟨iz,_,_,dl⟩:=dl;cases dl;refine AU ?_;exact BB (EY.refl _) O
  refine DD.cons O O ?_ ?_
  ·intro gv X mq hh o hX;have Q:=o.st ae;intro md dm;obtain⟨i0,_,_,dm⟩:=dm;cases dm;refine AU ?_;have h3:=a6.mono' (e4.trans (o.ext ae.1));exact BB (EY.refl _) h3
  refine DD.cons O O ?_ ?_
  ·intro gv X mq hh o hX;have Q:=o.st ae;intro h4 bu;obtain⟨i1,_,_,bu⟩:=bu;have bu:Sl _ _ B1 h4 p0_w.b.A:=bu;have h5:=bu.le;refine AU ?_;exact BB (EY.refl _) ⟨O,(Ls h5)⟩
  refine DD.cons O O ?_ ?_
  ·intro gv X mq hh o hX;have Q:=o.st ae;refine AU ?_;exact BB (EY.refl _) O
  refine DD.cons O O ?_ ?_
  ·intro gv X mq hh o hX;have Q:=o.st ae;intro me dn;obtain⟨i2,_,_,dn⟩:=dn;cases dn;refine AU ?_;exact BB (EY.refl _) O
  refine DD.cons O O ?_ ?_
  ·intro gv X mq hh o hX;have Q:=o.st ae;intro mf dp;obtain⟨i3,_,_,dp⟩:=dp;cases dp;refine AU ?_;exact BB (EY.refl _) O
  refine DD.cons O O ?_ ?_
  ·intro gv X mq hh o hX;have Q:=o.st ae;intro mg dq;obtain⟨i4,_,_,dq⟩:=dq;cases dq;refine AU ?_;exact BB (EY.refl _) O
  refine DD.cons O O ?_ ?_
  ·intro gv X mq hh o hX;have Q:=o.st ae;intro mi dr;obtain⟨i5,_,_,dr⟩:=dr;cases dr;refine AU ?_;have h6:=br.mono' (e4.trans (o.ext ae.1));exact BB (EY.refl _) h6
  refine DD.cons O O ?_ ?_
  ·intro gv X mq hh o hX;have Q:=o.st ae;intro h7 bv;obtain⟨i6,_,_,bv⟩:=bv;have bv:Sl _ _ A5.str h7 p0_w.b.J:=bv;have h8:=bv.le;refine AU ?_;exact BB (EY.refl _) ⟨O,(Ls h8)⟩
  refine Pa O O ?_ ?_
  ·intro gv X mq hh o hX;have Q:=SX.fz (X:=X) ae o;intro h9 bi mj ds ml dt mm du;obtain⟨i7,_,_,bi⟩:=bi;have bi:=Sl.mono' (S':=(SX S2 h hh X)) bi ⟨λb hb=>(SX.ext ae.1 o hX).sub b hb,λ_ _=>rfl,Acr _⟩;have bi:Sl _ _ AY h9 p0_w.s.I:=bi;obtain⟨i8,_,_,ds⟩:=ds;obtain⟨rfl,ia⟩:=ds;obtain⟨i9,_,_,dt⟩:=dt;obtain⟨rfl,ib⟩:=dt;obtain⟨ja,_,_,du⟩:=du;obtain⟨rfl,ic⟩:=du;refine CY O O O tX O (Tx Q bi ia ib ic ft) λmn mp mr ie p=>?_;obtain⟨ms,mu,rfl,dv⟩:=p;have ig:=dv.pick (.tail (.tail .head));obtain⟨fu,dw,fv,jb,fw⟩:=OW.done ae.1 o hX ie ig;exact BB fv ⟨fu,dw,⟨_,_,O,fw⟩⟩
  refine DD.cons O O ?_ ?_
  ·intro gv X mq hh o hX;have Q:=o.st ae;intro jc bw;obtain⟨dx,_,_,bw⟩:=bw;obtain⟨jd,je,rfl,jf⟩:=bw;refine AU ?_;exact BB (EY.refl _) ⟨dx,_,_,O⟩
  refine DD.cons O O ?_ ?_
  ·intro gv X mq hh o hX;have Q:=o.st ae;intro jg bx;obtain⟨dy,_,_,bx⟩:=bx;obtain⟨_,jh,ji,rfl⟩:=bx;refine AU ?_;exact BB (EY.refl _) (by rw[←dy];rfl)
  refine DD.cons O O ?_ ?_
  ·intro gv X mq hh o hX;have Q:=o.st ae;intro jj bz;obtain⟨dz,_,_,bz⟩:=bz;obtain⟨_,jk,jl,rfl⟩:=bz;refine AU ?_;exact BB (EY.refl _) (by rw[←dz];rfl)
  refine DD.cons O O ?_ ?_
  ·intro gv X mq hh o hX;have Q:=o.st ae;intro jm cl;obtain⟨d0,_,_,cl⟩:=cl;refine AU ?_;exact BB (EY.refl _) d0
  refine DD.cons O O ?_ ?_
  ·intro gv X mq hh o hX;have Q:=o.st ae;intro jn cm;obtain⟨d1,_,_,cm⟩:=cm;refine AU ?_;exact BB (EY.refl _) d1
  exact trivial
 intro b0 bj ih bp bb d2 jo b1 cn b2 co b3 cp b4 cq b5 cr b6;obtain⟨d3,b1⟩:=b1;obtain⟨b7,b2⟩:=b2;obtain⟨d4,b3⟩:=b3;obtain⟨d5,b4⟩:=b4;obtain⟨ii,b5⟩:=b5;obtain⟨ij,b6⟩:=b6;obtain⟨a0,a7,rfl,fx⟩:=b1;have bk:=(Xv.cons (Xv.nil ae bp bb) d2 (j:=22) O fx).st;simp only[Acu,Acs] at bk;obtain rfl: .tuple #[a0,a7]=cn:=((by rw[b2.1,←d3];try rfl:cn= .tuple #[a0,a7])).symm;obtain rfl:a0=co:=((by rw[b3,←b7];try rfl:co=a0)).symm;obtain rfl:a7=cp:=((by rw[b4,←b7];try rfl:cp=a7)).symm;obtain rfl:a0=cq:=((by rw[b5,←d4];try rfl:cq=a0)).symm;obtain rfl:a7=cr:=((by rw[b6,←d5];try rfl:cr=a7)).symm;refine AU ?_;obtain⟨ay,aw,rfl,jp⟩:=bk.oslen (mt mh);refine Ge (vs:=[(.slice ay ax.2.length aw)]) (cs':=[.string p0_w.b.F,am,vI p0_w.b.K,an,af,ao,ap,aq,ar,au,vI p0_w.b.L,ag,ah,ai,aj,ak,vI p0_w.s.B,d,g,(.slice ay ax.2.length aw),ab,t,u,y,ac,z]) O O O O X8.1 O bk (.tail (.tail (.tail .head))) O O λb8 d6 b9=>?_;have d7:=e4.trans ((SX.ext ae.1 bp (iY bb)).trans b9);have jq:=a6.mono' d7;refine AU ?_;refine AV (λa w=>∃(a3:List (List Int)) (a4:List Int),IV B (SX S2 h b0 (UX bj)) b8 (123,[]) a w [(0,vP c 0)] (OS AY 103 (.slice ay ax.2.length aw) ax.2::OS (A5.sl AB) 29 d a3::Bx c 112 [.string p0_w.b.F,am,vI p0_w.b.K,an,af,ao,ap,aq,ar,au,vI p0_w.b.L,ag,ah,ai,aj,ak,vI p0_w.s.B,d,g,(.slice ay ax.2.length aw),ab,t,u,y,ac,z]::OS AB 3 g p0_w.s.N::OS BQ 107 ab p0_w.s.P::OS AB 3 t p0_w.s.D::OS AB 3 u p0_w.s.O::OS CA 116 y p0_w.moves::OS AB 3 ac a4::OS AY 103 z p0_w.sent::L) λ_ _=>DP N p0_w ax a3 a4=some r) ?_ ?_
 ·refine A9 (λn1=>λa w=>∃(av:Int) (a8:List (List Int)) (a9:List Int),IV B (SX S2 h b0 (UX bj)) b8 (123,[]) a w [(43,vI (↑p0_w.b.A.length:Int)),(2,a0),(0,vP c 0),(44,vI av)] (OS (A5.sl AB) 29 a0 ax.1::OS AY 103 (.slice ay ax.2.length aw) ax.2::OS (A5.sl AB) 29 d a8::Bx c 112 [.string p0_w.b.F,am,vI p0_w.b.K,an,af,ao,ap,aq,ar,au,vI p0_w.b.L,ag,ah,ai,aj,ak,vI p0_w.s.B,d,g,(.slice ay ax.2.length aw),ab,t,u,y,ac,z]::OS AB 3 g p0_w.s.N::OS BQ 107 ab p0_w.s.P::OS AB 3 t p0_w.s.D::OS AB 3 u p0_w.s.O::OS CA 116 y p0_w.moves::OS AB 3 ac a9::OS AY 103 z p0_w.sent::L) λ_ _=>AA av∧DA N p0_w ax (DP N p0_w ax) n1 av a8 a9=some r) N ?_ ?_ ?_
  ·intro aa ww hf hw;exact⟨0,p0_w.s.H,p0_w.peaks,_,_,hf.sub (kp [43,2,0,44] O),hw,d6,(CJ.refl (SX S2 h b0 (UX bj)) b8),(iq (n:=0) O),E⟩
  ·rintro aa ww ⟨_,_,_,_,_,_,_,_,_,_,E⟩;rw[DA] at E;cases E
  rintro n1 aa ww ⟨av,a8,a9,bc,ca,hf,hw,Z,cs,cb,E⟩;refine AK ?_ hf hw;clear hf hw ww aa;rw[DA] at E;refine AU ?_;refine AH O E (λfy E=>?_) (λfy E=>?_)
  ·refine AU ?_;refine A6 (AU ?_);refine Rp (kp [4,43,2,0,44] O) ?_;obtain⟨jr,d8,E⟩:=bd E;obtain⟨ct,d9,E⟩:=bd E;obtain⟨js,ea,E⟩:=bd E;obtain⟨cu,eb,E⟩:=bd E;obtain⟨cc,ec,E⟩:=bd E;obtain⟨jt,ed,E⟩:=bd E;refine Nd (m:=[(4,vI av),(43,vI (↑p0_w.b.A.length:Int)),(2,a0),(0,vP c 0),(44,vI av)]) 20 (λi v hh=>match i with|0=>v=vP c 0|1=>v=vP c 0|2=>v=vP c 16|3=>v=vP c 17|4=>v=d|5=>v=vI av∧AA av|6=>v=vP c 0|7=>v=vP c 0|8=>v=vP c 16|9=>v=vP c 17|10=>v=d|11=>v=vI av∧AA av|12=>EP d (av.toNat*((A5.sl AB)).sz+0) v|13=>Sl bc hh AB v ct|14=>v=a0|15=>v=vI av∧AA av|16=>EP a0 (av.toNat*((A5.sl AB)).sz+0) v|17=>Sl bc hh AB v cu|18=>Sl (SN bc ca hh) hh AB v cc|19=>EP d (av.toNat*((A5.sl AB)).sz+0) v|_=>False) [[],[(0,47)],[(1,48)],[(2,49)],[(3,50)],[],[],[(6,53)],[(7,54)],[(8,55)],[(9,56)],[],[(10,57),(11,58)],[(12,59)],[],[],[(14,61),(15,62)],[(16,63)],[(13,60),(17,64)],[(4,51),(5,52)]] [(18,65),(19,66)] mo (by kernel_rfl) [4,43,2,0,44] O (by kernel_rfl) (by kernel_rfl) (by kernel_rfl) (kp [4,43,2,0,44] O) (λi v h1 h2 o1 o2 V=>?_) ?_ ?_
   ·match i,V with
     |0,V|1,V|2,V|3,V|4,V|5,V|6,V|7,V|8,V|9,V|10,V|11,V|12,V|14,V|15,V|16,V|19,V=>exact V
     |13,V|17,V=>exact Sl.mono' V (o2.ext λb hb=>Acv (Z.1 b hb) o1.siz)
     |18,V=>exact Sl.mono' V (SN.mono Z.1 o1 o2)
     |_+20,V=>exact V.elim
   ·refine A7.cons O ?_ ?_
    ·intro mq hh o;have Q:=o.st Z;refine AU ?_;exact BB (EY.refl _) O
    refine A7.cons O ?_ ?_
    ·intro mq hh o;intro ju f0;have Q:=o.st Z;cases f0;refine AU ?_;exact BB (EY.refl _) O
    refine A7.cons O ?_ ?_
    ·intro mq hh o;intro jv f1;have Q:=o.st Z;cases f1;refine AU ?_;exact BB (EY.refl _) O
    refine A7.cons O ?_ ?_
    ·intro mq hh o;intro jw f2;have Q:=o.st Z;cases f2;refine AU ?_;exact BB (EY.refl _) O
    refine A7.cons O ?_ ?_
    ·intro mq hh o;intro jx f3;have Q:=o.st Z;cases f3;refine AU ?_;exact BB (EY.refl _) O
    refine A7.cons O ?_ ?_
    ·intro mq hh o;have Q:=o.st Z;refine AU ?_;exact BB (EY.refl _) ⟨O,cb⟩
    refine A7.cons O ?_ ?_
    ·intro mq hh o;have Q:=o.st Z;refine AU ?_;exact BB (EY.refl _) O
    refine A7.cons O ?_ ?_
    ·intro mq hh o;intro jy f4;have Q:=o.st Z;cases f4;refine AU ?_;exact BB (EY.refl _) O
    refine A7.cons O ?_ ?_
    ·intro mq hh o;intro jz f5;have Q:=o.st Z;cases f5;refine AU ?_;exact BB (EY.refl _) O
    refine A7.cons O ?_ ?_
    ·intro mq hh o;intro j0 f6;have Q:=o.st Z;cases f6;refine AU ?_;exact BB (EY.refl _) O
    refine A7.cons O ?_ ?_
    ·intro mq hh o;intro j1 f7;have Q:=o.st Z;cases f7;refine AU ?_;exact BB (EY.refl _) O
    refine A7.cons O ?_ ?_
    ·intro mq hh o;have Q:=o.st Z;refine AU ?_;exact BB (EY.refl _) ⟨O,cb⟩
    refine A7.cons O ?_ ?_
    ·intro mq hh o;intro j2 f8 j3 f9;have Q:=o.st Z;cases f8;obtain⟨rfl,j4⟩:=f9;refine AU ?_;refine BY Q (mt (mt mh)) O O Jl.1 d8 O λj5 ee=>AU ?_;exact BB (EY.refl _) ee
    refine A7.cons O ?_ ?_
    ·intro mq hh o;intro j6 ga;have Q:=o.st Z;refine AU ?_;have gb:=Q.epAt (mt (mt mh)) d9 FZ.id ga;refine G6 Hc (λ_ x=>x) O gb GH.1 O λj7 gc=>AU ?_;exact BB (EY.refl _) gc
    refine A7.cons O ?_ ?_
    ·intro mq hh o;have Q:=o.st Z;refine AU ?_;exact BB (EY.refl _) O
    refine A7.cons O ?_ ?_
    ·intro mq hh o;have Q:=o.st Z;refine AU ?_;exact BB (EY.refl _) ⟨O,cb⟩
    refine A7.cons O ?_ ?_
    ·intro mq hh o;intro j8 ge j9 gf;have Q:=o.st Z;cases ge;obtain⟨rfl,ka⟩:=gf;refine AU ?_;refine BY Q mh O O Jl.1 ea O λkb ef=>AU ?_;exact BB (EY.refl _) ef
    refine A7.cons O ?_ ?_
    ·intro mq hh o;intro kc gg;have Q:=o.st Z;refine AU ?_;have gh:=Q.epAt mh eb FZ.id gg;refine G6 Hc (λ_ x=>x) O gh GH.1 O λkd gi=>AU ?_;exact BB (EY.refl _) gi
    refine A7.cons O ?_ ?_
    ·intro mq hh o;intro gj be gl bf;have Q:=SN.st Z o;have be:=Sl.mono' (S':=(SN bc ca hh)) be ⟨λb hb=> .inl hb,λ_ _=>rfl,Acr _⟩;have be:Sl _ _ AB gj ct:=be;have bf:=Sl.mono' (S':=(SN bc ca hh)) bf ⟨λb hb=> .inl hb,λ_ _=>rfl,Acr _⟩;have bf:Sl _ _ AB gl cu:=bf;have ck:=Q.fz;refine E9 O O O Xh O ck (OG (St.all _) (be.mono (λb hb=>ck.1 b hb) (λ_ _=>rfl)) (bf.mono (λb hb=>ck.1 b hb) (λ_ _=>rfl)) ec) λke kf kg ik gm gn p=>?_;have eg:=p;have cd:=ck.join gn eg ⟨OS.flat (λ{_ _ _ _ _ _} k=>k),trivial⟩;simp only[Acu,Acs] at cd;obtain⟨kh,eh,gp,gq⟩:=cd.pubs .head;have ce:=Fz.done o (gm.trans gp) eh;exact BB ce.1 (Sl.mono' gq ce.2)
    refine A7.cons O ?_ ?_
    ·intro mq hh o;intro ki gr kj gs;have Q:=o.st Z;cases gr;obtain⟨rfl,kk⟩:=gs;refine AU ?_;refine BY Q (mt (mt mh)) O O Jl.1 ed O λkl ei=>AU ?_;exact BB (EY.refl _) ei
    exact trivial
   intro km cv gu cf kn gw;have ej:=SN.st Z cv;have cf:Sl _ _ AB gu cc:=cf;obtain⟨gx,ek,E⟩:=bd E;refine Ed (r:=(A5.sl AB)) (l:=a8) (i:=av) (x:=gx) O O (KH cf) gw ek Mh.id GH.1 (λ_=>rfl) ej (.tail (.tail .head)) λko a5 gy=>AU ?_;refine OM 15 mo (by kernel_rfl) O a5 (AU ?_);obtain⟨kr,el,E⟩:=bd E;refine BY a5 (mt (mt mh)) O O Jl.1 el O λks em=>?_;obtain⟨kt,en,E⟩:=bd E;have gz:=a5.epAt (mt (mt mh)) en FZ.id em;refine G6 P3 (λ_ x=>x) O gz GH.1 O λku g0=>?_;obtain⟨cw,eo,E⟩:=bd E;refine Vd O O O QD O (λh' o=>Gp (St.all h') (g0.mono' (o.all a5.1)) eo) λg1=>?_;have g2:=g1;obtain⟨kv,ep,E⟩:=bd E;refine BY a5 (mt (mt (mt (mt (mt (mt (mt (mt (mt mh))))))))) O O Ck.1 ep O λkw eq=>Mz λkx er g3=>?_;obtain⟨g4,es,E⟩:=bd E;refine Ed (r:=AB) (l:=a9) (i:=av) (x:=g4) O O (⟨_,O,O,g2⟩:Rd _ _ AB _ cw) eq es Mh.id Fa.1 (λ_=>rfl) er (.tail (.tail (.tail (.tail (.tail (.tail (.tail (.tail (.tail .head))))))))) λky eu g5=>AU ?_;refine BP (AU ?_);refine WF.nil (λaa ww hf hw=>?_);have ew:=cs.trans ((SN.ext Z.1 cv).trans (gy.trans (g3.trans g5)));exact⟨(BT (av+1)),(upd a8 av cc),(upd a9 av cw),_,_,hf.sub (kp [43,2,0,44] O),hw,eu,ew,(BV _),E⟩
  refine BM O (λaa ww hf hw=>?_);have ey:=Z.sel [1,1,1,1,1,1,1,1,1,1] 1 O;exact⟨a8,a9,_,_,hf.sub (kp [0] O),hw,ey,cs,E⟩
 rintro aa ww ⟨a3,a4,cx,cy,hf,hw,ez,cz,E⟩;refine AK ?_ hf hw;clear hf hw ww aa;rw[DP] at E;have e0:=e4.trans ((SX.ext ae.1 bp (iY bb)).trans (b9.trans cz));have g6:=bs.mono' e0;refine AU ?_;refine A6 (A9 (λn2=>λa w=>∃(a1:Int) (ba:List A3),IV B cx cy (123,[]) a w [(88,vI (↑p0_w.b.C.length:Int)),(87,af),(0,vP c 0),(89,vI a1)] (OS AY 103 (.slice ay ax.2.length aw) ax.2::OS (A5.sl AB) 29 d a3::Bx c 112 [.string p0_w.b.F,am,vI p0_w.b.K,an,af,ao,ap,aq,ar,au,vI p0_w.b.L,ag,ah,ai,aj,ak,vI p0_w.s.B,d,g,(.slice ay ax.2.length aw),ab,t,u,y,ac,z]::OS AB 3 g p0_w.s.N::OS BQ 107 ab ba::OS AB 3 t p0_w.s.D::OS AB 3 u p0_w.s.O::OS CA 116 y p0_w.moves::OS AB 3 ac a4::OS AY 103 z p0_w.sent::L) λ_ _=>AA a1∧Co N p0_w ax a3 a4 n2 a1 ba=some r) N ?_ ?_ ?_)
 ·intro aa ww hf hw;exact⟨0,p0_w.s.P,_,_,hf.sub (kp [88,87,0,89] O),hw,ez,(CJ.refl cx cy),(iq (n:=0) O),E⟩
 ·rintro aa ww ⟨_,_,_,_,_,_,_,_,_,E⟩;rw[Co] at E;cases E
 rintro n2 aa ww ⟨a1,ba,g7,g8,hf,hw,cg,ch,kz,E⟩;refine AK ?_ hf hw;clear hf hw ww aa;rw[Co] at E;refine AU ?_;refine AH O E (λg9 E=>?_) (λg9 E=>?_)
 ·refine AU ?_;refine AV (λa w=>∃(bq:List A3),IV B g7 g8 (123,[]) a w [(88,vI (↑p0_w.b.C.length:Int)),(87,af),(0,vP c 0),(89,vI a1)] (OS AY 103 (.slice ay ax.2.length aw) ax.2::OS (A5.sl AB) 29 d a3::Bx c 112 [.string p0_w.b.F,am,vI p0_w.b.K,an,af,ao,ap,aq,ar,au,vI p0_w.b.L,ag,ah,ai,aj,ak,vI p0_w.s.B,d,g,(.slice ay ax.2.length aw),ab,t,u,y,ac,z]::OS AB 3 g p0_w.s.N::OS BQ 107 ab bq::OS AB 3 t p0_w.s.D::OS AB 3 u p0_w.s.O::OS CA 116 y p0_w.moves::OS AB 3 ac a4::OS AY 103 z p0_w.sent::L) λ_ _=>F5 N a1 (Co N p0_w ax a3 a4 n2) bq=some r) ?_ ?_
  ·refine AU ?_;have ha:=g6.mono' ch;obtain⟨ad,e1,E⟩:=bd E;refine Pb O O ha Ob.1 e1 O λk0 hc=>?_;obtain⟨k1,_,hd⟩:=hc.lv;refine AU ?_;refine Dp Ov O cg λk2 k3 e2 ci=>AU ?_;have c0:=hd.mono ci;obtain⟨c1,c2,c3,rfl,k4,k5,k6,k7,he,hg,hi,k8,k9,la,lb,lc,lf,lg,lh,li,lj,ll⟩:=CB.ex c0;refine Lx (vs:=[.string ad.F,vI ad.G,vI ad.M,vI ad.E,c1,c2,c3,vI ad.W,vI ad.Ag,vI ad.Bc,vI ad.Bd,vI ad.Aa,vI ad.T,vI ad.Az,vI ad.Ba,vI ad.Aq,vI ad.Al,vI ad.R]) (cs':=[.string ad.F,vI ad.G,vI ad.M,vI ad.E,c1,c2,c3,vI ad.W,vI ad.Ag,vI ad.Bc,vI ad.Bd,vI ad.Aa,vI ad.T,vI ad.Az,vI ad.Ba,vI ad.Aq,vI ad.Al,vI ad.R]) O O O (A8 O (A8 O (A8 O (A8 O (A8 he.one (A8 hg.one (A8 hi.one (A8 O (A8 O (A8 O (A8 O (A8 O (A8 O (A8 O (A8 O (A8 O (A8 O (A8 O Ji)))))))))))))))))) Oy.1 O e2 .head O O λlm az cj=>AU ?_;refine AH O E (λhj E=>?_) (λhj E=>?_)
   ·refine OM 25 mo (by kernel_rfl) O az (AU ?_);obtain⟨ln,e3,E⟩:=bd E;refine BY az (mt (mt (mt (mt (mt mh))))) O O Oa.1 e3 O λlo e5=>?_;obtain⟨lp,e6,E⟩:=bd E;have hk:=az.epAt (mt (mt (mt (mt (mt mh))))) e6 FZ.id e5;refine Le P3 (λ_ x=>x) O hk I6.1 (λe=>by cases e) O λlq hl=>AU ?_;obtain⟨lr,e7,E⟩:=bd E;refine BY az (mt (mt (mt (mt (mt (mt (mt (mt (mt mh))))))))) O O Ck.1 e7 O λls e8=>?_;obtain⟨lt,e9,E⟩:=bd E;have hm:=az.epAt (mt (mt (mt (mt (mt (mt (mt (mt (mt mh))))))))) e9 FZ.id e8;refine Fs P3 (λ_ x=>x) O hm Fa.1 O λhn=>?_;have bt:=c0.mono cj;obtain⟨c4,fa,E⟩:=bd E;refine Vd O O O tW O (λh' o=>SR (St.all h') (bt.mono (o.all az.1)) (hl.mono (o.all az.1)) hn fa) λho=>?_;obtain⟨hp,hq⟩:=ho;obtain⟨lu,fb,E⟩:=bd E;refine BY az (mt (mt (mt (mt (mt mh))))) O O Oa.1 fb O λlw fc=>Mz λlx fd ht=>?_;obtain⟨hu,fe,E⟩:=bd E;refine Ed (r:=BQ) (l:=ba) (i:=a1) (x:=hu) O O (BQ.mk (x:=c4) ⟨hp,hq⟩) fc fe Mh.id I6.1 (λe=>by cases e) fd (.tail (.tail (.tail (.tail (.tail .head))))) λly ff hv=>AU ?_;refine WF.nil (λaa ww hf hw=>?_);have fg:=ff.sel [1,1,1,1,1,1,1,1,1,1] 1 O;have fh:=ci.trans (cj.trans (ht.trans hv));exact⟨(upd ba a1 c4),_,_,hf.sub (kp [88,87,0,89] O),hw,fg,fh,E⟩
   refine AU ?_;refine WF.nil (λaa ww hf hw=>?_);have fi:=az.sel [1,1,1,1,1,1,1,1,1,1] 1 O;exact⟨ba,_,_,hf.sub (kp [88,87,0,89] O),hw,fi,(ci.trans cj),E⟩
  rintro aa ww ⟨bq,lz,l0,hf,hw,fj,hx,E⟩;refine AK ?_ hf hw;clear hf hw ww aa;rw[F5] at E;refine AU ?_;refine WF.nil (λaa ww hf hw=>?_);exact⟨(BT (a1+1)),bq,_,_,hf.sub (kp [88,87,0,89] O),hw,fj,(ch.trans hx),(BV _),E⟩
 refine JV O (WF.nil (λaa ww hf hw=>?_));have fk:=cg.sel [2,1,1,0,0,0,0,0,0,0] 0 O;cases E;have fl:=e4.trans ((SX.ext ae.1 bp (iY bb)).trans (b9.trans (cz.trans ch)));exact K6 hf O hw K5 O fl ⟨_,_,_,_,O,fk⟩
end Go.Proofs.YtabonambpbofgaaGreat
