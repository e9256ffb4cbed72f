import Derived.Test.YtedgiljmffngoaaGreatPInst
import Derived.Test.YtedgiljmffngoaaGreatPForms
import Derived.Test.YtedgiljmffngoaaGreatPSort5
import Derived.Test.YtedgiljmffngoaaGreatPWalk0
import Derived.Test.YtedgiljmffngoaaGreatPWalk1
import Derived.Test.YtedgiljmffngoaaGreatPWalk2
namespace Go.Proofs.YtedgiljmffngoaaGreat
set_option linter.all false
open Go.RowKit
open Go.Proofs.Tryz
set_option maxRecDepth 10000
set_option maxHeartbeats 2000000
variable {N:Nat}{S:Nat→Prop}{L:List HP}{h:AS}
def Ny (hs:St S L h) {j:Value}{b:(List Int)}(s:Sl S h AB j b) {d:Value}{c:(List Int)}(t:Sl S h AB d c) {r:(List Int)}(E:Gg N b c=some r):
 B6 prog 30 #[j,d] S h (λv S' h'=>St S' (OS AB 3 v r::L) h'):=by
 refine A7 35 func30 O ntmps30 O λB=>?_;rw[Gg] at E;refine AU ?_;refine Td O O O (AU ?_);obtain⟨X,E⟩:=KM E;refine J2 (r:=AB) (zx:=0) H5 O ⟨O,by unfold AA;omega⟩ O O X O O hs λW h5 Y e7=>AU ?_;have k8:=s.mono' e7;refine VR (r:=AB) (l:=(List.replicate ((max (↑b.length:Int) (↑c.length:Int)):Int).toNat (0:Int))) (xs:=b) O O Ce.1 (Sl.src k8) O Y .head λZ D al=>?_;have ab:=t.nw;refine AU ?_;refine AN (λa w=>∃(y:List Int),IV B S Z (35,[]) a w [(5,W)] (OS AB 3 W y::L) λ_ _=>Hm N y=some r) ?_ ?_
 ·refine AY (λn1=>λa w=>∃(g:Int) (m:List Int),IV B S Z (35,[]) a w [(18,vI (↑c.length:Int)),(17,d),(5,W),(19,vI g)] (OS AB 3 W m::L) λ_ _=>AA g∧Fj N c (Hm N) n1 g m=some r) N ?_ ?_ ?_
  ·intro z A o q;exact⟨0,(Pf (List.replicate ((max (↑b.length:Int) (↑c.length:Int)):Int).toNat (0:Int)) b),_,_,o.sub (kp [18,17,5,19] O),q,D,(CG.refl S Z),(iq (n:=0) O),E⟩
  ·rintro z A ⟨_,_,_,_,_,_,_,_,_,E⟩;rw[Fj] at E;cases E
  rintro n1 z A ⟨g,m,am,an,o,q,k,F,ao,E⟩;refine AK ?_ o q;clear o q A z;rw[Fj] at E;refine AU ?_;refine AG O E (λac E=>?_) (λac E=>?_)
  ·refine AU ?_;refine A3 (AU ?_);have ad:=ab.mono' F;refine A4 E O O ad Ce.1 O λap E aq ae=>?_;have af:=ae.i;refine AU ?_;refine B1 (AU ?_);obtain⟨ar,G,E⟩:=bd E;refine BT k mh O O Ce.1 G O λau H=>?_;obtain⟨av,I,E⟩:=bd E;have ag:=k.epAt mh I Ff.id H;refine FU K9 (λ_ x=>x) O ag Gq.1 O λah=>AU ?_;refine Cf E O O O Q0 O k (λC J=>HH (St.all _) ah af J) λC E aw ax ay u az a0 p=>?_;obtain⟨rfl,ai,ak⟩:=p;refine AU ?_;obtain⟨a1,K,E⟩:=bd E;refine BT u mh O O Ce.1 K O λa2 M=>AU ?_;obtain⟨aj,Q,E⟩:=bd E;refine FK (r:=AB) (l:=m) (i:=g) (x:=aj) O O (⟨_,O,O,ai⟩:Rd _ _ AB _ C) M Q Nh.id Gq.1 (λ_=>rfl) u .head λa3 U a4=>AU ?_;refine BE (AU ?_);refine WF.nil (λz A o q=>?_);exact⟨(A9 (g+1)),(upd m g C),_,_,o.sub (kp [18,17,5,19] O),q,U,EX,(BF _),E⟩
  refine A8 O (λz A o q=>?_);exact⟨m,_,_,o.sub (kp [5] O),q,k,F,E⟩
 rintro z A ⟨y,a5,a6,o,q,V,a7,E⟩;refine AK ?_ o q;clear o q A z;rw[Hm] at E;refine AU ?_;cases E;exact KG V O O EX
def Tn (hs:St S L h) {d:Value}{u:(List AO)}(ag:Sl S h AZ d u) {b:Int}(a7:AA b) {z:Int}(I:AA z) {A:Int}(J:AA A) {r:(List (List Int))×(List AO)}(E:Lo N u b z A=some r):
 B6 prog 162 #[d,vI b,vI z,vI A] S h (λv S' h'=>∃b7 b8:Value,v= .tuple #[b7,b8]∧St S' (OS (A6.sl AB) 29 b7 r.1::OS AZ 121 b8 r.2::L) h'):=by
 refine A7 79 func162 O ntmps162 O λB=>?_;rw[Lo] at E;refine AU ?_;refine BY (.inl O) hs (AU ?_);refine B4 E O O O VB O (λy1 dq h' o=>KL (St.all h') I (iq (n:=0) O) (iq (n:=64) O) dq) λy1 E r2=>?_;have r3:=r2;refine AU ?_;refine BG (kp [2,0,1,3] O) λh4 dr e6=>AU ?_;refine BY (.inl O) dr (AU ?_);refine B4 E O O O VB O (λy7 ds h' o=>KL (St.all h') J (iq (n:=0) O) (iq (n:=16) O) ds) λy7 E r8=>?_;have r9:=r8;refine AU ?_;refine BG (kp [3,2,0,1] O) λfr b9 fs=>AU ?_;obtain⟨ca,E⟩:=KM E;refine J2 (r:=(A6.sl AB)) (zx:=[]) O6 O ⟨_,O,.inl ⟨O,O⟩⟩ O O ca O O b9 λt a8 cb ft=>AU ?_;refine AN (λa w=>∃(av:List (List Int)),IV B S a8 (79,[]) a w [(8,t),(2,vI y1),(0,d),(1,vI b)] (OS (A6.sl AB) 29 t av::L) λ_ _=>Gf N u b y1 av=some r) ?_ ?_
 ·refine AY (λn1=>λa w=>∃(Z:Int) (ai:List (List Int)),IV B S a8 (79,[]) a w [(20,vI (↑(List.replicate (y1:Int).toNat ([]:(List Int))).length:Int)),(8,t),(3,vI y7),(2,vI y1),(0,d),(1,vI b),(21,vI Z)] (OS (A6.sl AB) 29 t ai::L) λ_ _=>AA Z∧Ge N y1 y7 (Gf N u b y1) n1 Z ai=some r) N ?_ ?_ ?_
  ·intro G H s y;exact⟨0,(List.replicate (y1:Int).toNat ([]:(List Int))),_,_,s.sub (kp [20,8,3,2,0,1,21] O),y,cb,(CG.refl S a8),(iq (n:=0) O),E⟩
  ·rintro G H ⟨_,_,_,_,_,_,_,_,_,E⟩;rw[Ge] at E;cases E
  rintro n1 G H ⟨Z,ai,fu,fv,s,y,a1,dt,fw,E⟩;refine AK ?_ s y;clear s y H G;rw[Ge] at E;refine AU ?_;refine AG O E (λdu E=>?_) (λdu E=>?_)
  ·refine AU ?_;refine A3 (AU ?_);obtain⟨cc,E⟩:=KM E;refine J2 (r:=AB) (zx:=0) H5 O ⟨O,by unfold AA;omega⟩ O O cc O O a1 λfx fy a2 f0=>AU ?_;obtain⟨f1,cd,E⟩:=bd E;refine BT a2 (mt mh) O O IP.1 cd O λf2 ce=>AU ?_;obtain⟨dv,cf,E⟩:=bd E;obtain⟨f3,cg,f4,dw⟩:=a2.pubs .head;refine FK (r:=(A6.sl AB)) (l:=ai) (i:=Z) (x:=dv) O O (Pg dw) ce cf Nh.id Hc.1 (λ_=>rfl) cg .head λf5 ch f6=>AU ?_;refine BE (AU ?_);refine WF.nil (λG H s y=>?_);exact⟨(A9 (Z+1)),(upd ai Z (List.replicate (y7:Int).toNat (0:Int))),_,_,s.sub (kp [20,8,3,2,0,1,21] O),y,ch,EX,(BF _),E⟩
  refine A8 O (λG H s y=>?_);exact⟨ai,_,_,s.sub (kp [8,2,0,1] O),y,a1,dt,E⟩
 rintro G H ⟨av,a9,ba,s,y,ci,f7,E⟩;refine AK ?_ s y;clear s y H G;rw[Gf] at E;have dx:=ag.nw;refine AU ?_;refine L6 1 (kD O O O dx LA.1 O λa3=>AU ?_);have cj:=ci.zs AZ 121 a3;have dy:=ag.nw;refine AU ?_;refine AN (λa w=>∃(bb:Value) (bc:List AO) (be:List (List Int)),IV B a9 ba (79,[]) a w [(8,t),(9,bb)] (OS AZ 121 bb bc::OS (A6.sl AB) 29 t be::L) λ_ _=>H1 N bc be=some r) ?_ ?_
 ·refine AY (λn3=>λa w=>∃(Q:Value) (ab:List AO) (M:Int) (ac:List (List Int)),IV B a9 ba (79,[]) a w [(33,vI (↑u.length:Int)),(32,d),(8,t),(2,vI y1),(1,vI b),(9,Q),(34,vI M)] (OS AZ 121 Q ab::OS (A6.sl AB) 29 t ac::L) λ_ _=>AA M∧Fi N u b y1 (H1 N) n3 ab M ac=some r) N ?_ ?_ ?_
  ·intro G H s y;exact⟨(.slice a3 0 0),([]:List AO),0,av,_,_,s.sub (kp [33,32,8,2,1,9,34] O),y,cj,(CG.refl a9 ba),(iq (n:=0) O),E⟩
  ·rintro G H ⟨_,_,_,_,_,_,_,_,_,_,_,E⟩;rw[Fi] at E;cases E
  rintro n3 G H ⟨Q,ab,M,ac,U,dz,s,y,a4,ck,f8,E⟩;refine AK ?_ s y;clear s y H G;rw[Fi] at E;refine AU ?_;refine AG O E (λd0 E=>?_) (λd0 E=>?_)
  ·refine AU ?_;refine AN (λa w=>∃(aw:Value) (ax:List AO) (ay:List (List Int)),IV B U dz (79,[]) a w [(33,vI (↑u.length:Int)),(32,d),(8,t),(2,vI y1),(1,vI b),(34,vI M),(9,aw)] (OS AZ 121 aw ax::OS (A6.sl AB) 29 t ay::L) λ_ _=>Jc N M (Fi N u b y1 (H1 N) n3) ax ay=some r) ?_ ?_
   ·refine AU ?_;have d1:=dy.mono' ck;refine A4 E O O d1 LA.1 O λc E f9 d2=>?_;obtain⟨ga,_,d3⟩:=d2.lv;refine AU ?_;refine CP Nq O a4 λV gb cl d4=>?_;have d5:=d3.mono d4;obtain⟨gc,rfl,gd,ge,cm⟩:=AZ.ex d5;refine DU O O O ON Ns.1 O cl .head O λaf j gf=>AU ?_;refine AG O E (λcn E=>?_) (λcn E=>?_)
    ·obtain ⟨d9,bf,E⟩:=bd E;obtain⟨a5,bg,E⟩:=bd E;obtain⟨aj,bh,E⟩:=bd E;obtain⟨eb,bi,E⟩:=bd E;refine OJ (m:=[(12,vP V 0),(33,vI (↑u.length:Int)),(32,d),(8,t),(2,vI y1),(1,vI b),(9,Q),(34,vI M)]) 12 (λi v F=>match i with|0=>v=t|1=>v=vP V 1|2=>v=vI c.B∧AA c.B|3=>v=t|4=>v=vP V 1|5=>v=vI c.B∧AA c.B|6=>EP t (c.B.toNat*((A6.sl AB)).sz+0) v|7=>Sl U F AB v a5|8=>v=vP V 2|9=>Sl U F AB v c.K|10=>Sl (SN U af F) F AB v aj|11=>EP t (c.B.toNat*((A6.sl AB)).sz+0) v|_=>False) [[],[],[(1,54)],[],[],[(4,57)],[(3,56),(5,58)],[(6,59)],[],[(8,61)],[(7,60),(9,62)],[(0,53),(2,55)]] [(10,63),(11,64)] mo (by kernel_rfl) [12,33,32,8,2,1,9,34] O (by kernel_rfl) (by kernel_rfl) (by kernel_rfl) (kp [12,33,32,8,2,1,9,34] O) MO ?_ ?_
     ·refine AV.cons O ET (AV.cons O ET (AV.cons O ET (AV.cons O ET (AV.cons O ET (AV.cons O ET (AV.cons O ?_ ?_))))))
      ·intro mq F o;intro ec co ed cp;have C:=o.st j;cases co;obtain⟨rfl,ee⟩:=cp;refine AU ?_;refine BT C (mt (mt mh)) O O IP.1 bf O λef bj=>AU ?_;exact BC bj
      refine AV.cons O ?_ ?_
      ·intro mq F o;intro eg cq;have C:=o.st j;refine AU ?_;have cr:=C.epAt (mt (mt mh)) bg Ff.id cq;refine I9 K9 (λ_ x=>x) O cr Hc.1 O λeh ct=>AU ?_;exact BC ct
      refine AV.cons O ET (AV.cons O ?_ ?_)
      ·intro mq F o;intro ei cu;have C:=o.st j;cases cu;refine AU ?_;have cv:=cm.nw;exact BC cv
      refine AV.cons O ?_ ?_
      ·intro mq F o;intro cw W cx X;have C:=SN.st j o;have W:=Sl.sn af W;have W:Sl _ _ AB cw a5:=W;have X:=Sl.sn af X;have X:Sl _ _ AB cx c.K:=X;have D:=C.fz;refine GV O O O dZ O D (Ny (St.all _) (W.mono D.ea.1 D.ea.2) (X.mono D.ea.1 D.ea.2) bh) λej ek el d6 em cy p=>?_;have bk:=p;have ak:=D.join cy bk ⟨OS.flat (λ{_ _ _ _ _ _} k=>k),trivial⟩;simp only[Aa4,Aav] at ak;obtain⟨en,bl,eo,cz⟩:=ak.pubs .head;have am:=Fz.done o EX bl;exact BB am.1 (Sl.mono' cz am.2)
      refine AV.cons O ?_ ?_
      ·intro mq F o;intro ep c0 eq c1;have C:=o.st j;cases c0;obtain⟨rfl,er⟩:=c1;refine AU ?_;refine BT C (mt (mt mh)) O O IP.1 bi O λes bm=>AU ?_;exact BC bm
      exact trivial
     intro eu c2 c3 an ev c4;have bn:=SN.st j c2;have an:Sl _ _ AB c3 aj:=an;obtain⟨c5,bo,E⟩:=bd E;refine FK (r:=(A6.sl AB)) (l:=ac) (i:=c.B) (x:=c5) O O (Pg an) c4 bo Nh.id Hc.1 (λ_=>rfl) bn (.tail (.tail .head)) λew bp ey=>AU ?_;refine WF.nil (λG H s y=>?_);have bq:=bp.sel [1,1] 1 O;exact⟨Q,ab,(upd ac c.B aj),_,_,s.sub (kp [33,32,8,2,1,34,9] O),y,bq,EX,E⟩
    obtain⟨g,br,E⟩:=bd E;refine OJ (m:=[(12,vP V 0),(33,vI (↑u.length:Int)),(32,d),(8,t),(2,vI y1),(1,vI b),(9,Q),(34,vI M)]) 10 (λi v F=>match i with|0=>v=Q|1=>v=vP V 0|2=>v=vI c.Ao∧AA c.Ao|3=>v=vP V 1|4=>v=vI c.B∧AA c.B|5=>v=vP V 2|6=>Sl U F AB v c.K|7=>Sl (SN U af F) F AB v g|8=>Rd (SN U af F) F AZ v ({ c with K:=g}:AO)|9=>Sl (SN U af F) F AZ v ([({ c with K:=g}:AO)]:List AO)∧∃ad,v= .slice (some ad) 1 1|_=>False) [[],[],[(1,66)],[],[(3,68)],[],[(5,70)],[(6,71)],[(2,67),(4,69),(7,72)],[(8,73)]] [(0,65),(9,74)] mo (by kernel_rfl) [12,33,32,8,2,1,9,34] O (by kernel_rfl) (by kernel_rfl) (by kernel_rfl) (kp [12,33,32,8,2,1,9,34] O) MO ?_ ?_
    ·refine AV.cons O ET (AV.cons O ET (AV.cons O ET (AV.cons O ET (AV.cons O ET (AV.cons O ET (AV.cons O ?_ ?_))))))
     ·intro mq F o;intro ez c6;have C:=o.st j;cases c6;refine AU ?_;have c7:=cm.nw;exact BC c7
     refine AV.cons O ?_ ?_
     ·intro mq F o;intro c8 Y;have C:=SN.st j o;have Y:=Sl.sn af Y;have Y:Sl _ _ AB c8 c.K:=Y;have D:=C.fz;refine GV O O O QO O D (Di (St.all _) (Y.mono D.ea.1 D.ea.2) br) λe0 e1 e2 d7 e3 c9 p=>?_;have bs:=p;have ao:=D.join c9 bs ⟨OS.flat (λ{_ _ _ _ _ _} k=>k),trivial⟩;simp only[Aa4,Aav] at ao;obtain⟨e4,bt,e5,da⟩:=ao.pubs .head;have ap:=Fz.done o EX bt;exact BB ap.1 (Sl.mono' da ap.2)
     refine AV.cons O ?_ ?_
     ·intro mq F o;intro e7 db e8 dc dd ah;have C:=SN.st j o;obtain⟨rfl,de⟩:=db;obtain⟨rfl,df⟩:=dc;have ah:Sl _ _ AB dd g:=ah;refine AU ?_;obtain⟨bu,az,rfl,e9⟩:=(ah).len;refine FV (cs:=[vI c.Ao,vI c.B,(.slice bu g.length az)]) Ww O O O (AU ?_);exact BC (AZ.mk (x:=({ c with K:=g}:AO)) de df ah)
     refine AV.cons O ?_ ?_
     ·intro mq F o;intro dg aq;have C:=SN.st j o;have aq:Rd _ _ AZ dg ({ c with K:=g}:AO):=aq;have D:=C.fz;obtain⟨fa,rfl,dh,di,a6⟩:=AZ.ex aq;obtain⟨bv,a0,rfl,fb⟩:=(a6).len;refine Ez (cs:=[vI (({ c with K:=g}:AO).Ao),vI (({ c with K:=g}:AO).B),(.slice bv (({ c with K:=g}:AO).K).length a0)]) R6 O O O O O O O D λfc fd bw dj=>?_;have dk:=a6.mono' dj;have bx:=bw.bxos (r:=AZ) (l:=([({ c with K:=g}:AO)]:List AO)) .head ⟨_,_,O,⟨_,O,dh,di,dk⟩,O⟩ (by simp [maxLen]);obtain⟨fe,bz,ff,dl⟩:=bx.pubs .head;have ar:=Fz.done o EX bz;exact BB ar.1 ⟨Sl.mono' dl ar.2,_,O⟩
     exact trivial
    intro fg dm fh dn fi au;have b0:=SN.st j dm;cases dn;obtain⟨au,d8,rfl⟩:=au;obtain⟨b1,E⟩:=KM E;refine KO (r:=AZ) (l:=ab) (xs:=([({ c with K:=g}:AO)]:List AO)) O O R6 O (Sl.src au) O b1 O b0 (λ_=>(.tail .head)) λdp fj b2 fk=>AU ?_;refine WF.nil (λG H s y=>?_);have b3:=b2.sel [1,1] 1 O;exact⟨dp,(ab++([({ c with K:=g}:AO)]:List AO)),ac,_,_,s.sub (kp [33,32,8,2,1,34,9] O),y,b3,EX,E⟩
   rintro G H ⟨aw,ax,ay,fl,fm,s,y,b4,fn,E⟩;refine AK ?_ s y;clear s y H G;rw[Jc] at E;refine AU ?_;refine WF.nil (λG H s y=>?_);exact⟨aw,ax,(A9 (M+1)),ay,_,_,s.sub (kp [33,32,8,2,1,9,34] O),y,b4,EX,(BF _),E⟩
  refine A8 O (λG H s y=>?_);exact⟨Q,ab,ac,_,_,s.sub (kp [8,9] O),y,a4,ck,E⟩
 rintro G H ⟨bb,bc,be,fo,fp,s,y,b5,fq,E⟩;refine AK ?_ s y;clear s y H G;rw[H1] at E;refine AU ?_;refine B0 (λG H s y=>?_);have b6:=b5.sel [1,0] 0 O;cases E;exact JC s O y (G4 (IC s (v:=_) O) (G4 (IC s (v:=_) O) JB)) O EX ⟨_,_,O,b6⟩
def SI (hs:St S L h) {c:Value}{n:BL}(l:Rd S h B7 c n) {d:Value}{b:AQ}(m:Rd S h BJ d b) {k:Int}(K:AA k) {r:AQ}(E:HG N n b k=some r):
 B6 prog 163 #[c,d,vI k] S h (λv S' h'=>v= .agg #[vI r.V,vI r.X,.bool r.Au,.bool r.Am]∧AQ.ok r∧St S' (L) h'):=by
 refine A7 24 func163 O ntmps163 O λB=>?_;rw[HG] at E;refine AU ?_;refine Bz O l CE O hs λq1 S2 h3 M e5 k6=>?_;have k7:=m.mono e5;obtain⟨rfl,⟨r9,u⟩⟩:=BJ.ex k7;refine PQ O O O M λx ab y ac=>CP P7 O y λz A g ad=>?_;have ae:=k6.nw;refine AU ?_;refine AG O E (λQ E=>?_) (λQ E=>?_)
 ·refine AU ?_;refine C0 O O O O Hh.1 O g .head O λaf C ag=>AU ?_;refine B0 (λs t i j=>?_);have o:=C.drop (.tail .head);have D:=o.drop .head;cases E;exact JC i O j (G4 (Uk i j o O mh Hh.1 O) JB) O EX ⟨O,⟨r9,u⟩,D⟩
 refine AU ?_;refine AN (λa w=>∃(q:Bool),IV B S2 A (24,[]) a w [(6,vP z 0),(4,vP x 0)] (Bx z 106 [vI 0,vI 0,.bool false,.bool false]::Bx x 106 [vI b.V,vI b.X,.bool b.Au,.bool q]::L) λ_ _=>Ik N b q=some r) ?_ ?_
 ·refine AU ?_;refine AG O E (λU E=>?_) (λU E=>?_)
  ·refine AU ?_;refine Ey (cs':=[vI b.V,vI b.X,.bool b.Au,.bool true]) O O O O Qc.1 O g (.tail .head) O O λah F W=>AU ?_;refine WF.nil (λs t i j=>?_);exact⟨true,_,_,i.sub (kp [6,4] O),j,F,W,E⟩
  refine AU ?_;refine AG O E (λY E=>?_) (λY E=>?_)
  ·refine AU ?_;refine Ey (cs':=[vI b.V,vI b.X,.bool b.Au,.bool false]) O O O O Qc.1 O g (.tail .head) O O λai G Z=>AU ?_;refine WF.nil (λs t i j=>?_);exact⟨false,_,_,i.sub (kp [6,4] O),j,G,Z,E⟩
  refine AU ?_;refine WF.nil (λs t i j=>?_);exact⟨b.Am,_,_,i.sub (kp [6,4] O),j,g,(CG.refl S2 A),E⟩
 rintro s t ⟨q,aj,ak,i,j,H,am,E⟩;refine AK ?_ i j;clear i j t s;rw[Ik] at E;refine AU ?_;refine C0 O O O O Hh.1 O H .head O λan I ao=>AU ?_;refine B0 (λs t i j=>?_);have p:=I.drop (.tail .head);have J:=p.drop .head;cases E;exact JC i O j (G4 (Uk i j p O mh Hh.1 O) JB) O EX ⟨O,⟨r9,u⟩,J⟩
def Nu {c:Nat}{p0_w:AL}{am:Value}{an:Value}{af:Value}{ao:Value}{ap:Value}{aq:Value}{ar:Value}{au:Value}{ag:Value}{ah:Value}{ai:Value}{aj:Value}{ak:Value}{d:Value}{g:Value}{a2:Value}{ab:Value}{t:Value}{u:Value}{y:Value}{ac:Value}{z:Value}(hs:St S (Bx c 160 [.string p0_w.b.J,am,vI p0_w.b.P,an,af,ao,ap,aq,ar,au,vI p0_w.b.S,ag,ah,ai,aj,ak,vI p0_w.s.C,d,g,a2,ab,t,u,y,ac,z]::OO AB 3 29 d p0_w.s.E::OS AB 3 g p0_w.s.M::OS BJ 106 ab p0_w.s.O::OS AB 3 t p0_w.s.N::OS AB 3 u p0_w.s.L::OS BO 74 y p0_w.moves::OS AB 3 ac p0_w.peaks::OS AZ 121 z p0_w.sent::L) h) (fm:p0_w.b.J.size≤maxLen) (br:Sl S h A6.str am p0_w.b.I) (fn:AA p0_w.b.P) (a6:Sl S h CJ an p0_w.b.A) (bs:Sl S h B7 af p0_w.b.F) (fo:Sl S h HO ao p0_w.b.Ab) (fp:Sl S h Eh ap p0_w.b.Ae) (fq:Sl S h Gy aq p0_w.b.Af) (fr:Sl S h DD ar p0_w.b.Ai) (fs:Sl S h AB au p0_w.b.Al) (c5:AA p0_w.b.S) (c6:Sl S h AB ag p0_w.in_.Aa) (c7:Sl S h Gm ah p0_w.in_.Ah) (c8:Sl S h Jy ai p0_w.in_.Aj) (c9:Sl S h Gl aj p0_w.in_.Z) (da:Sl S h Ha ak p0_w.in_.Aq) (bg:AA p0_w.s.C) (bh:Sl S h AZ a2 p0_w.s.H) {r:(List (List Int))×(List AO)×(List AQ)×(List Int)}(E:El N p0_w=some r):
 B6 prog 82 #[vP c 0] S h (λv S' h'=>∃bl bm bn bo:Value,v= .tuple #[]∧St S' (Bx c 160 [.string p0_w.b.J,am,vI p0_w.b.P,an,af,ao,ap,aq,ar,au,vI p0_w.b.S,ag,ah,ai,aj,ak,vI p0_w.s.C,bl,g,bm,bn,t,u,y,bo,z]::OS (A6.sl AB) 29 bl r.1::OS AB 3 g p0_w.s.M::OS AZ 121 bm r.2.1::OS BJ 106 bn r.2.2.1::OS AB 3 t p0_w.s.N::OS AB 3 u p0_w.s.L::OS BO 74 y p0_w.moves::OS AB 3 bo r.2.2.2::OS AZ 121 z p0_w.sent::L) h'):=by
 refine A7 (l:=[vP c 0]) 123 func82 O ntmps82 O λB=>?_;rw[El] at E;have hv:=hs.pick (.tail .head);obtain⟨S2,ae,e4⟩:=hv.ooPub;refine AU ?_;obtain⟨ax,ft,E⟩:=bd E;refine VG (m:=[(0,vP c 0)]) [] [] [(23,[22]),(24,[23]),(25,[23]),(26,[24]),(27,[25])] (by kernel_rfl) (λgv X F i v hh=>match i with|0=>v=vP c 0|1=>v=vP c 0|2=>v=vP c 16|3=>v=vP c 19|4=>Sl S2 hh AZ v p0_w.s.H|5=>v=vP c 0|6=>v=vP c 0|7=>v=vP c 16|8=>v=vP c 16|9=>v=vI p0_w.s.C∧AA p0_w.s.C|10=>v=vP c 0|11=>v=vP c 0|12=>v=vP c 0|13=>v=vP c 3|14=>Sl S2 hh CJ v p0_w.b.A|15=>v=vI (↑p0_w.b.A.length:Int)∧AA (↑p0_w.b.A.length:Int)|16=>v=vP c 0|17=>v=vP c 0|18=>v=vP c 0|19=>v=vP c 1|20=>Sl S2 hh A6.str v p0_w.b.I|21=>v=vI (↑p0_w.b.I.length:Int)∧AA (↑p0_w.b.I.length:Int)|22=>∃w0 w1:Value,v= .tuple #[w0,w1]∧OW S2 h X F [OS (A6.sl AB) 29 w0 ax.1,OS AZ 121 w1 ax.2] hh|23=>v=gv 22∧∃w0 w1:Value,v= .tuple #[w0,w1]|24=>v=lL (gv 23) 0|25=>v=lL (gv 23) 1|26=>v=gv 24|27=>v=gv 25|_=>False) [[],[(0,8)],[(1,9)],[(2,10)],[(3,11)],[],[(5,13)],[(6,14)],[(7,15)],[(8,16)],[],[(10,18)],[(11,19)],[(12,20)],[(13,21)],[(14,22)],[],[(16,24)],[(17,25)],[(18,26)],[(19,27)],[(20,28)],[(4,12),(9,17),(15,23),(21,29)],[(22,30)],[(23,7)],[(23,7)],[(24,31)],[(25,32)]] [(22,30),(23,7),(24,31),(25,32),(26,2),(27,3)] mo (by kernel_rfl) [0] O (by kernel_rfl) (by kernel_rfl) (by kernel_rfl) O (kp [0] O) (λgv i v h1 h2 X X' F o1 o2 hF u1 u2 V=>?_) (λgv lz X F i v h1 hz V=>?_) ?_ ?_ ?_
 ·match i,V with
   |0,V|1,V|2,V|3,V|5,V|6,V|7,V|8,V|9,V|10,V|11,V|12,V|13,V|15,V|16,V|17,V|18,V|19,V|21,V|23,V|24,V|25,V|26,V|27,V=>exact V
   |4,V|14,V|20,V=>exact Sl.mono' V (o2.ext λb hb=>Aak (ae.1 b hb) o1.siz)
   |22,V=>obtain⟨w0,w1,ev,q⟩:=V;exact⟨w0,w1,ev,OW.mono ae.1 o1 o2 hF u1 u2 q⟩
   |_+28,V=>exact V.elim
 ·match i,V with
   |0,V|1,V|2,V|3,V|4,V|5,V|6,V|7,V|8,V|9,V|10,V|11,V|12,V|13,V|14,V|15,V|16,V|17,V|18,V|19,V|20,V|21,V|22,V=>exact V
   |23,V=>rw[hz _ Aax O 22 (by decide)] at V;exact V
   |24,V=>rw[hz _ (Aa1 _ Aax) O 23 (by decide)] at V;exact V
   |25,V=>rw[hz _ (Aa1 _ (Aa1 _ Aax)) O 23 (by decide)] at V;exact V
   |26,V=>rw[hz _ (Aa1 _ (Aa1 _ (Aa1 _ Aax))) O 24 (by decide)] at V;exact V
   |27,V=>rw[hz _ (Aa1 _ (Aa1 _ (Aa1 _ (Aa1 _ Aax)))) O 25 (by decide)] at V;exact V
   |_+28,V=>exact V.elim
 ·exact trivial
 ·refine Cb.cons O O ?_ ?_
  ·intro gv X mq hh o hX;have K:=o.st ae;refine AU ?_;exact BB (DT.refl _) O
  refine Cb.cons O O ?_ ?_
  ·intro gv X mq hh o hX;have K:=o.st ae;intro l0 db;obtain⟨ij,_,_,db⟩:=db;cases db;refine AU ?_;exact BB (DT.refl _) O
  refine Cb.cons O O ?_ ?_
  ·intro gv X mq hh o hX;have K:=o.st ae;intro l1 dc;obtain⟨ik,_,_,dc⟩:=dc;cases dc;refine AU ?_;exact BB (DT.refl _) O
  refine Cb.cons O O ?_ ?_
  ·intro gv X mq hh o hX;have K:=o.st ae;intro l2 dd;obtain⟨il,_,_,dd⟩:=dd;cases dd;refine AU ?_;exact BB (DT.refl _) O
  refine Cb.cons O O ?_ ?_
  ·intro gv X mq hh o hX;have K:=o.st ae;intro l3 de;obtain⟨im,_,_,de⟩:=de;cases de;refine AU ?_;have hx:=bh.mono' (e4.trans (o.ext ae.1));exact BB (DT.refl _) hx
  refine Cb.cons O O ?_ ?_
  ·intro gv X mq hh o hX;have K:=o.st ae;refine AU ?_;exact BB (DT.refl _) O
  refine Cb.cons O O ?_ ?_
  ·intro gv X mq hh o hX;have K:=o.st ae;intro l4 df;obtain⟨io,_,_,df⟩:=df;cases df;refine AU ?_;exact BB (DT.refl _) O
  refine Cb.cons O O ?_ ?_
  ·intro gv X mq hh o hX;have K:=o.st ae;intro l5 dg;obtain⟨ip,_,_,dg⟩:=dg;cases dg;refine AU ?_;exact BB (DT.refl _) O
  refine Cb.cons O O ?_ ?_
  ·intro gv X mq hh o hX;have K:=o.st ae;intro l6 dh;obtain⟨ir,_,_,dh⟩:=dh;cases dh;refine AU ?_;exact BB (DT.refl _) O
  refine Cb.cons O O ?_ ?_
  ·intro gv X mq hh o hX;have K:=o.st ae;intro l7 di;obtain⟨it,_,_,di⟩:=di;cases di;refine AU ?_;exact BB (DT.refl _) ⟨O,bg⟩
  refine Cb.cons O O ?_ ?_
  ·intro gv X mq hh o hX;have K:=o.st ae;refine AU ?_;exact BB (DT.refl _) O
  refine Cb.cons O O ?_ ?_
  ·intro gv X mq hh o hX;have K:=o.st ae;intro l8 dj;obtain⟨iu,_,_,dj⟩:=dj;cases dj;refine AU ?_;exact BB (DT.refl _) O
  refine Cb.cons O O ?_ ?_
  ·intro gv X mq hh o hX;have K:=o.st ae;intro l9 dk;obtain⟨iv,_,_,dk⟩:=dk;cases dk;refine AU ?_;exact BB (DT.refl _) O
  refine Cb.cons O O ?_ ?_
  ·intro gv X mq hh o hX;have K:=o.st ae;intro ma dl;obtain⟨iw,_,_,dl⟩:=dl;cases dl;refine AU ?_;exact BB (DT.refl _) O
  refine Cb.cons O O ?_ ?_
  ·intro gv X mq hh o hX;have K:=o.st ae;intro mb dm;obtain⟨iy,_,_,dm⟩:=dm;cases dm;refine AU ?_;have hy:=a6.mono' (e4.trans (o.ext ae.1));exact BB (DT.refl _) hy
  refine Cb.cons O O ?_ ?_
  ·intro gv X mq hh o hX;have K:=o.st ae;intro h0 bu;obtain⟨iz,_,_,bu⟩:=bu;have bu:Sl _ _ CJ h0 p0_w.b.A:=bu;have h3:=bu.le;refine AU ?_;exact BB (DT.refl _) ⟨O,(KU h3)⟩
  refine Cb.cons O O ?_ ?_
  ·intro gv X mq hh o hX;have K:=o.st ae;refine AU ?_;exact BB (DT.refl _) O
  refine Cb.cons O O ?_ ?_
  ·intro gv X mq hh o hX;have K:=o.st ae;intro mc dn;obtain⟨i0,_,_,dn⟩:=dn;cases dn;refine AU ?_;exact BB (DT.refl _) O
  refine Cb.cons O O ?_ ?_
  ·intro gv X mq hh o hX;have K:=o.st ae;intro md dp;obtain⟨i1,_,_,dp⟩:=dp;cases dp;refine AU ?_;exact BB (DT.refl _) O
  refine Cb.cons O O ?_ ?_
  ·intro gv X mq hh o hX;have K:=o.st ae;intro me dq;obtain⟨i2,_,_,dq⟩:=dq;cases dq;refine AU ?_;exact BB (DT.refl _) O
  refine Cb.cons O O ?_ ?_
  ·intro gv X mq hh o hX;have K:=o.st ae;intro mf dr;obtain⟨i3,_,_,dr⟩:=dr;cases dr;refine AU ?_;have h4:=br.mono' (e4.trans (o.ext ae.1));exact BB (DT.refl _) h4
  refine Cb.cons O O ?_ ?_
  ·intro gv X mq hh o hX;have K:=o.st ae;intro h5 bv;obtain⟨i4,_,_,bv⟩:=bv;have bv:Sl _ _ A6.str h5 p0_w.b.I:=bv;have h6:=bv.le;refine AU ?_;exact BB (DT.refl _) ⟨O,(KU h6)⟩
  refine PK O O ?_ ?_
  ·intro gv X mq hh o hX;have K:=SX.fz (X:=X) ae o;intro h7 bi mg ds mi dt mj du;obtain⟨i5,_,_,bi⟩:=bi;have bi:=Sl.mono' (S':=(SX S2 h hh X)) bi ⟨λb hb=>(SX.ext ae.1 o hX).sub b hb,λ_ _=>rfl,Aal _⟩;have bi:Sl _ _ AZ h7 p0_w.s.H:=bi;obtain⟨i6,_,_,ds⟩:=ds;obtain⟨rfl,h8⟩:=ds;obtain⟨i7,_,_,dt⟩:=dt;obtain⟨rfl,h9⟩:=dt;obtain⟨i8,_,_,du⟩:=du;obtain⟨rfl,ia⟩:=du;refine Ed O O O rI O (Tn K bi h8 h9 ia ft) λml mm mn ib p=>?_;obtain⟨mp,mr,rfl,dv⟩:=p;have ic:=dv.pick (.tail (.tail .head));obtain⟨fu,dw,fv,i9,fw⟩:=OW.done ae.1 o hX ib ic;exact BB fv ⟨fu,dw,⟨_,_,O,fw⟩⟩
  refine Cb.cons O O ?_ ?_
  ·intro gv X mq hh o hX;have K:=o.st ae;intro ja bw;obtain⟨dx,_,_,bw⟩:=bw;obtain⟨jb,jc,rfl,jd⟩:=bw;refine AU ?_;exact BB (DT.refl _) ⟨dx,_,_,O⟩
  refine Cb.cons O O ?_ ?_
  ·intro gv X mq hh o hX;have K:=o.st ae;intro je bx;obtain⟨dy,_,_,bx⟩:=bx;obtain⟨_,jf,jg,rfl⟩:=bx;refine AU ?_;exact BB (DT.refl _) (by rw[←dy];rfl)
  refine Cb.cons O O ?_ ?_
  ·intro gv X mq hh o hX;have K:=o.st ae;intro jh bz;obtain⟨dz,_,_,bz⟩:=bz;obtain⟨_,ji,jj,rfl⟩:=bz;refine AU ?_;exact BB (DT.refl _) (by rw[←dz];rfl)
  refine Cb.cons O O ?_ ?_
  ·intro gv X mq hh o hX;have K:=o.st ae;intro jk cl;obtain⟨d0,_,_,cl⟩:=cl;refine AU ?_;exact BB (DT.refl _) d0
  refine Cb.cons O O ?_ ?_
  ·intro gv X mq hh o hX;have K:=o.st ae;intro jl cm;obtain⟨d1,_,_,cm⟩:=cm;refine AU ?_;exact BB (DT.refl _) d1
  exact trivial
 intro b0 bj ie bp bb d2 jm b1 cn b2 co b3 cp b4 cq b5 cr b6;obtain⟨d3,b1⟩:=b1;obtain⟨b7,b2⟩:=b2;obtain⟨d4,b3⟩:=b3;obtain⟨d5,b4⟩:=b4;obtain⟨ig,b5⟩:=b5;obtain⟨ih,b6⟩:=b6;obtain⟨a0,a7,rfl,fx⟩:=b1;have bk:=(Xd.cons (Xd.nil ae bp bb) d2 (j:=22) O fx).st;simp only[Aa4,Aav] at bk;obtain rfl: .tuple #[a0,a7]=cn:=((by rw[b2.1,←d3];try rfl:cn= .tuple #[a0,a7])).symm;obtain rfl:a0=co:=((by rw[b3,←b7];try rfl:co=a0)).symm;obtain rfl:a7=cp:=((by rw[b4,←b7];try rfl:cp=a7)).symm;obtain rfl:a0=cq:=((by rw[b5,←d4];try rfl:cq=a0)).symm;obtain rfl:a7=cr:=((by rw[b6,←d5];try rfl:cr=a7)).symm;refine AU ?_;obtain⟨ay,aw,rfl,jn⟩:=bk.oslen (mt mh);refine Ey (vs:=[(.slice ay ax.2.length aw)]) (cs':=[.string p0_w.b.J,am,vI p0_w.b.P,an,af,ao,ap,aq,ar,au,vI p0_w.b.S,ag,ah,ai,aj,ak,vI p0_w.s.C,d,g,(.slice ay ax.2.length aw),ab,t,u,y,ac,z]) O O O O Xi.1 O bk (.tail (.tail (.tail .head))) O O λb8 d6 b9=>?_;have d7:=e4.trans ((SX.ext ae.1 bp (gQ bb)).trans b9);have jo:=a6.mono' d7;refine AU ?_;refine AN (λa w=>∃(a3:List (List Int)) (a4:List Int),IV B (SX S2 h b0 (UX bj)) b8 (123,[]) a w [(0,vP c 0)] (OS AZ 121 (.slice ay ax.2.length aw) ax.2::OS (A6.sl AB) 29 d a3::Bx c 160 [.string p0_w.b.J,am,vI p0_w.b.P,an,af,ao,ap,aq,ar,au,vI p0_w.b.S,ag,ah,ai,aj,ak,vI p0_w.s.C,d,g,(.slice ay ax.2.length aw),ab,t,u,y,ac,z]::OS AB 3 g p0_w.s.M::OS BJ 106 ab p0_w.s.O::OS AB 3 t p0_w.s.N::OS AB 3 u p0_w.s.L::OS BO 74 y p0_w.moves::OS AB 3 ac a4::OS AZ 121 z p0_w.sent::L) λ_ _=>Cm N p0_w ax a3 a4=some r) ?_ ?_
 ·refine AY (λn1=>λa w=>∃(av:Int) (a8:List (List Int)) (a9:List Int),IV B (SX S2 h b0 (UX bj)) b8 (123,[]) a w [(43,vI (↑p0_w.b.A.length:Int)),(2,a0),(0,vP c 0),(44,vI av)] (OS (A6.sl AB) 29 a0 ax.1::OS AZ 121 (.slice ay ax.2.length aw) ax.2::OS (A6.sl AB) 29 d a8::Bx c 160 [.string p0_w.b.J,am,vI p0_w.b.P,an,af,ao,ap,aq,ar,au,vI p0_w.b.S,ag,ah,ai,aj,ak,vI p0_w.s.C,d,g,(.slice ay ax.2.length aw),ab,t,u,y,ac,z]::OS AB 3 g p0_w.s.M::OS BJ 106 ab p0_w.s.O::OS AB 3 t p0_w.s.N::OS AB 3 u p0_w.s.L::OS BO 74 y p0_w.moves::OS AB 3 ac a9::OS AZ 121 z p0_w.sent::L) λ_ _=>AA av∧CZ N p0_w ax (Cm N p0_w ax) n1 av a8 a9=some r) N ?_ ?_ ?_
  ·intro aa ww hf hw;exact⟨0,p0_w.s.E,p0_w.peaks,_,_,hf.sub (kp [43,2,0,44] O),hw,d6,(CG.refl (SX S2 h b0 (UX bj)) b8),(iq (n:=0) O),E⟩
  ·rintro aa ww ⟨_,_,_,_,_,_,_,_,_,_,E⟩;rw[CZ] at E;cases E
  rintro n1 aa ww ⟨av,a8,a9,bc,ca,hf,hw,W,cs,cb,E⟩;refine AK ?_ hf hw;clear hf hw ww aa;rw[CZ] at E;refine AU ?_;refine AG O E (λfy E=>?_) (λfy E=>?_)
  ·refine AU ?_;refine A3 (AU ?_);refine TZ (kp [4,43,2,0,44] O) ?_;obtain⟨jp,d8,E⟩:=bd E;obtain⟨ct,d9,E⟩:=bd E;obtain⟨jq,ea,E⟩:=bd E;obtain⟨cu,eb,E⟩:=bd E;obtain⟨cc,ec,E⟩:=bd E;obtain⟨jr,ed,E⟩:=bd E;refine OJ (m:=[(4,vI av),(43,vI (↑p0_w.b.A.length:Int)),(2,a0),(0,vP c 0),(44,vI av)]) 20 (λi v hh=>match i with|0=>v=vP c 0|1=>v=vP c 0|2=>v=vP c 16|3=>v=vP c 17|4=>v=d|5=>v=vI av∧AA av|6=>v=vP c 0|7=>v=vP c 0|8=>v=vP c 16|9=>v=vP c 17|10=>v=d|11=>v=vI av∧AA av|12=>EP d (av.toNat*((A6.sl AB)).sz+0) v|13=>Sl bc hh AB v ct|14=>v=a0|15=>v=vI av∧AA av|16=>EP a0 (av.toNat*((A6.sl AB)).sz+0) v|17=>Sl bc hh AB v cu|18=>Sl (SN bc ca hh) hh AB v cc|19=>EP d (av.toNat*((A6.sl AB)).sz+0) v|_=>False) [[],[(0,47)],[(1,48)],[(2,49)],[(3,50)],[],[],[(6,53)],[(7,54)],[(8,55)],[(9,56)],[],[(10,57),(11,58)],[(12,59)],[],[],[(14,61),(15,62)],[(16,63)],[(13,60),(17,64)],[(4,51),(5,52)]] [(18,65),(19,66)] mo (by kernel_rfl) [4,43,2,0,44] O (by kernel_rfl) (by kernel_rfl) (by kernel_rfl) (kp [4,43,2,0,44] O) (λi v h1 h2 o1 o2 V=>?_) ?_ ?_
   ·match i,V with
     |0,V|1,V|2,V|3,V|4,V|5,V|6,V|7,V|8,V|9,V|10,V|11,V|12,V|14,V|15,V|16,V|19,V=>exact V
     |13,V|17,V=>exact Sl.mono' V (o2.ext λb hb=>Aak (W.1 b hb) o1.siz)
     |18,V=>exact Sl.mono' V (SN.mono W.1 o1 o2)
     |_+20,V=>exact V.elim
   ·refine AV.cons O ?_ ?_
    ·intro mq hh o;have K:=o.st W;refine AU ?_;exact BB (DT.refl _) O
    refine AV.cons O ?_ ?_
    ·intro mq hh o;intro js f0;have K:=o.st W;cases f0;refine AU ?_;exact BB (DT.refl _) O
    refine AV.cons O ?_ ?_
    ·intro mq hh o;intro jt f1;have K:=o.st W;cases f1;refine AU ?_;exact BB (DT.refl _) O
    refine AV.cons O ?_ ?_
    ·intro mq hh o;intro ju f2;have K:=o.st W;cases f2;refine AU ?_;exact BB (DT.refl _) O
    refine AV.cons O ?_ ?_
    ·intro mq hh o;intro jv f3;have K:=o.st W;cases f3;refine AU ?_;exact BB (DT.refl _) O
    refine AV.cons O ?_ ?_
    ·intro mq hh o;have K:=o.st W;refine AU ?_;exact BB (DT.refl _) ⟨O,cb⟩
    refine AV.cons O ?_ ?_
    ·intro mq hh o;have K:=o.st W;refine AU ?_;exact BB (DT.refl _) O
    refine AV.cons O ?_ ?_
    ·intro mq hh o;intro jw f4;have K:=o.st W;cases f4;refine AU ?_;exact BB (DT.refl _) O
    refine AV.cons O ?_ ?_
    ·intro mq hh o;intro jx f5;have K:=o.st W;cases f5;refine AU ?_;exact BB (DT.refl _) O
    refine AV.cons O ?_ ?_
    ·intro mq hh o;intro jy f6;have K:=o.st W;cases f6;refine AU ?_;exact BB (DT.refl _) O
    refine AV.cons O ?_ ?_
    ·intro mq hh o;intro jz f7;have K:=o.st W;cases f7;refine AU ?_;exact BB (DT.refl _) O
    refine AV.cons O ?_ ?_
    ·intro mq hh o;have K:=o.st W;refine AU ?_;exact BB (DT.refl _) ⟨O,cb⟩
    refine AV.cons O ?_ ?_
    ·intro mq hh o;intro j0 f8 j1 f9;have K:=o.st W;cases f8;obtain⟨rfl,j2⟩:=f9;refine AU ?_;refine BT K (mt (mt mh)) O O IP.1 d8 O λj3 ee=>AU ?_;exact BB (DT.refl _) ee
    refine AV.cons O ?_ ?_
    ·intro mq hh o;intro j4 ga;have K:=o.st W;refine AU ?_;have gb:=K.epAt (mt (mt mh)) d9 Ff.id ga;refine I9 K9 (λ_ x=>x) O gb Hc.1 O λj5 gc=>AU ?_;exact BB (DT.refl _) gc
    refine AV.cons O ?_ ?_
    ·intro mq hh o;have K:=o.st W;refine AU ?_;exact BB (DT.refl _) O
    refine AV.cons O ?_ ?_
    ·intro mq hh o;have K:=o.st W;refine AU ?_;exact BB (DT.refl _) ⟨O,cb⟩
    refine AV.cons O ?_ ?_
    ·intro mq hh o;intro j6 gd j7 ge;have K:=o.st W;cases gd;obtain⟨rfl,j8⟩:=ge;refine AU ?_;refine BT K mh O O IP.1 ea O λj9 ef=>AU ?_;exact BB (DT.refl _) ef
    refine AV.cons O ?_ ?_
    ·intro mq hh o;intro ka gf;have K:=o.st W;refine AU ?_;have gg:=K.epAt mh eb Ff.id gf;refine I9 K9 (λ_ x=>x) O gg Hc.1 O λkb gh=>AU ?_;exact BB (DT.refl _) gh
    refine AV.cons O ?_ ?_
    ·intro mq hh o;intro gi be gj bf;have K:=SN.st W o;have be:=Sl.mono' (S':=(SN bc ca hh)) be ⟨λb hb=> .inl hb,λ_ _=>rfl,Aal _⟩;have be:Sl _ _ AB gi ct:=be;have bf:=Sl.mono' (S':=(SN bc ca hh)) bf ⟨λb hb=> .inl hb,λ_ _=>rfl,Aal _⟩;have bf:Sl _ _ AB gj cu:=bf;have ck:=K.fz;refine GV O O O dZ O ck (Ny (St.all _) (be.mono (λb hb=>ck.1 b hb) (λ_ _=>rfl)) (bf.mono (λb hb=>ck.1 b hb) (λ_ _=>rfl)) ec) λkc kd ke ii gl gm p=>?_;have eg:=p;have cd:=ck.join gm eg ⟨OS.flat (λ{_ _ _ _ _ _} k=>k),trivial⟩;simp only[Aa4,Aav] at cd;obtain⟨kf,eh,gn,gp⟩:=cd.pubs .head;have ce:=Fz.done o (gl.trans gn) eh;exact BB ce.1 (Sl.mono' gp ce.2)
    refine AV.cons O ?_ ?_
    ·intro mq hh o;intro kg gq kh gr;have K:=o.st W;cases gq;obtain⟨rfl,ki⟩:=gr;refine AU ?_;refine BT K (mt (mt mh)) O O IP.1 ed O λkj ei=>AU ?_;exact BB (DT.refl _) ei
    exact trivial
   intro kk cv gs cf kl gt;have ej:=SN.st W cv;have cf:Sl _ _ AB gs cc:=cf;obtain⟨gu,ek,E⟩:=bd E;refine FK (r:=(A6.sl AB)) (l:=a8) (i:=av) (x:=gu) O O (Pg cf) gt ek Nh.id Hc.1 (λ_=>rfl) ej (.tail (.tail .head)) λkm a5 gw=>AU ?_;refine L4 15 mo (by kernel_rfl) O a5 (AU ?_);obtain⟨kn,el,E⟩:=bd E;refine BT a5 (mt (mt mh)) O O IP.1 el O λko em=>?_;obtain⟨kr,en,E⟩:=bd E;have gx:=a5.epAt (mt (mt mh)) en Ff.id em;refine I9 Od (λ_ x=>x) O gx Hc.1 O λks gy=>?_;obtain⟨cw,eo,E⟩:=bd E;refine PN O O O L9 O (λh' o=>C1 (St.all h') (gy.mono' (o.all a5.1)) eo) λgz=>?_;have g0:=gz;obtain⟨kt,ep,E⟩:=bd E;refine BT a5 (mt (mt (mt (mt (mt (mt (mt (mt (mt mh))))))))) O O Ce.1 ep O λku eq=>KN λkv er g1=>?_;obtain⟨g2,es,E⟩:=bd E;refine FK (r:=AB) (l:=a9) (i:=av) (x:=g2) O O (⟨_,O,O,g0⟩:Rd _ _ AB _ cw) eq es Nh.id Gq.1 (λ_=>rfl) er (.tail (.tail (.tail (.tail (.tail (.tail (.tail (.tail (.tail .head))))))))) λkw eu g3=>AU ?_;refine BE (AU ?_);refine WF.nil (λaa ww hf hw=>?_);have ew:=cs.trans ((SN.ext W.1 cv).trans (gw.trans (g1.trans g3)));exact⟨(A9 (av+1)),(upd a8 av cc),(upd a9 av cw),_,_,hf.sub (kp [43,2,0,44] O),hw,eu,ew,(BF _),E⟩
  refine A8 O (λaa ww hf hw=>?_);have ey:=W.sel [1,1,1,1,1,1,1,1,1,1] 1 O;exact⟨a8,a9,_,_,hf.sub (kp [0] O),hw,ey,cs,E⟩
 rintro aa ww ⟨a3,a4,cx,cy,hf,hw,ez,cz,E⟩;refine AK ?_ hf hw;clear hf hw ww aa;rw[Cm] at E;have e0:=e4.trans ((SX.ext ae.1 bp (gQ bb)).trans (b9.trans cz));have g4:=bs.mono' e0;refine AU ?_;refine A3 (AY (λn2=>λa w=>∃(a1:Int) (ba:List AQ),IV B cx cy (123,[]) a w [(88,vI (↑p0_w.b.F.length:Int)),(87,af),(0,vP c 0),(89,vI a1)] (OS AZ 121 (.slice ay ax.2.length aw) ax.2::OS (A6.sl AB) 29 d a3::Bx c 160 [.string p0_w.b.J,am,vI p0_w.b.P,an,af,ao,ap,aq,ar,au,vI p0_w.b.S,ag,ah,ai,aj,ak,vI p0_w.s.C,d,g,(.slice ay ax.2.length aw),ab,t,u,y,ac,z]::OS AB 3 g p0_w.s.M::OS BJ 106 ab ba::OS AB 3 t p0_w.s.N::OS AB 3 u p0_w.s.L::OS BO 74 y p0_w.moves::OS AB 3 ac a4::OS AZ 121 z p0_w.sent::L) λ_ _=>AA a1∧CL N p0_w ax a3 a4 n2 a1 ba=some r) N ?_ ?_ ?_)
 ·intro aa ww hf hw;exact⟨0,p0_w.s.O,_,_,hf.sub (kp [88,87,0,89] O),hw,ez,(CG.refl cx cy),(iq (n:=0) O),E⟩
 ·rintro aa ww ⟨_,_,_,_,_,_,_,_,_,E⟩;rw[CL] at E;cases E
 rintro n2 aa ww ⟨a1,ba,g5,g6,hf,hw,cg,ch,kx,E⟩;refine AK ?_ hf hw;clear hf hw ww aa;rw[CL] at E;refine AU ?_;refine AG O E (λg7 E=>?_) (λg7 E=>?_)
 ·refine AU ?_;refine AN (λa w=>∃(bq:List AQ),IV B g5 g6 (123,[]) a w [(88,vI (↑p0_w.b.F.length:Int)),(87,af),(0,vP c 0),(89,vI a1)] (OS AZ 121 (.slice ay ax.2.length aw) ax.2::OS (A6.sl AB) 29 d a3::Bx c 160 [.string p0_w.b.J,am,vI p0_w.b.P,an,af,ao,ap,aq,ar,au,vI p0_w.b.S,ag,ah,ai,aj,ak,vI p0_w.s.C,d,g,(.slice ay ax.2.length aw),ab,t,u,y,ac,z]::OS AB 3 g p0_w.s.M::OS BJ 106 ab bq::OS AB 3 t p0_w.s.N::OS AB 3 u p0_w.s.L::OS BO 74 y p0_w.moves::OS AB 3 ac a4::OS AZ 121 z p0_w.sent::L) λ_ _=>Eg N a1 (CL N p0_w ax a3 a4 n2) bq=some r) ?_ ?_
  ·refine AU ?_;have g8:=g4.mono' ch;obtain⟨ad,e1,E⟩:=bd E;refine NM O O g8 Om.1 e1 O λky g9=>?_;obtain⟨kz,_,ha⟩:=g9.lv;refine AU ?_;refine CP Oe O cg λk0 k1 e2 ci=>AU ?_;have c0:=ha.mono ci;obtain⟨c1,c2,c3,rfl,k2,k3,k4,k5,hc,hd,he,k6,k7,k8,k9,la,lb,lc,lf,lg,lh,li⟩:=B7.ex c0;refine Tg (vs:=[.string ad.J,vI ad.G,vI ad.D,vI ad.B,c1,c2,c3,vI ad.U,vI ad.Ad,vI ad.Bc,vI ad.Bd,vI ad.Y,vI ad.T,vI ad.Ax,vI ad.Ay,vI ad.As,vI ad.An,vI ad.Q]) (cs':=[.string ad.J,vI ad.G,vI ad.D,vI ad.B,c1,c2,c3,vI ad.U,vI ad.Ad,vI ad.Bc,vI ad.Bd,vI ad.Y,vI ad.T,vI ad.Ax,vI ad.Ay,vI ad.As,vI ad.An,vI ad.Q]) O O O (CM O (CM O (CM O (CM O (CM hc.one (CM hd.one (CM he.one (CM O (CM O (CM O (CM O (CM O (CM O (CM O (CM O (CM O (CM O (CM O M8)))))))))))))))))) Oj.1 O e2 .head O O λlj az cj=>AU ?_;refine AG O E (λhg E=>?_) (λhg E=>?_)
   ·refine L4 25 mo (by kernel_rfl) O az (AU ?_);obtain⟨ll,e3,E⟩:=bd E;refine BT az (mt (mt (mt (mt (mt mh))))) O O NV.1 e3 O λlm e5=>?_;obtain⟨ln,e6,E⟩:=bd E;have hi:=az.epAt (mt (mt (mt (mt (mt mh))))) e6 Ff.id e5;refine Q7 Od (λ_ x=>x) O hi Hh.1 (λe=>by cases e) O λlo hj=>AU ?_;obtain⟨lp,e7,E⟩:=bd E;refine BT az (mt (mt (mt (mt (mt (mt (mt (mt (mt mh))))))))) O O Ce.1 e7 O λlq e8=>?_;obtain⟨lr,e9,E⟩:=bd E;have hk:=az.epAt (mt (mt (mt (mt (mt (mt (mt (mt (mt mh))))))))) e9 Ff.id e8;refine FU Od (λ_ x=>x) O hk Gq.1 O λhl=>?_;have bt:=c0.mono cj;obtain⟨c4,fa,E⟩:=bd E;refine PN O O O rH O (λh' o=>SI (St.all h') (bt.mono (o.all az.1)) (hj.mono (o.all az.1)) hl fa) λhm=>?_;obtain⟨hn,ho⟩:=hm;obtain⟨ls,fb,E⟩:=bd E;refine BT az (mt (mt (mt (mt (mt mh))))) O O NV.1 fb O λlt fc=>KN λlu fd hp=>?_;obtain⟨hq,fe,E⟩:=bd E;refine FK (r:=BJ) (l:=ba) (i:=a1) (x:=hq) O O (BJ.mk (x:=c4) ⟨hn,ho⟩) fc fe Nh.id Hh.1 (λe=>by cases e) fd (.tail (.tail (.tail (.tail (.tail .head))))) λlw ff ht=>AU ?_;refine WF.nil (λaa ww hf hw=>?_);have fg:=ff.sel [1,1,1,1,1,1,1,1,1,1] 1 O;have fh:=ci.trans (cj.trans (hp.trans ht));exact⟨(upd ba a1 c4),_,_,hf.sub (kp [88,87,0,89] O),hw,fg,fh,E⟩
   refine AU ?_;refine WF.nil (λaa ww hf hw=>?_);have fi:=az.sel [1,1,1,1,1,1,1,1,1,1] 1 O;exact⟨ba,_,_,hf.sub (kp [88,87,0,89] O),hw,fi,(ci.trans cj),E⟩
  rintro aa ww ⟨bq,lx,ly,hf,hw,fj,hu,E⟩;refine AK ?_ hf hw;clear hf hw ww aa;rw[Eg] at E;refine AU ?_;refine WF.nil (λaa ww hf hw=>?_);exact⟨(A9 (a1+1)),bq,_,_,hf.sub (kp [88,87,0,89] O),hw,fj,(ch.trans hu),(BF _),E⟩
 refine KH O (WF.nil (λaa ww hf hw=>?_));have fk:=cg.sel [2,1,1,0,0,0,0,0,0,0] 0 O;cases E;have fl:=e4.trans ((SX.ext ae.1 bp (gQ bb)).trans (b9.trans (cz.trans ch)));exact JC hf O hw JB O fl ⟨_,_,_,_,O,fk⟩
end Go.Proofs.YtedgiljmffngoaaGreat
