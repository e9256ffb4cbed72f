import Derived.Test.YtblcgjadhemlbaaGreatQWalk14
namespace Go.Proofs.YtblcgjadhemlbaaGreat
open Go.RowKit
set_option linter.unusedVariables false
set_option linter.unusedSimpArgs false
set_option maxRecDepth 10000
set_option maxHeartbeats 2000000
variable {N:Nat}{S:Nat→Prop}{L:List HP}{h:Aq}
theorem Mc (hs:St S L h) {g:Value}{b:AZ}(n:Rd S h B0 g b) {i:Value}{j:Al}(o:Rd S h CL i j) {d:Value}{a:Ca}(k:Rd S h FV d a) {r:Bool}(E:Hv N b j a=some r):
 CG Tryz.prog 28 #[g,i,d] S h (λv S' h'=>v= .bool r∧St S' (L) h'):=by
 refine BC (l:=[g,i,d]) 57 Tryz.func28 O Tryz.ntmps28 O λB=>?_
 rw[Hv] at E
 refine AA (Am (B1 O n (λe=>by cases e) O hs λq1 S2 h3 A z k6=>?_))
 have k7:=o.mono z
 refine B1 O k7 (λe=>by cases e) O A λq8 S9 ag w p C=>?_
 have D:=k.mono (z.trans p)
 refine B1 O D (λe=>by cases e) O w λah ai aj c s m=>AJ 1 (AF O O (AE (AX (kp [5,4,3] O) (AA (AA (AG (.inl O) ?_))))))
 have t:=k6.mono (p.trans s)
 refine Ac O t BS DK O λak F=>Ah A3 c.1 O F F9 O λal G=>Ag O G FA O λam=>CE O O O (AB O O (AV 5 16 (.bool ((decide (6<(↑b.Places.length:Int)))||(decide (6<(↑b.Links.length:Int))))) ?_ ?_))
 ·cases an:(decide (6<(↑b.Places.length:Int)))
  ·exact AC O O O (Ac O t DU Ft O λao H=>AC O O O (Ah A3 c.1 O H Ir O λap I=>AC O O O (Ag O I G4 O λaq=>AC O O O (CE O O O (AO O O O (AU O))))))
  exact Aa O O
 refine AB O O (AV 5 22 (.bool (((decide (6<(↑b.Places.length:Int)))||(decide (6<(↑b.Links.length:Int))))||(decide (4<(↑b.Owners.length:Int))))) ?_ ?_)
 ·cases ar:((decide (6<(↑b.Places.length:Int)))||(decide (6<(↑b.Links.length:Int))))
  ·exact AC O O O (Ac O t EB HS O λau J=>AC O O O (Ah A3 c.1 O J J6 O λav K=>AC O O O (Ag O K Js O λaw=>AC O O O (CE O O O (AO O O O (AU O))))))
  exact Aa O O
 refine AB O O (AV 5 28 (.bool ((((decide (6<(↑b.Places.length:Int)))||(decide (6<(↑b.Links.length:Int))))||(decide (4<(↑b.Owners.length:Int))))||(decide (12<(↑j.Queue.length:Int))))) ?_ ?_)
 ·cases ax:(((decide (6<(↑b.Places.length:Int)))||(decide (6<(↑b.Links.length:Int))))||(decide (4<(↑b.Owners.length:Int))))
  ·refine AC O O O ?_
   have M:=C.mono s
   exact Ac O M IA JR O λay Q=>AC O O O (Ah A3 c.1 O Q Kk O λaz U=>AC O O O (Ag O U JF O λa0=>AC O O O (CE O O O (AO O O O (AU O)))))
  exact Aa O O
 refine AD (kp [28,5] O) (AW O (λu=>?_) (λu=>?_))
 ·have E:=BU u E
  refine AA (AG (.inl O) (AF O O (AD (kp [6] O) (Ab (λaa ww hf hw=>?_)))))
  cases E
  have x:=z.trans (p.trans s)
  exact Dp hf hw O O x ⟨O,c⟩
 have E:=BV u E
 refine AT (AA (AG (.inl O) (Ac O m Ca.f_Rain Qc O λa1 V=>Ah A3 c.1 O V BY O λa2 W=>Ag O W BP O λa3=>HW O O O (AB O O (AV 5 38 (.bool ((decide ((↑a.Rain.length:Int)≤8))&&(decide ((↑a.Faults.length:Int)≤8)))) ?_ ?_)))))
 ·cases a4:(decide ((↑a.Rain.length:Int)≤8))
  ·exact Aa O O
  exact AC O O O (Ac O m Hm MQ O λa5 X=>AC O O O (Ah A3 c.1 O X Pi O λa6 Y=>AC O O O (Ag O Y Oj O λa7=>AC O O O (HW O O O (AO O O O (AU O))))))
 refine AB O O (AV 5 44 (.bool (((decide ((↑a.Rain.length:Int)≤8))&&(decide ((↑a.Faults.length:Int)≤8)))&&(decide ((↑a.Cmds.length:Int)≤8)))) ?_ ?_)
 ·cases a8:((decide ((↑a.Rain.length:Int)≤8))&&(decide ((↑a.Faults.length:Int)≤8)))
  ·exact Aa O O
  exact AC O O O (Ac O m JY NQ O λa9 Z=>AC O O O (Ah A3 c.1 O Z Q5 O λba ab=>AC O O O (Ag O ab Pj O λbb=>AC O O O (HW O O O (AO O O O (AU O))))))
 refine AB O O (AV 5 50 (.bool ((((decide ((↑a.Rain.length:Int)≤8))&&(decide ((↑a.Faults.length:Int)≤8)))&&(decide ((↑a.Cmds.length:Int)≤8)))&&(decide ((↑a.Takes.length:Int)≤8)))) ?_ ?_)
 ·cases bc:(((decide ((↑a.Rain.length:Int)≤8))&&(decide ((↑a.Faults.length:Int)≤8)))&&(decide ((↑a.Cmds.length:Int)≤8)))
  ·exact Aa O O
  exact AC O O O (Ac O m PL TK O λbe ac=>AC O O O (Ah A3 c.1 O ac XK O λbf ad=>AC O O O (Ag O ad UZ O λbg=>AC O O O (HW O O O (AO O O O (AU O))))))
 refine AB O O (AV 5 56 (.bool (((((decide ((↑a.Rain.length:Int)≤8))&&(decide ((↑a.Faults.length:Int)≤8)))&&(decide ((↑a.Cmds.length:Int)≤8)))&&(decide ((↑a.Takes.length:Int)≤8)))&&(decide ((↑a.Swaps.length:Int)≤8)))) ?_ ?_)
 ·cases bh:((((decide ((↑a.Rain.length:Int)≤8))&&(decide ((↑a.Faults.length:Int)≤8)))&&(decide ((↑a.Cmds.length:Int)≤8)))&&(decide ((↑a.Takes.length:Int)≤8)))
  ·exact Aa O O
  exact AC O O O (Ac O m PM TJ O λbi ae=>AC O O O (Ah A3 c.1 O ae XJ O λbj af=>AC O O O (Ag O af UY O λbk=>AC O O O (HW O O O (AO O O O (AU O))))))
 refine AF O O (AD (kp [6] O) (Ab (λaa ww hf hw=>?_)))
 cases E
 have y:=z.trans (p.trans s)
 exact Dp hf hw O O y ⟨O,c⟩
theorem L0 (hs:St S L h) {g:Value}{p:AZ}(m:Rd S h B0 g p) {i:Value}{s:Al}(n:Rd S h CL i s) {d:Value}{j:Ca}(k:Rd S h FV d j) {r:Bool}(E:HU N p s j=some r):
 CG Tryz.prog 10 #[g,i,d] S h (λv S' h'=>v= .bool r∧St S' (L) h'):=by
 refine BC (l:=[g,i,d]) 20 Tryz.func10 O Tryz.ntmps10 O λB=>?_
 rw[HU] at E
 refine AA (Am (B1 O m (λe=>by cases e) O hs λq1 S2 h3 J K k6=>?_))
 have k7:=n.mono K
 refine B1 O k7 (λe=>by cases e) O J λq8 S9 af x t M=>?_
 have Q:=k.mono (K.trans t)
 refine B1 O Q (λe=>by cases e) O x λag ah ai a u U=>AJ 1 (AF O O (AE (AX (kp [5,4,3] O) (AA (Bn (.inl O) a ?_)))))
 have w:=k6.mono (t.trans u)
 refine Bw BZ a.1 O w Gp (λe=>by cases e) O λaj V=>?_
 have y:=M.mono u
 refine Bw BZ a.1 O y Gn (λe=>by cases e) O λak W=>Bw BZ a.1 O U Sh (λe=>by cases e) O λal X=>?_
 obtain⟨Y,z,E⟩:=bd E
 refine Aw O O O bU O (λh' o=>Mc (St.all h') (V.mono (o.all a.1)) (W.mono (o.all a.1)) (X.mono (o.all a.1)) z) (AB O O ?_)
 obtain⟨A,b,E⟩:=bd E
 refine AV 3 14 (.bool A) ?_ ?_
 ·cases C:Y
  ·have b:=BV C b
   cases b
   exact Aa O O
  have b:=BU C b
  refine AC O O O (Bw BZ a.1 O w Gp (λe=>by cases e) O λam Z=>AC O O O ?_)
  obtain⟨an,D,b⟩:=bd b
  refine Aw O O O Xp O (λh' o=>LP (St.all h') (Z.mono (o.all a.1)) D) (AO O O O ?_)
  cases b
  exact AU O
 refine AB O O ?_
 obtain⟨ab,c,E⟩:=bd E
 refine AV 4 19 (.bool ab) ?_ ?_
 ·cases F:A
  ·have c:=BV F c
   cases c
   exact Aa O O
  have c:=BU F c
  refine AC O O O (Bw BZ a.1 O w Gp (λe=>by cases e) O λao ac=>AC O O O (Bw BZ a.1 O y Gn (λe=>by cases e) O λap ad=>AC O O O ?_))
  obtain⟨aq,G,c⟩:=bd c
  refine Aw O O O Vm O (λh' o=>J7 (St.all h') (ac.mono (o.all a.1)) (ad.mono (o.all a.1)) G) (AO O O O ?_)
  cases c
  exact AU O
 refine AF O O (BK (kp [6] O) λar H ae=>Ab (λaa ww hf hw=>?_))
 cases E
 have I:=K.trans (t.trans (u.trans ae))
 exact Dp hf hw O O I ⟨O,H⟩
theorem KN (hs:St S L h) {az:Value}{u:AZ}(c5:Rd S h B0 az u) {a0:Value}{s:Al}(c6:Rd S h CL a0 s) {ag:Value}{c:Ca}(cl:Rd S h FV ag c) {r:Bool}(E:E2 N u s c=some r):
 CG Tryz.prog 6 #[az,a0,ag] S h (λv S' h'=>v= .bool r∧St S' (L) h'):=by
 refine BC (l:=[az,a0,ag]) 174 Tryz.func6 O Tryz.ntmps6 O λB=>?_
 rw[E2] at E
 refine AA (Am (B1 O c5 (λe=>by cases e) O hs λq1 S2 h3 h4 e5 k6=>?_))
 have k7:=c6.mono e5
 refine B1 O k7 (λe=>by cases e) O h4 λq8 S9 lh eu cj h5=>?_
 have h6:=cl.mono (e5.trans cj)
 refine B1 O h6 (λe=>by cases e) O eu λbp li lj ev ck h7=>AJ 1 (AF O O (AE (AX (kp [5,4,3] O) (AA (Bn (.inl O) ev ?_)))))
 obtain⟨I,ew,E⟩:=bd E
 refine Aw O O O dO O (λh' o=>LW (St.all h') ew) (AF O O (BK (kp [7,5,4,3] O) λll ah bq=>AA (AA (Bn (.inl O) ah ?_))))
 have ey:=cj.trans (ck.trans bq)
 have ez:=k6.mono ey
 refine Bw BZ ah.1 O ez Gp (λe=>by cases e) O λlm h8=>?_
 have e0:=h5.mono (ck.trans bq)
 refine Bw BZ ah.1 O e0 Gn (λe=>by cases e) O λlo h9=>?_
 have e1:=h7.mono bq
 refine Bw BZ ah.1 O e1 Sh (λe=>by cases e) O λlp ia=>?_
 obtain⟨lq,e2,E⟩:=bd E
 refine Aw O O O bY O (λh' o=>L0 (St.all h') (h8.mono (o.all ah.1)) (h9.mono (o.all ah.1)) (ia.mono (o.all ah.1)) e2) (Bv O O (BK (kp [22,7,5,4,3] O) λlr a8 br=>AW O (λdi=>?_) (λdi=>?_)))
 ·have E:=BU di E
  refine AA (AG (.inl O) (AB O O (AF O O (AD (kp [6] O) (Ab (λaa ww hf hw=>?_))))))
  cases E
  have e3:=e5.trans (cj.trans (ck.trans (bq.trans br)))
  exact Dp hf hw O O e3 ⟨O,a8⟩
 have E:=BV di E
 refine AT (AA (Am (AJ 3 ?_)))
 have e4:=ez.mono br
 refine Bw A3 a8.1 O e4 Gp (λe=>by cases e) O λls ib=>?_
 have e6:=e0.mono br
 refine Bw A3 a8.1 O e6 Gn (λe=>by cases e) O λlt ic=>?_
 have c7:=e1.mono br
 refine Bw A3 a8.1 O c7 Sh (λe=>by cases e) O λlu ie=>AE ?_
 obtain⟨d,e7,E⟩:=bd E
 refine Cr O O O Vn O (Kd a8 ib ic ie e7) λlv dj lw a9 p=>?_
 obtain⟨lx,ly,M,rfl,ig,e8⟩:=p
 refine AJ 4 (AB O O (CJ O O O (CJ O O O (CJ O O O (AE (Cg Nw O e8 λQ lz e9 a1=>?_))))))
 have ih:=ig.mono a1
 obtain⟨a2,a3,a4,a5,a6,a7,rfl,l0,ii,ij,ik,c8,il,im⟩:=CL.ex ih
 refine Ge (vs:=[.int .i64 d.1.Hour,a2,a3,a4,a5,a6,a7]) (cs':=[.int .i64 d.1.Hour,a2,a3,a4,a5,a6,a7]) O O O (AH O (AH ii.one (AH ij.one (AH ik.one (AH c8.one (AH il.one (AH im.one D2))))))) Gn O e9 .head O O λdk av au=>AJ 2 (AF O O (AF O O (AE (AX (kp [10,8,7,5,4,3] O) (AA (AA (AG (.inl O) (AL O Fb O (AS A3 av O mh O IQ O ?_)))))))))
 have io:=c8.mono' au
 refine Ag O io IL O λl1=>?_
 have fb:=a9.trans (a1.trans au)
 have dl:=e4.mono fb
 refine Ac O dl DU Ft O λl2 ip=>Ah A3 av.1 O ip Ir O λl3 ir=>Ag O ir G4 O λl4=>CH O O O (AB O O (AV 7 46 (.bool ((decide ((↑d.1.Gates.length:Int)≠(↑u.Links.length:Int)))||(decide ((↑d.2.2.length:Int)≠(↑u.Places.length:Int))))) ?_ ?_))
 ·cases l5:(decide ((↑d.1.Gates.length:Int)≠(↑u.Links.length:Int)))
  ·exact AC O O O (AB O O (AC O O O (LJ av (mt (mt mh)) O BP O λl6=>AC O O O (Ac O dl BS DK O λl7 it=>AC O O O (Ah A3 av.1 O it F9 O λl8 iu=>AC O O O (Ag O iu FA O λiv=>AC O O O (CH O O O (AO O O O (AU O)))))))))
  exact Aa O O
 refine AD (kp [46,10,8,7,5,4,3] O) (AW O (λcm=>?_) (λcm=>?_))
 ·have E:=BU cm E
  refine AA (AG (.inl O) (AF O O (AD (kp [6] O) (Ab (λaa ww hf hw=>?_)))))
  have dm:=av.sel [] 3 O
  cases E
  have dn:=e5.trans (cj.trans (ck.trans (bq.trans (br.trans (a9.trans (a1.trans au))))))
  exact Dp hf hw O O dn ⟨O,dm⟩
 have E:=BV cm E
 refine AT (AA (AA (AG (.inl O) (AF O O (AD (kp [11,10,8,7,5,4,3] O) (Aj (λa w=>IV B dj dk (174,[]) a w [(7,.bool I)] (L) λ_ _=>Bt N I=some r) ?_ ?_))))))
 ·refine Ay (λn1=>λa w=>∃(g:Int),IV B dj dk (174,[]) a w [(10,M),(8,.pointer (some ⟨Q,0,none⟩)),(7,.bool I),(5,bp),(4,q8),(3,q1),(11,.int .i64 g)] (Bx Q 36 [.int .i64 d.1.Hour,a2,a3,a4,a5,a6,a7]::OS AN.int 3 M d.2.2::L) λ_ _=>AI g∧BF N u s c d (Bt N I) n1 g=some r) N ?_ ?_ ?_
  ·intro aa ww hf hw
   have dp:=av.sel [0,1] 1 O
   exact⟨0,_,_,hf.sub (kp [10,8,7,5,4,3,11] O),hw,dp,(B8.refl dj dk),(iq (n:=0) O),E⟩
  ·rintro aa ww ⟨_,_,_,_,_,_,_,_,E⟩
   rw[BF] at E;cases E
  rintro n1 aa ww ⟨g,cn,iw,hf,hw,ai,U,iy,E⟩
  refine Ad ?_ hf hw
  clear hf hw ww aa
  rw[BF] at E
  refine AA (AA (AG (.inl O) (AB O O ?_)))
  have c9:=dl.mono U
  refine Ac O c9 DU Ft O λiz fc=>Ah A3 ai.1 O fc Ir O λi0 fd=>Ag O fd G4 O λi1=>A0 O O O (AD (kp [51,10,8,7,5,4,3,11] O) (AW O (λco=>?_) (λco=>?_)))
  ·have E:=BU co E
   refine AT (AA (A6 (AA (Am (AJ 5 (Ac O c9 DU Ft O λi2 fe=>Ah A3 ai.1 O fe Ir O λi3 ff=>AB O O ?_))))))
   obtain⟨b,dq,E⟩:=bd E
   refine A8 O O ff G4 dq O λi4 fg=>Bw A3 ai.1 O fg F8 (λe=>by cases e) O λi5 fh=>AE (Cg M0 O ai λy i6 dr W=>?_)
   have fi:=fh.mono W
   obtain⟨z,A,C,rfl,bv,bw,bx,bz,ba,bb,bc,b0,b1,b2,b3,b4,b5,b6,b7,b8,b9,ca⟩:=Bh.ex fi
   refine Ge (vs:=[.string b.Name,.int .i64 b.Kind,.int .i64 b.From,.int .i64 b.To,z,A,C,.int .i64 b.Positions,.int .i64 b.Speed,.int .i64 b.Leak,.int .i64 b.Crest,.int .i64 b.Num,.int .i64 b.Den,.int .i64 b.Prime,.int .i64 b.Break,.int .i64 b.BackNum,.int .i64 b.BackDen,.int .i64 b.Delay]) (cs':=[.string b.Name,.int .i64 b.Kind,.int .i64 b.From,.int .i64 b.To,z,A,C,.int .i64 b.Positions,.int .i64 b.Speed,.int .i64 b.Leak,.int .i64 b.Crest,.int .i64 b.Num,.int .i64 b.Den,.int .i64 b.Prime,.int .i64 b.Break,.int .i64 b.BackNum,.int .i64 b.BackDen,.int .i64 b.Delay]) O O O (AH O (AH O (AH O (AH O (AH ba.one (AH bb.one (AH bc.one (AH O (AH O (AH O (AH O (AH O (AH O (AH O (AH O (AH O (AH O (AH O D2)))))))))))))))))) F8 O dr .head O O λi7 bs J=>AX (kp [12,10,8,7,5,4,3,11] O) (AA (Am (AJ 5 ?_)))
   have ds:=a9.trans (a1.trans (au.trans (U.trans (W.trans J))))
   have da:=e6.mono ds
   refine Ac O da GY Fb O λi8 fj=>Ah A3 bs.1 O fj IQ O λi9 fk=>AB O O ?_
   obtain⟨X,dt,E⟩:=bd E
   refine A8 O O fk IL dt O λja fl=>Bw A3 bs.1 O fl Eo (λe=>by cases e) O λjb fm=>AE (Cg Pd O bs λD jc du F=>?_)
   have fn:=fm.mono F
   obtain⟨rfl,⟨fo,fp⟩⟩:=A4.ex fn
   refine DD (vs:=[.int .i64 X.Pos,.int .i64 X.Target,.bool X.Stuck,.bool X.Open]) O O O O Eo O du .head O λcp dv K=>AX (kp [13,12,10,8,7,5,4,3,11] O) (AA (AA (AG (.inl O) (AF O O (AD (kp [14,13,12,10,8,7,5,4,3,11] O) (Aj (λa w=>∃(be:Int) (bf:Int) (cb:Bool) (cc:Bool),IV B cn cp (174,[]) a w [(13,.pointer (some ⟨D,0,none⟩)),(12,.pointer (some ⟨y,0,none⟩)),(10,M),(8,.pointer (some ⟨Q,0,none⟩)),(7,.bool I),(5,bp),(4,q8),(3,q1),(11,.int .i64 g)] (Bx D 69 [.int .i64 be,.int .i64 bf,.bool cb,.bool cc]::Bx y 67 [.string b.Name,.int .i64 b.Kind,.int .i64 b.From,.int .i64 b.To,z,A,C,.int .i64 b.Positions,.int .i64 b.Speed,.int .i64 b.Leak,.int .i64 b.Crest,.int .i64 b.Num,.int .i64 b.Den,.int .i64 b.Prime,.int .i64 b.Break,.int .i64 b.BackNum,.int .i64 b.BackDen,.int .i64 b.Delay]::Bx Q 36 [.int .i64 d.1.Hour,a2,a3,a4,a5,a6,a7]::OS AN.int 3 M d.2.2::L) λ_ _=>AI be∧AI bf∧DT N s c d g b (BF N u s c d (Bt N I) n1) be bf cb cc=some r) ?_ ?_))))))
   ·refine Ay (λn3=>λa w=>∃(aj:Int) (Y:Int) (Z:Int) (ak:Bool) (am:Bool),IV B cn cp (174,[]) a w [(13,.pointer (some ⟨D,0,none⟩)),(12,.pointer (some ⟨y,0,none⟩)),(10,M),(8,.pointer (some ⟨Q,0,none⟩)),(7,.bool I),(5,bp),(4,q8),(3,q1),(11,.int .i64 g),(14,.int .i64 aj)] (Bx D 69 [.int .i64 Y,.int .i64 Z,.bool ak,.bool am]::Bx y 67 [.string b.Name,.int .i64 b.Kind,.int .i64 b.From,.int .i64 b.To,z,A,C,.int .i64 b.Positions,.int .i64 b.Speed,.int .i64 b.Leak,.int .i64 b.Crest,.int .i64 b.Num,.int .i64 b.Den,.int .i64 b.Prime,.int .i64 b.Break,.int .i64 b.BackNum,.int .i64 b.BackDen,.int .i64 b.Delay]::Bx Q 36 [.int .i64 d.1.Hour,a2,a3,a4,a5,a6,a7]::OS AN.int 3 M d.2.2::L) λ_ _=>AI aj∧AI Y∧AI Z∧Bg N c g b (DT N s c d g b (BF N u s c d (Bt N I) n1)) n3 aj Y Z ak am=some r) N ?_ ?_ ?_
    ·intro aa ww hf hw
     exact⟨0,X.Pos,X.Target,X.Stuck,X.Open,_,_,hf.sub (kp [13,12,10,8,7,5,4,3,11,14] O),hw,dv,(B8.refl cn cp),(iq (n:=0) O),fo,fp,E⟩
    ·rintro aa ww ⟨_,_,_,_,_,_,_,_,_,_,_,_,_,_,E⟩
     rw[Bg] at E;cases E
    rintro n3 aa ww ⟨aj,Y,Z,ak,am,db,dc,hf,hw,j,cd,jd,cq,cr,E⟩
    refine Ad ?_ hf hw
    clear hf hw ww aa
    rw[Bg] at E
    refine AA (AA (AG (.inl O) (AB O O ?_)))
    have dw:=a9.trans (a1.trans (au.trans (U.trans (W.trans (J.trans (F.trans (K.trans cd)))))))
    have cs:=c7.mono dw
    refine Ac O cs Hm MQ O λje fq=>Ah A3 j.1 O fq Pi O λjf fr=>Ag O fr Oj O λjg=>A0 O O O (AD (kp [68,13,12,10,8,7,5,4,3,11,14] O) (AW O (λct=>?_) (λct=>?_)))
    ·have E:=BU ct E
     refine AT (AA (Aj (λa w=>∃(bg:Int) (bh:Int) (ce:Bool) (cf:Bool),IV B db dc (174,[]) a w [(13,.pointer (some ⟨D,0,none⟩)),(12,.pointer (some ⟨y,0,none⟩)),(10,M),(8,.pointer (some ⟨Q,0,none⟩)),(7,.bool I),(5,bp),(4,q8),(3,q1),(11,.int .i64 g),(14,.int .i64 aj)] (Bx D 69 [.int .i64 bg,.int .i64 bh,.bool ce,.bool cf]::Bx y 67 [.string b.Name,.int .i64 b.Kind,.int .i64 b.From,.int .i64 b.To,z,A,C,.int .i64 b.Positions,.int .i64 b.Speed,.int .i64 b.Leak,.int .i64 b.Crest,.int .i64 b.Num,.int .i64 b.Den,.int .i64 b.Prime,.int .i64 b.Break,.int .i64 b.BackNum,.int .i64 b.BackDen,.int .i64 b.Delay]::Bx Q 36 [.int .i64 d.1.Hour,a2,a3,a4,a5,a6,a7]::OS AN.int 3 M d.2.2::L) λ_ _=>AI bg∧AI bh∧D9 N aj (Bg N c g b (DT N s c d g b (BF N u s c d (Bt N I) n1)) n3) bg bh ce cf=some r) ?_ ?_))
     ·refine AA (AG (.inl O) (Ac O cs Hm MQ O λjh fs=>Ah A3 j.1 O fs Pi O λji ft=>AB O O ?_))
      obtain⟨jj,dx,E⟩:=bd E
      refine A8 O O ft Oj dx O λjk fu=>Ac O fu IB.f_Link NK O λjl fv=>Af A3 j.1 O fv Ae O λjm=>AB O O (Bd O O O (AD (kp [78,13,12,10,8,7,5,4,3,11,14] O) (AW O (λcu=>?_) (λcu=>?_))))
      ·have E:=BU cu E
       refine JM 9 mo (by kernel_rfl) O j (Cj (vs:=[.string b.Name,.int .i64 b.Kind,.int .i64 b.From,.int .i64 b.To,z,A,C,.int .i64 b.Positions,.int .i64 b.Speed,.int .i64 b.Leak,.int .i64 b.Crest,.int .i64 b.Num,.int .i64 b.Den,.int .i64 b.Prime,.int .i64 b.Break,.int .i64 b.BackNum,.int .i64 b.BackDen,.int .i64 b.Delay]) BZ j O (mt mh) O O F8 O O (Cj (vs:=[.int .i64 Y,.int .i64 Z,.bool ak,.bool am]) BZ j O mh O O Eo O O (Ac O cs Hm MQ O λjn fw=>Ah BZ j.1 O fw Pi O λjo fx=>AB O O ?_)))
       obtain⟨jp,dy,E⟩:=bd E
       refine A8 O O fx Oj dy O λjq fy=>Ac O fy IB.f_Kind TH O λjr fz=>Af BZ j.1 O fz Ae O λf0=>?_
       have bt:=J.trans (F.trans (K.trans cd))
       have f1:=ba.mono' bt
       have f2:=bb.mono' bt
       have f3:=bc.mono' bt
       obtain⟨ab,dz,E⟩:=bd E
       refine CM O O O Xt O (λh' o=>Lt (St.all h') (Bh.mk (x:=b) bv bw bx bz (f1.mono' (o.all j.1)) (f2.mono' (o.all j.1)) (f3.mono' (o.all j.1)) b0 b1 b2 b3 b4 b5 b6 b7 b8 b9 ca) (A4.mk (x:=(⟨Y,Z,ak,am⟩:Ak)) ⟨cq,cr⟩) f0 dz) λf4=>?_
       obtain⟨f5,f6⟩:=f4
       refine IJ λjs d0 f7=>DD (vs:=[.int .i64 ab.Pos,.int .i64 ab.Target,.bool ab.Stuck,.bool ab.Open]) O O O O Eo O d0 .head O λjt d1 f8=>AX (kp [13,12,10,8,7,5,4,3,11,14] O) (WF.nil (λaa ww hf hw=>?_))
       exact⟨ab.Pos,ab.Target,ab.Stuck,ab.Open,_,_,hf.sub (kp [13,12,10,8,7,5,4,3,11,14] O),hw,d1,(f7.trans f8),f5,f6,E⟩
      have E:=BV cu E
      refine AT (WF.nil (λaa ww hf hw=>?_))
      exact⟨Y,Z,ak,am,_,_,hf.sub (kp [13,12,10,8,7,5,4,3,11,14] O),hw,j,(B8.refl db dc),cq,cr,E⟩
     rintro aa ww ⟨bg,bh,ce,cf,ju,jv,hf,hw,d2,f9,ga,gb,E⟩
     refine Ad ?_ hf hw
     clear hf hw ww aa
     rw[D9] at E
     refine AG (.inl O) (AB O O (Ap O O O (AF O O (AD (kp [14,13,12,10,8,7,5,4,3,11] O) (WF.nil (λaa ww hf hw=>?_))))))
     exact⟨(BD (aj+1)),bg,bh,ce,cf,_,_,hf.sub (kp [13,12,10,8,7,5,4,3,11,14] O),hw,d2,(cd.trans f9),(BG _),ga,gb,E⟩
    have E:=BV ct E
    refine BB O (λaa ww hf hw=>?_)
    exact⟨Y,Z,ak,am,_,_,hf.sub (kp [13,12,10,8,7,5,4,3,11] O),hw,j,cd,cq,cr,E⟩
   rintro aa ww ⟨be,bf,cb,cc,cv,cw,hf,hw,d3,ac,gc,gd,E⟩
   refine Ad ?_ hf hw
   clear hf hw ww aa
   rw[DT] at E
   refine AA (AA (AG (.inl O) (AF O O (AD (kp [15,13,12,10,8,7,5,4,3,11] O) (Aj (λa w=>∃(aw:Int) (ax:Int) (bi:Bool) (bj:Bool),IV B cv cw (174,[]) a w [(13,.pointer (some ⟨D,0,none⟩)),(12,.pointer (some ⟨y,0,none⟩)),(10,M),(8,.pointer (some ⟨Q,0,none⟩)),(7,.bool I),(5,bp),(4,q8),(3,q1),(11,.int .i64 g)] (Bx D 69 [.int .i64 aw,.int .i64 ax,.bool bi,.bool bj]::Bx y 67 [.string b.Name,.int .i64 b.Kind,.int .i64 b.From,.int .i64 b.To,z,A,C,.int .i64 b.Positions,.int .i64 b.Speed,.int .i64 b.Leak,.int .i64 b.Crest,.int .i64 b.Num,.int .i64 b.Den,.int .i64 b.Prime,.int .i64 b.Break,.int .i64 b.BackNum,.int .i64 b.BackDen,.int .i64 b.Delay]::Bx Q 36 [.int .i64 d.1.Hour,a2,a3,a4,a5,a6,a7]::OS AN.int 3 M d.2.2::L) λ_ _=>AI aw∧AI ax∧Ci N s c d g b (BF N u s c d (Bt N I) n1) aw ax bi bj=some r) ?_ ?_)))))
   ·refine Ay (λn6=>λa w=>∃(an:Int) (ad:Int) (ae:Int) (ao:Bool) (ap:Bool),IV B cv cw (174,[]) a w [(13,.pointer (some ⟨D,0,none⟩)),(12,.pointer (some ⟨y,0,none⟩)),(10,M),(8,.pointer (some ⟨Q,0,none⟩)),(7,.bool I),(5,bp),(4,q8),(3,q1),(11,.int .i64 g),(15,.int .i64 an)] (Bx D 69 [.int .i64 ad,.int .i64 ae,.bool ao,.bool ap]::Bx y 67 [.string b.Name,.int .i64 b.Kind,.int .i64 b.From,.int .i64 b.To,z,A,C,.int .i64 b.Positions,.int .i64 b.Speed,.int .i64 b.Leak,.int .i64 b.Crest,.int .i64 b.Num,.int .i64 b.Den,.int .i64 b.Prime,.int .i64 b.Break,.int .i64 b.BackNum,.int .i64 b.BackDen,.int .i64 b.Delay]::Bx Q 36 [.int .i64 d.1.Hour,a2,a3,a4,a5,a6,a7]::OS AN.int 3 M d.2.2::L) λ_ _=>AI an∧AI ad∧AI ae∧Bf N c g b (Ci N s c d g b (BF N u s c d (Bt N I) n1)) n6 an ad ae ao ap=some r) N ?_ ?_ ?_
    ·intro aa ww hf hw
     exact⟨0,be,bf,cb,cc,_,_,hf.sub (kp [13,12,10,8,7,5,4,3,11,15] O),hw,d3,(B8.refl cv cw),(iq (n:=0) O),gc,gd,E⟩
    ·rintro aa ww ⟨_,_,_,_,_,_,_,_,_,_,_,_,_,_,E⟩
     rw[Bf] at E;cases E
    rintro n6 aa ww ⟨an,ad,ae,ao,ap,dd,de,hf,hw,k,cg,jw,cx,cy,E⟩
    refine Ad ?_ hf hw
    clear hf hw ww aa
    rw[Bf] at E
    refine AA (AA (AG (.inl O) (AB O O ?_)))
    have d4:=a9.trans (a1.trans (au.trans (U.trans (W.trans (J.trans (F.trans (K.trans (ac.trans cg))))))))
    have cz:=c7.mono d4
    refine Ac O cz JY NQ O λjx ge=>Ah A3 k.1 O ge Q5 O λjy gf=>Ag O gf Pj O λjz=>A0 O O O (AD (kp [92,13,12,10,8,7,5,4,3,11,15] O) (AW O (λc0=>?_) (λc0=>?_)))
    ·have E:=BU c0 E
     refine AT (AA (Aj (λa w=>∃(bk:Int) (bl:Int) (ch:Bool) (ci:Bool),IV B dd de (174,[]) a w [(13,.pointer (some ⟨D,0,none⟩)),(12,.pointer (some ⟨y,0,none⟩)),(10,M),(8,.pointer (some ⟨Q,0,none⟩)),(7,.bool I),(5,bp),(4,q8),(3,q1),(11,.int .i64 g),(15,.int .i64 an)] (Bx D 69 [.int .i64 bk,.int .i64 bl,.bool ch,.bool ci]::Bx y 67 [.string b.Name,.int .i64 b.Kind,.int .i64 b.From,.int .i64 b.To,z,A,C,.int .i64 b.Positions,.int .i64 b.Speed,.int .i64 b.Leak,.int .i64 b.Crest,.int .i64 b.Num,.int .i64 b.Den,.int .i64 b.Prime,.int .i64 b.Break,.int .i64 b.BackNum,.int .i64 b.BackDen,.int .i64 b.Delay]::Bx Q 36 [.int .i64 d.1.Hour,a2,a3,a4,a5,a6,a7]::OS AN.int 3 M d.2.2::L) λ_ _=>AI bk∧AI bl∧D8 N an (Bf N c g b (Ci N s c d g b (BF N u s c d (Bt N I) n1)) n6) bk bl ch ci=some r) ?_ ?_))
     ·refine AA (AG (.inl O) (Ac O cz JY NQ O λj0 gg=>Ah A3 k.1 O gg Q5 O λj1 gh=>AB O O ?_))
      obtain⟨j2,d5,E⟩:=bd E
      refine A8 O O gh Pj d5 O λj3 gi=>Ac O gi MF.f_Link NJ O λj4 gj=>Af A3 k.1 O gj Ae O λj5=>AB O O (Bd O O O (AD (kp [102,13,12,10,8,7,5,4,3,11,15] O) (AW O (λc1=>?_) (λc1=>?_))))
      ·have E:=BU c1 E
       refine JM 9 mo (by kernel_rfl) O k (Cj (vs:=[.string b.Name,.int .i64 b.Kind,.int .i64 b.From,.int .i64 b.To,z,A,C,.int .i64 b.Positions,.int .i64 b.Speed,.int .i64 b.Leak,.int .i64 b.Crest,.int .i64 b.Num,.int .i64 b.Den,.int .i64 b.Prime,.int .i64 b.Break,.int .i64 b.BackNum,.int .i64 b.BackDen,.int .i64 b.Delay]) BZ k O (mt mh) O O F8 O O (Cj (vs:=[.int .i64 ad,.int .i64 ae,.bool ao,.bool ap]) BZ k O mh O O Eo O O (Ac O cz JY NQ O λj6 gk=>Ah BZ k.1 O gk Q5 O λj7 gl=>AB O O ?_)))
       obtain⟨j8,d6,E⟩:=bd E
       refine A8 O O gl Pj d6 O λj9 gm=>Ac O gm MF.f_Target TG O λka gn=>Af BZ k.1 O gn Ae O λgp=>?_
       have bu:=J.trans (F.trans (K.trans (ac.trans cg)))
       have gq:=ba.mono' bu
       have gr:=bb.mono' bu
       have gs:=bc.mono' bu
       obtain⟨af,d7,E⟩:=bd E
       refine CM O O O Xs O (λh' o=>NG (St.all h') (Bh.mk (x:=b) bv bw bx bz (gq.mono' (o.all k.1)) (gr.mono' (o.all k.1)) (gs.mono' (o.all k.1)) b0 b1 b2 b3 b4 b5 b6 b7 b8 b9 ca) (A4.mk (x:=(⟨ad,ae,ao,ap⟩:Ak)) ⟨cx,cy⟩) gp d7) λgt=>?_
       obtain⟨gu,gv⟩:=gt
       refine IJ λkb d8 gw=>DD (vs:=[.int .i64 af.Pos,.int .i64 af.Target,.bool af.Stuck,.bool af.Open]) O O O O Eo O d8 .head O λkc d9 gx=>AX (kp [13,12,10,8,7,5,4,3,11,15] O) (WF.nil (λaa ww hf hw=>?_))
       exact⟨af.Pos,af.Target,af.Stuck,af.Open,_,_,hf.sub (kp [13,12,10,8,7,5,4,3,11,15] O),hw,d9,(gw.trans gx),gu,gv,E⟩
      have E:=BV c1 E
      refine AT (WF.nil (λaa ww hf hw=>?_))
      exact⟨ad,ae,ao,ap,_,_,hf.sub (kp [13,12,10,8,7,5,4,3,11,15] O),hw,k,(B8.refl dd de),cx,cy,E⟩
     rintro aa ww ⟨bk,bl,ch,ci,kd,ke,hf,hw,ea,gz,g0,g1,E⟩
     refine Ad ?_ hf hw
     clear hf hw ww aa
     rw[D8] at E
     refine AG (.inl O) (AB O O (Ap O O O (AF O O (AD (kp [15,13,12,10,8,7,5,4,3,11] O) (WF.nil (λaa ww hf hw=>?_))))))
     exact⟨(BD (an+1)),bk,bl,ch,ci,_,_,hf.sub (kp [13,12,10,8,7,5,4,3,11,15] O),hw,ea,(cg.trans gz),(BG _),g0,g1,E⟩
    have E:=BV c0 E
    refine BB O (λaa ww hf hw=>?_)
    exact⟨ad,ae,ao,ap,_,_,hf.sub (kp [13,12,10,8,7,5,4,3,11] O),hw,k,cg,cx,cy,E⟩
   rintro aa ww ⟨aw,ax,bi,bj,kf,kg,hf,hw,m,ay,g2,g3,E⟩
   refine Ad ?_ hf hw
   clear hf hw ww aa
   rw[Ci] at E
   refine AA (JM 10 mo (by kernel_rfl) O m (Cj (vs:=[.string b.Name,.int .i64 b.Kind,.int .i64 b.From,.int .i64 b.To,z,A,C,.int .i64 b.Positions,.int .i64 b.Speed,.int .i64 b.Leak,.int .i64 b.Crest,.int .i64 b.Num,.int .i64 b.Den,.int .i64 b.Prime,.int .i64 b.Break,.int .i64 b.BackNum,.int .i64 b.BackDen,.int .i64 b.Delay]) BZ m O (mt mh) O O F8 O O (Cj (vs:=[.string b.Name,.int .i64 b.Kind,.int .i64 b.From,.int .i64 b.To,z,A,C,.int .i64 b.Positions,.int .i64 b.Speed,.int .i64 b.Leak,.int .i64 b.Crest,.int .i64 b.Num,.int .i64 b.Den,.int .i64 b.Prime,.int .i64 b.Break,.int .i64 b.BackNum,.int .i64 b.BackDen,.int .i64 b.Delay]) BZ m O (mt mh) O O F8 O O (Cj (vs:=[.int .i64 aw,.int .i64 ax,.bool bi,.bool bj]) BZ m O mh O O Eo O O ?_))))
   have V:=J.trans (F.trans (K.trans (ac.trans ay)))
   have g4:=ba.mono' V
   have g5:=bb.mono' V
   have g6:=bc.mono' V
   obtain⟨g7,eb,E⟩:=bd E
   refine CM O O O Xq O (λh' o=>Mi (St.all h') (Bh.mk (x:=b) bv bw bx bz (g4.mono' (o.all m.1)) (g5.mono' (o.all m.1)) (g6.mono' (o.all m.1)) b0 b1 b2 b3 b4 b5 b6 b7 b8 b9 ca) (A4.mk (x:=(⟨aw,ax,bi,bj⟩:Ak)) ⟨g2,g3⟩) eb) λg8=>?_
   obtain⟨g9,ha⟩:=g8
   refine AB O O (AL O Id O (AS BZ m O (mt mh) O Ae O ?_))
   obtain⟨kh,ec,E⟩:=bd E
   refine A5 m (mt (mt (mt mh))) O O BP ec O λki ed=>?_
   obtain⟨kj,ee,E⟩:=bd E
   have hb:=m.epAt (mt (mt (mt mh))) ee El.id ed
   refine Af BZ (λ_ x=>x) O hb Ae O λhc=>?_
   have hd:=ba.mono' V
   have he:=bb.mono' V
   have hg:=bc.mono' V
   obtain⟨t,ef,E⟩:=bd E
   refine CM O O O Xr O (λh' o=>LM (St.all h') (Bh.mk (x:=b) bv bw bx bz (hd.mono' (o.all m.1)) (he.mono' (o.all m.1)) (hg.mono' (o.all m.1)) b0 b1 b2 b3 b4 b5 b6 b7 b8 b9 ca) (A4.mk (x:=g7) ⟨g9,ha⟩) hc ef) λhh=>?_
   obtain⟨kk,kl⟩:=hh
   refine IJ λkm eg bm=>DD (vs:=[.int .i64 t.Pos,.int .i64 t.Target,.bool t.Stuck,.bool t.Open]) O O O O Eo O eg .head O λkn i bn=>AX (kp [13,12,10,8,7,5,4,3,11] O) (AA (AG (.inr ⟨mo,by kernel_rfl⟩) (AL O Fb O (AS A3 i O (mt (mt mh)) O IQ O (AB O O ?_)))))
   have c2:=au.trans (U.trans (W.trans (J.trans (F.trans (K.trans (ac.trans (ay.trans (bm.trans bn))))))))
   have hi:=c8.mono' c2
   obtain⟨aq,eh,E⟩:=bd E
   refine A8 O O hi IL eh O λko hj=>Ac O hj ME KU O λkq hk=>Af A3 i.1 O hk Ae O λkr=>?_
   have ei:=F.trans (K.trans (ac.trans (ay.trans (bm.trans bn))))
   have df:=da.mono ei
   refine Ac O df GY Fb O λks hl=>Ah A3 i.1 O hl IQ O λkt hm=>AB O O ?_
   obtain⟨ar,ej,E⟩:=bd E
   refine A8 O O hm IL ej O λku hn=>Ac O hn ME KU O λkv ho=>Af A3 i.1 O ho Ae O λkw=>Dg O O O (AF O O (AD (kp [16,13,12,10,8,7,5,4,3,11] O) (AA (AG (.inr ⟨mo,by kernel_rfl⟩) (AL O Fb O (AS A3 i O (mt (mt mh)) O IQ O (AB O O ?_)))))))
   have hp:=c8.mono' c2
   obtain⟨bo,ek,E⟩:=bd E
   refine A8 O O hp IL ek O λkx hq=>Bw A3 i.1 O hq Eo (λe=>by cases e) O λky hr=>Cj (vs:=[.int .i64 t.Pos,.int .i64 t.Target,.bool t.Stuck,.bool t.Open]) A3 i O mh O O Eo O O ?_
   obtain⟨rfl,⟨kz,k0⟩⟩:=A4.ex hr
   refine Vy O O Xa O O O O (AB O O (AV 5 147 (.bool ((!(Qh bo.v t.v))||(decide (b.Speed<(BD (aq.Pos-ar.Pos)))))) ?_ ?_))
   ·cases k1:(!(Qh bo.v t.v))
    ·exact AC O O O (AB O O (AC O O O (AL O K8 O (AC O O O (AS A3 i O (mt mh) O Ae O (AC O O O (CE O O O (AO O O O (AU O)))))))))
    exact Aa O O
   refine AB O O (AV 6 154 (.bool (((!(Qh bo.v t.v))||(decide (b.Speed<(BD (aq.Pos-ar.Pos)))))||(decide ((BD (aq.Pos-ar.Pos))<(BD (0-b.Speed)))))) ?_ ?_)
   ·cases k2:((!(Qh bo.v t.v))||(decide (b.Speed<(BD (aq.Pos-ar.Pos)))))
    ·exact AC O O O (AB O O (AC O O O (AL O K8 O (AC O O O (AS A3 i O (mt mh) O Ae O (AC O O O (Wz O O (AC O O O (A0 O O O (AO O O O (AU O)))))))))))
    exact Aa O O
   refine AB O O ?_
   obtain⟨ht,G,E⟩:=bd E
   refine AV 17 172 (.bool ht) ?_ ?_
   ·cases dg:(((!(Qh bo.v t.v))||(decide (b.Speed<(BD (aq.Pos-ar.Pos)))))||(decide ((BD (aq.Pos-ar.Pos))<(BD (0-b.Speed)))))
    ·have G:=BV dg G
     refine AC O O O ?_
     have el:=a9.trans (a1.trans (au.trans (U.trans (W.trans (J.trans (F.trans (K.trans (ac.trans (ay.trans (bm.trans bn))))))))))
     have hu:=c7.mono el
     refine Ac O hu Hm MQ O λk3 hv=>AC O O O (Ah A3 i.1 O hv Pi O λk4 hx=>AC O O O (Ag O hx Oj O λk5=>AC O O O (Bd O O O (AC O O O (AB O O ?_)))))
     obtain⟨c3,H,G⟩:=bd G
     refine AV 7 167 (.bool c3) ?_ ?_
     ·cases dh:(decide ((↑c.Faults.length:Int)=0))
      ·have H:=BV dh H
       cases H
       exact Aa O O
      have H:=BU dh H
      refine AC O O O (Ac O df GY Fb O λk8 hy=>AC O O O (Ah A3 i.1 O hy IQ O λk9 hz=>AC O O O (AB O O (AC O O O ?_))))
      obtain⟨la,em,H⟩:=bd H
      refine A8 O O hz IL em O λlb h0=>AC O O O (Ac O h0 Pc OV O λlc h1=>AC O O O (V0 A3 i.1 O h1 Ng O (AC O O O (AO O O O ?_))))
      cases H
      exact AU O
     refine AC O O O (AB O O (AV 3 171 (.bool (c3&&(decide ((BD (aq.Pos-ar.Pos))≠0)))) ?_ ?_))
     ·cases le:c3
      ·exact Aa O O
      exact AC O O O (AB O O (AC O O O (CH O O O (AC O O O (AO O O O (AU O))))))
     refine AO O O O ?_
     cases G
     exact AU O
    have G:=BU dg G
    cases G
    exact Aa O O
   refine AD (kp [172,10,8,7,5,4,3,11] O) (AW O (λc4=>?_) (λc4=>?_))
   ·have E:=BU c4 E
    refine AA (AG (.inl O) (AF O O (AD (kp [6] O) (Ab (λaa ww hf hw=>?_)))))
    have en:=i.sel [] 4 O
    cases E
    have eo:=e5.trans (cj.trans (ck.trans (bq.trans (br.trans (a9.trans (a1.trans (au.trans (U.trans (W.trans (J.trans (F.trans (K.trans (ac.trans (ay.trans (bm.trans bn)))))))))))))))
    exact Dp hf hw O O eo ⟨O,en⟩
   have E:=BV c4 E
   refine AT (BJ (AG (.inl O) (AB O O (Ap O O O (AF O O (AD (kp [11,10,8,7,5,4,3] O) (WF.nil (λaa ww hf hw=>?_))))))))
   have ep:=i.sel [2,2] 2 O
   have eq:=U.trans (W.trans (J.trans (F.trans (K.trans (ac.trans (ay.trans (bm.trans bn)))))))
   exact⟨(BD (g+1)),_,_,hf.sub (kp [10,8,7,5,4,3,11] O),hw,ep,eq,(BG _),E⟩
  have E:=BV co E
  refine BB O (λaa ww hf hw=>?_)
  have er:=ai.sel [] 2 O
  exact⟨_,_,hf.sub (kp [7] O),hw,er,U,E⟩
 rintro aa ww ⟨lf,lg,hf,hw,es,h2,E⟩
 refine Ad ?_ hf hw
 clear hf hw ww aa
 rw[Bt] at E
 refine AA (AG (.inl O) (AB O O (AF O O (AD (kp [6] O) (Ab (λaa ww hf hw=>?_))))))
 cases E
 have et:=e5.trans (cj.trans (ck.trans (bq.trans (br.trans (a9.trans (a1.trans (au.trans h2)))))))
 exact Dp hf hw O O et ⟨O,es⟩
end Go.Proofs.YtblcgjadhemlbaaGreat
