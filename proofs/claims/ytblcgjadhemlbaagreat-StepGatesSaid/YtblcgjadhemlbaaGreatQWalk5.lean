import Derived.Test.YtblcgjadhemlbaaGreatQWalk4
namespace Go.Proofs.YtblcgjadhemlbaaGreat
open Go.RowKit
set_option linter.unusedVariables false
set_option linter.unusedSimpArgs false
set_option maxRecDepth 10000
set_option maxHeartbeats 2000000
variable {N:Nat}{S:Nat→Prop}{L:List HP}{h:Aq}
theorem L3 (hs:St S L h) {m:Value}{b:AZ}(F:Rd S h B0 m b) {r:Bool}(E:GU N b=some r):
 CG Tryz.prog 53 #[m] S h (λv S' h'=>v= .bool r∧St S' (L) h'):=by
 refine BC (l:=[m]) 64 Tryz.func53 O Tryz.ntmps53 O λB=>?_
 rw[GU] at E
 refine AA (Am (B1 O F (λe=>by cases e) O hs λq1 S2 h3 am e5 k6=>AJ 1 (AF O O (AE (AX (kp [1] O) (AA (AA (AG (.inl O) (Ac O k6 IC NR O λq7 k8=>Ah A3 am.1 O k8 Q6 O λv9 an=>Ag O an Ok O λcf=>AB O O (AD (kp [10,9,8,1] O) (Aj (λa w=>IV B S2 h3 (64,[]) a w [(1,q1)] (L) λ_ _=>DI N b=some r) ?_ ?_)))))))))))
 ·refine Ay (λn1=>λa w=>∃(s:Int),IV B S2 h3 (64,[]) a w [(9,.int .i64 (↑b.Towns.length:Int)),(8,v9),(1,q1),(10,.int .i64 s)] (L) λ_ _=>AI s∧DH N b (DI N b) n1 s=some r) N ?_ ?_ ?_
  ·intro aa ww hf hw
   exact⟨0,_,_,hf.sub (kp [9,8,1,10] O),hw,am,(B8.refl S2 h3),(iq (n:=0) O),E⟩
  ·rintro aa ww ⟨_,_,_,_,_,_,_,_,E⟩
   rw[DH] at E;cases E
  rintro n1 aa ww ⟨s,cg,ch,hf,hw,t,u,ci,E⟩
  refine Ad ?_ hf hw
  clear hf hw ww aa
  rw[DH] at E
  refine AA (AG (.inl O) (A0 O O O (AD (kp [11,9,8,1,10] O) (AA (AW O (λU=>?_) (λU=>?_))))))
  ·have E:=BU U E
   refine AT (AA (A6 (AA (Am (AJ 2 ?_)))))
   have bk:=an.mono' u
   obtain⟨p,ao,E⟩:=bd E
   refine A8 O O bk Ok ao O λcj bl=>Bw A3 t.1 O bl QC (λe=>by cases e) O λck bm=>AE (Cg UD O t λcl cm ap G=>?_)
   have bn:=bm.mono G
   obtain⟨rfl,⟨cn,bo,bp,bq,br,bs,bt⟩⟩:=F6.ex bn
   refine DD (vs:=[.string p.Name,.int .i64 p.Place,.int .i64 p.Flood,.int .i64 p.Lead,.int .i64 p.People,.int .i64 p.Watch,.int .i64 p.Quorum]) O O O O QC O ap .head O λco c V=>AX (kp [4,9,8,1,10] O) (AA (Bn (.inl O) c (AL O VW O (AS BZ c O mh O Ae O ?_))))
   have aq:=u.trans (G.trans V)
   have bu:=k6.mono aq
   refine Ac O bu BS DK O λcp bv=>Ah BZ c.1 O bv F9 O λcq bw=>Ag O bw FA O λbx=>?_
   obtain⟨bz,ar,E⟩:=bd E
   refine Aw O O O O7 O (λh' o=>F5 (St.all h') bo (JE bx) ar) (Bv O O (AB O O ?_))
   obtain⟨au,d,E⟩:=bd E
   refine AV 5 26 (.bool au) ?_ ?_
   ·cases av:(!bz)
    ·have d:=BV av d
     refine AC O O O (AL O VV O (AC O O O (AS BZ c O mh O Ae O (AC O O O ?_))))
     obtain⟨cr,aw,d⟩:=bd d
     refine Aw O O O JG O (λh' o=>Bp (St.all h') bp aw) (AC O O O (Bv O O (AO O O O ?_)))
     cases d
     exact AU O
    have d:=BU av d
    cases d
    exact Aa O O
   refine AB O O ?_
   obtain⟨ax,g,E⟩:=bd E
   refine AV 5 32 (.bool ax) ?_ ?_
   ·cases ay:au
    ·have g:=BV ay g
     refine AC O O O (AL O VU O (AC O O O (AS BZ c O mh O Ae O (AC O O O ?_))))
     obtain⟨cs,az,g⟩:=bd g
     refine Aw O O O HN O (λh' o=>Bl (St.all h') bq (iq (n:=0) O) (iq (n:=24) O) az) (AC O O O (Bv O O (AO O O O ?_)))
     cases g
     exact AU O
    have g:=BU ay g
    cases g
    exact Aa O O
   refine AB O O ?_
   obtain⟨a0,i,E⟩:=bd E
   refine AV 5 38 (.bool a0) ?_ ?_
   ·cases a1:ax
    ·have i:=BV a1 i
     refine AC O O O (AL O VT O (AC O O O (AS BZ c O mh O Ae O (AC O O O ?_))))
     obtain⟨ct,a2,i⟩:=bd i
     refine Aw O O O HN O (λh' o=>Bl (St.all h') br (iq (n:=0) O) (iq (n:=1073741824) O) a2) (AC O O O (Bv O O (AO O O O ?_)))
     cases i
     exact AU O
    have i:=BU a1 i
    cases i
    exact Aa O O
   refine AB O O ?_
   obtain⟨a3,j,E⟩:=bd E
   refine AV 5 44 (.bool a3) ?_ ?_
   ·cases a4:a0
    ·have j:=BV a4 j
     refine AC O O O (AL O VS O (AC O O O (AS BZ c O mh O Ae O (AC O O O ?_))))
     obtain⟨cu,a5,j⟩:=bd j
     refine Aw O O O JG O (λh' o=>Bp (St.all h') bs a5) (AC O O O (Bv O O (AO O O O ?_)))
     cases j
     exact AU O
    have j:=BU a4 j
    cases j
    exact Aa O O
   refine AB O O ?_
   obtain⟨b0,k,E⟩:=bd E
   refine AV 5 50 (.bool b0) ?_ ?_
   ·cases a6:a3
    ·have k:=BV a6 k
     refine AC O O O (AL O VR O (AC O O O (AS BZ c O mh O Ae O (AC O O O ?_))))
     obtain⟨cv,a7,k⟩:=bd k
     refine Aw O O O HN O (λh' o=>Bl (St.all h') bt (iq (n:=0) O) (iq (n:=128) O) a7) (AC O O O (Bv O O (AO O O O ?_)))
     cases k
     exact AU O
    have k:=BU a6 k
    cases k
    exact Aa O O
   refine BK (kp [50,9,8,1,10] O) λcw I a8=>AW O (λW=>?_) (λW=>?_)
   ·have E:=BU W E
    refine AA (AG (.inl O) (AF O O (AD (kp [2] O) (Ab (λaa ww hf hw=>?_)))))
    have a9:=I.drop .head
    cases E
    have ba:=e5.trans (u.trans (G.trans (V.trans a8)))
    exact Dp hf hw O O ba ⟨O,a9⟩
   have E:=BV W E
   refine AT (BJ (AG (.inl O) (Ap O O O (AB O O (AD (kp [10,9,8,1] O) (WF.nil (λaa ww hf hw=>?_)))))))
   have bb:=I.drop .head
   have bc:=u.trans (G.trans (V.trans a8))
   exact⟨(BD (s+1)),_,_,hf.sub (kp [9,8,1,10] O),hw,bb,bc,(BG _),E⟩
  have E:=BV U E
  refine BB O (λaa ww hf hw=>?_)
  exact⟨_,_,hf.sub (kp [1] O),hw,t,u,E⟩
 rintro aa ww ⟨X,Y,hf,hw,J,Z,E⟩
 refine Ad ?_ hf hw
 clear hf hw ww aa
 rw[DI] at E
 refine AA (AA (AG (.inl O) ?_))
 have b1:=k6.mono Z
 refine Ac O b1 Hx Ob O λcx b2=>Ah A3 J.1 O b2 Si O λb3 be=>Ag O be Pk O λcy=>AB O O (AD (kp [55,54,53] O) (Aj (λa w=>IV B X Y (64,[]) a w [] (L) λ_ _=>EX N=some r) ?_ ?_))
 ·refine Ay (λn3=>λa w=>∃(x:Int),IV B X Y (64,[]) a w [(54,.int .i64 (↑b.Shelters.length:Int)),(53,b3),(55,.int .i64 x)] (L) λ_ _=>AI x∧DG N b (EX N) n3 x=some r) N ?_ ?_ ?_
  ·intro aa ww hf hw
   exact⟨0,_,_,hf.sub (kp [54,53,55] O),hw,J,(B8.refl X Y),(iq (n:=0) O),E⟩
  ·rintro aa ww ⟨_,_,_,_,_,_,_,_,E⟩
   rw[DG] at E;cases E
  rintro n3 aa ww ⟨x,cz,c0,hf,hw,y,H,c1,E⟩
  refine Ad ?_ hf hw
  clear hf hw ww aa
  rw[DG] at E
  refine AA (AG (.inl O) (A0 O O O (AD (kp [56,54,53,55] O) (AA (AW O (λab=>?_) (λab=>?_))))))
  ·have E:=BU ab E
   refine AT (AA (A6 (AA (Am (AJ 2 ?_)))))
   have b4:=be.mono' H
   obtain⟨K,ac,E⟩:=bd E
   refine A8 O O b4 Pk ac O λb5 bf=>Bw A3 y.1 O bf QB (λe=>by cases e) O λb6 bg=>AE (Cg UC O y λb7 b8 ad z=>?_)
   have bh:=bg.mono z
   obtain⟨rfl,⟨b9,bi⟩⟩:=Cw.ex bh
   refine DD (vs:=[.string K.Name,.int .i64 K.Room]) O O O O QB O ad .head O λca A M=>AX (kp [6,54,53,55] O) (AA (Bn (.inl O) A (AL O VP O (AS BZ A O mh O Ae O ?_))))
   obtain⟨cb,ae,E⟩:=bd E
   refine Aw O O O HN O (λh' o=>Bl (St.all h') bi (iq (n:=0) O) (iq (n:=1073741824) O) ae) (Bv O O (BK (kp [62,54,53,55] O) λcc C Q=>AW O (λD=>?_) (λD=>?_)))
   ·have E:=BU D E
    refine AA (AG (.inl O) (AF O O (AD (kp [2] O) (Ab (λaa ww hf hw=>?_)))))
    have af:=C.drop .head
    cases E
    have ag:=e5.trans (Z.trans (H.trans (z.trans (M.trans Q))))
    exact Dp hf hw O O ag ⟨O,af⟩
   have E:=BV D E
   refine AT (BJ (AG (.inl O) (Ap O O O (AB O O (AD (kp [55,54,53] O) (WF.nil (λaa ww hf hw=>?_)))))))
   have ah:=C.drop .head
   have ai:=H.trans (z.trans (M.trans Q))
   exact⟨(BD (x+1)),_,_,hf.sub (kp [54,53,55] O),hw,ah,ai,(BG _),E⟩
  have E:=BV ab E
  refine BB O (λaa ww hf hw=>?_)
  exact⟨_,_,hf.sub OG,hw,y,H,E⟩
 rintro aa ww ⟨cd,ce,hf,hw,aj,bj,E⟩
 refine Ad ?_ hf hw
 clear hf hw ww aa
 rw[EX] at E
 refine AA (AG (.inl O) (AF O O (AD (kp [2] O) (Ab (λaa ww hf hw=>?_)))))
 cases E
 have ak:=e5.trans (Z.trans bj)
 exact Dp hf hw O O ak ⟨O,aj⟩
theorem La (hs:St S L h) {g:Value}{b:AZ}(A:Rd S h B0 g b) {r:Bool}(E:GC N b=some r):
 CG Tryz.prog 54 #[g] S h (λv S' h'=>v= .bool r∧St S' (L) h'):=by
 refine BC (l:=[g]) 47 Tryz.func54 O Tryz.ntmps54 O λB=>?_
 rw[GC] at E
 refine AA (Am (B1 O A (λe=>by cases e) O hs λq1 S2 h3 K e5 k6=>AJ 1 (AF O O (AE (AX (kp [1] O) (AA (AA (AG (.inl O) (Ac O k6 Jr Qe O λq7 k8=>Ah A3 K.1 O k8 UK O λv9 M=>Ag O M RG O λbf=>AB O O (AD (kp [9,8,7,1] O) (Aj (λa w=>IV B S2 h3 (47,[]) a w [] (L) λ_ _=>EL N=some r) ?_ ?_)))))))))))
 ·refine Ay (λn1=>λa w=>∃(s:Int),IV B S2 h3 (47,[]) a w [(8,.int .i64 (↑b.Gauges.length:Int)),(7,v9),(1,q1),(9,.int .i64 s)] (L) λ_ _=>AI s∧C9 N b (EL N) n1 s=some r) N ?_ ?_ ?_
  ·intro aa ww hf hw
   exact⟨0,_,_,hf.sub (kp [8,7,1,9] O),hw,K,(B8.refl S2 h3),(iq (n:=0) O),E⟩
  ·rintro aa ww ⟨_,_,_,_,_,_,_,_,E⟩
   rw[C9] at E;cases E
  rintro n1 aa ww ⟨s,bg,bh,hf,hw,t,m,bi,E⟩
  refine Ad ?_ hf hw
  clear hf hw ww aa
  rw[C9] at E
  refine AA (AG (.inl O) (A0 O O O (AD (kp [10,8,7,1,9] O) (AA (AW O (λG=>?_) (λG=>?_))))))
  ·have E:=BU G E
   refine AT (AA (A6 (AA (Am (AJ 2 ?_)))))
   have ar:=M.mono' m
   obtain⟨u,Q,E⟩:=bd E
   refine A8 O O ar RG Q O λbj au=>Bw A3 t.1 O au QA (λe=>by cases e) O λbk av=>AE (Cg UB O t λbl bm U x=>?_)
   have aw:=av.mono x
   obtain⟨rfl,⟨bn,ax,ay,az,a0⟩⟩:=D4.ex aw
   refine DD (vs:=[.string u.Name,.int .i64 u.Kind,.int .i64 u.Target,.int .i64 u.Err,.int .i64 u.Drift]) O O O O QA O U .head O λbo j C=>AX (kp [4,8,7,1,9] O) (AA (AA (Bn (.inl O) j (AL O Rh O (AS BZ j O mh O Ae O ?_)))))
   obtain⟨a1,V,E⟩:=bd E
   refine Aw O O O HN O (λh' o=>Bl (St.all h') ax (iq (n:=0) O) (iq (n:=2) O) V) (Bv O O (AB O O ?_))
   obtain⟨W,c,E⟩:=bd E
   refine AV 5 22 (.bool W) ?_ ?_
   ·cases X:(!a1)
    ·have c:=BV X c
     refine AC O O O (AL O VM O (AC O O O (AS BZ j O mh O Ae O (AC O O O ?_))))
     obtain⟨bp,Y,c⟩:=bd c
     refine Aw O O O HN O (λh' o=>Bl (St.all h') az (iq (n:=0) O) (iq (n:=1099511627776) O) Y) (AC O O O (Bv O O (AO O O O ?_)))
     cases c
     exact AU O
    have c:=BU X c
    cases c
    exact Aa O O
   refine AB O O ?_
   obtain⟨a2,d,E⟩:=bd E
   refine AV 5 28 (.bool a2) ?_ ?_
   ·cases Z:W
    ·have d:=BV Z d
     refine AC O O O (AL O VL O (AC O O O (AS BZ j O mh O Ae O (AC O O O ?_))))
     obtain⟨bq,ab,d⟩:=bd d
     refine Aw O O O HN O (λh' o=>Bl (St.all h') a0 (iq (n:=0) O) (iq (n:=1440) O) ab) (AC O O O (Bv O O (AO O O O ?_)))
     cases d
     exact AU O
    have d:=BU Z d
    cases d
    exact Aa O O
   refine BK (kp [28,4,8,7,1,9] O) λbr i D=>AW O (λH=>?_) (λH=>?_)
   ·have E:=BU H E
    refine AA (AG (.inl O) (AF O O (AD (kp [2] O) (Ab (λaa ww hf hw=>?_)))))
    have ac:=i.drop .head
    cases E
    have ad:=e5.trans (m.trans (x.trans (C.trans D)))
    exact Dp hf hw O O ad ⟨O,ac⟩
   have E:=BV H E
   refine AT (AA (Am (AJ 9 ?_)))
   have ae:=m.trans (x.trans (C.trans D))
   have I:=k6.mono ae
   refine Ac O I BS DK O λbs a3=>Ah A3 i.1 O a3 F9 O λbt a4=>Ag O a4 FA O λa5=>Ac O I KM Qf O λbu a6=>Af A3 i.1 O a6 Ae O λa7=>Ac O I DU Ft O λbv a8=>Ah A3 i.1 O a8 Ir O λbw a9=>Ag O a9 G4 O λba=>W5 (cs:=[.int .i64 (↑b.Places.length:Int),.int .i64 b.Cells,.int .i64 (↑b.Links.length:Int)]) Yv O O O (AE (Cg X0 O i λbx bz af ag=>DD (vs:=[.int .i64 (↑b.Places.length:Int),.int .i64 b.Cells,.int .i64 (↑b.Links.length:Int)]) O O O O X8 O af .head O λb0 k ah=>AX (kp [5,4,8,7,1,9] O) (AA (Bn (.inr ⟨mo,by kernel_rfl⟩) k (AL O VN O (AS BZ k O (mt mh) O Ae O (AL O Rh O (AS BZ k O (mt mh) O Ae O ?_))))))))
   obtain⟨bb,y,E⟩:=bd E
   have ai:=Z4 y
   refine Y4 O O Yt ai.1 ai.2 O (W2 (l:=([(↑b.Places.length:Int),b.Cells,(↑b.Links.length:Int)]:List Int)) (Value.int .i64) BZ k O mh O y Ae O ?_)
   have bc:AI bb:=Z3 (p:=λz=>AI z) (all_cons (JE a5) (all_cons a7 (all_cons (JE ba) Wo))) y
   obtain⟨b1,aj,E⟩:=bd E
   refine Aw O O O O7 O (λh' o=>F5 (St.all h') ay bc aj) (Bv O O (BK (kp [45,8,7,1,9] O) λb2 F ak=>AW O (λJ=>?_) (λJ=>?_)))
   ·have E:=BU J E
    refine AA (AG (.inl O) (AF O O (AD (kp [2] O) (Ab (λaa ww hf hw=>?_)))))
    have am:=F.sel [] 2 O
    cases E
    have an:=e5.trans (m.trans (x.trans (C.trans (D.trans (ag.trans (ah.trans ak))))))
    exact Dp hf hw O O an ⟨O,am⟩
   have E:=BV J E
   refine AT (BJ (AG (.inl O) (Ap O O O (AB O O (AD (kp [9,8,7,1] O) (WF.nil (λaa ww hf hw=>?_)))))))
   have ao:=F.sel [] 2 O
   have ap:=m.trans (x.trans (C.trans (D.trans (ag.trans (ah.trans ak)))))
   exact⟨(BD (s+1)),_,_,hf.sub (kp [8,7,1,9] O),hw,ao,ap,(BG _),E⟩
  have E:=BV G E
  refine BB O (λaa ww hf hw=>?_)
  exact⟨_,_,hf.sub OG,hw,t,m,E⟩
 rintro aa ww ⟨b3,b4,hf,hw,aq,be,E⟩
 refine Ad ?_ hf hw
 clear hf hw ww aa
 rw[EL] at E
 refine AA (AG (.inl O) (AF O O (AD (kp [2] O) (Ab (λaa ww hf hw=>?_)))))
 cases E
 exact Dp hf hw O O (e5.trans be) ⟨O,aq⟩
theorem L4 (hs:St S L h) {s:Value}{t:AZ}(C:Rd S h B0 s t) {r:Bool}(E:GV N t=some r):
 CG Tryz.prog 55 #[s] S h (λv S' h'=>v= .bool r∧St S' (L) h'):=by
 refine BC (l:=[s]) 80 Tryz.func55 O Tryz.ntmps55 O λB=>?_
 rw[GV] at E
 refine AA (Am (B1 O C (λe=>by cases e) O hs λq1 S2 h3 Y e5 k6=>AJ 1 (AF O O (AE (AX (kp [1] O) (AA (AA (AG (.inl O) (Ac O k6 KL Qd O λq7 k8=>Ah A3 Y.1 O k8 UJ O λv9 Z=>Ag O Z RE O λbq=>AB O O (AD (kp [8,7,6,1] O) (Aj (λa w=>IV B S2 h3 (80,[]) a w [] (L) λ_ _=>EY N=some r) ?_ ?_)))))))))))
 ·refine Ay (λn1=>λa w=>∃(x:Int),IV B S2 h3 (80,[]) a w [(7,.int .i64 (↑t.Roads.length:Int)),(6,v9),(1,q1),(8,.int .i64 x)] (L) λ_ _=>AI x∧DJ N t (EY N) n1 x=some r) N ?_ ?_ ?_
  ·intro aa ww hf hw
   exact⟨0,_,_,hf.sub (kp [7,6,1,8] O),hw,Y,(B8.refl S2 h3),(iq (n:=0) O),E⟩
  ·rintro aa ww ⟨_,_,_,_,_,_,_,_,E⟩
   rw[DJ] at E;cases E
  rintro n1 aa ww ⟨x,br,bs,hf,hw,y,u,bt,E⟩
  refine Ad ?_ hf hw
  clear hf hw ww aa
  rw[DJ] at E
  refine AA (AG (.inl O) (A0 O O O (AD (kp [9,7,6,1,8] O) (AA (AW O (λK=>?_) (λK=>?_))))))
  ·have E:=BU K E
   refine AT (AA (A6 (AA (Am (AJ 2 ?_)))))
   have ay:=Z.mono' u
   obtain⟨b,ab,E⟩:=bd E
   refine A8 O O ay RE ab O λbu az=>Bw A3 y.1 O az P9 (λe=>by cases e) O λbv a0=>AE (Cg UA O y λbw bx ac z=>?_)
   have a1:=a0.mono z
   obtain⟨rfl,⟨bz,a2,a3,a4,a5,a6,a7⟩⟩:=Fo.ex a1
   refine DD (vs:=[.string b.Name,.int .i64 b.From,.int .i64 b.To,.int .i64 b.Hours,.int .i64 b.Flow,.int .i64 b.By,.int .i64 b.Limit]) O O O O P9 O ac .head O λb0 c D=>AX (kp [4,7,6,1,8] O) (AA (AA (Bn (.inl O) c (AL O Rg O (AS BZ c O mh O Ae O ?_)))))
   have ad:=u.trans (z.trans D)
   have F:=k6.mono ad
   refine Ac O F IC NR O λb1 a8=>Ah BZ c.1 O a8 Q6 O λb2 a9=>Ag O a9 Ok O λba=>?_
   obtain⟨bb,ae,E⟩:=bd E
   refine Aw O O O O7 O (λh' o=>F5 (St.all h') a2 (JE ba) ae) (Bv O O (AB O O ?_))
   obtain⟨G,d,E⟩:=bd E
   refine AV 12 31 (.bool G) ?_ ?_
   ·cases af:(!bb)
    ·have d:=BV af d
     refine AC O O O (AL O Rf O (AC O O O (AS BZ c O mh O Ae O (AC O O O (Ac O F IC NR O λb3 bc=>AC O O O (Ah BZ c.1 O bc Q6 O λb4 be=>AC O O O (Ag O be Ok O λb5=>AC O O O (Ac O F Hx Ob O λb6 bf=>AC O O O (Ah BZ c.1 O bf Si O λb7 bg=>AC O O O (Ag O bg Pk O λb8=>AC O O O (Ap O O O (AC O O O ?_))))))))))))
     obtain⟨b9,ag,d⟩:=bd d
     refine Aw O O O O7 O (λh' o=>F5 (St.all h') a3 (BG _) ag) (AC O O O (Bv O O (AO O O O ?_)))
     cases d
     exact AU O
    have d:=BU af d
    cases d
    exact Aa O O
   refine AB O O (AV 6 38 (.bool (G||(decide (b.From=b.To)))) ?_ ?_)
   ·cases ca:G
    ·exact AC O O O (AL O Rg O (AC O O O (AS BZ c O mh O Ae O (AC O O O (AL O Rf O (AC O O O (AS BZ c O mh O Ae O (AC O O O (Bd O O O (AO O O O (AU O)))))))))))
    exact Aa O O
   refine AB O O ?_
   obtain⟨ah,g,E⟩:=bd E
   refine AV 5 44 (.bool ah) ?_ ?_
   ·cases ai:(G||(decide (b.From=b.To)))
    ·have g:=BV ai g
     refine AC O O O (AL O VJ O (AC O O O (AS BZ c O mh O Ae O (AC O O O ?_))))
     obtain⟨cb,aj,g⟩:=bd g
     refine Aw O O O HN O (λh' o=>Bl (St.all h') a4 (iq (n:=1) O) (iq (n:=24) O) aj) (AC O O O (Bv O O (AO O O O ?_)))
     cases g
     exact AU O
    have g:=BU ai g
    cases g
    exact Aa O O
   refine AB O O ?_
   obtain⟨ak,i,E⟩:=bd E
   refine AV 5 50 (.bool ak) ?_ ?_
   ·cases am:ah
    ·have i:=BV am i
     refine AC O O O (AL O VI O (AC O O O (AS BZ c O mh O Ae O (AC O O O ?_))))
     obtain⟨cc,an,i⟩:=bd i
     refine Aw O O O HN O (λh' o=>Bl (St.all h') a5 (iq (n:=0) O) (iq (n:=1073741824) O) an) (AC O O O (Bv O O (AO O O O ?_)))
     cases i
     exact AU O
    have i:=BU am i
    cases i
    exact Aa O O
   refine AB O O ?_
   obtain⟨bh,j,E⟩:=bd E
   refine AV 5 56 (.bool bh) ?_ ?_
   ·cases ao:ak
    ·have j:=BV ao j
     refine AC O O O (AL O Re O (AC O O O (AS BZ c O mh O Ae O (AC O O O ?_))))
     obtain⟨cd,ap,j⟩:=bd j
     refine Aw O O O JG O (λh' o=>Bp (St.all h') a7 ap) (AC O O O (Bv O O (AO O O O ?_)))
     cases j
     exact AU O
    have j:=BU ao j
    cases j
    exact Aa O O
   refine BK (kp [56,4,7,6,1,8] O) λce p H=>AW O (λM=>?_) (λM=>?_)
   ·have E:=BU M E
    refine AA (AG (.inl O) (AF O O (AD (kp [2] O) (Ab (λaa ww hf hw=>?_)))))
    have aq:=p.drop .head
    cases E
    have ar:=e5.trans (u.trans (z.trans (D.trans H)))
    exact Dp hf hw O O ar ⟨O,aq⟩
   have E:=BV M E
   refine AT (AA (Bn (.inl O) p (AL O O3 O (AS BZ p O mh O Ae O (Bd O O O (AB O O (AV 4 64 (.bool ((decide (b.By=(-1)))&&(decide (b.Limit≠0)))) ?_ ?_)))))))
   ·cases cf:(decide (b.By=(-1)))
    ·exact Aa O O
    exact AC O O O (AL O Re O (AC O O O (AS BZ p O mh O Ae O (AC O O O (CH O O O (AO O O O (AU O)))))))
   refine AB O O ?_
   obtain⟨bi,k,E⟩:=bd E
   refine AV 13 78 (.bool bi) ?_ ?_
   ·cases au:((decide (b.By=(-1)))&&(decide (b.Limit≠0)))
    ·have k:=BV au k
     refine AC O O O (AL O O3 O (AC O O O (AS BZ p O mh O Ae O (AC O O O (CH O O O (AC O O O (AB O O ?_)))))))
     obtain⟨bj,m,k⟩:=bd k
     refine AV 8 77 (.bool bj) ?_ ?_
     ·cases av:(decide (b.By≠(-1)))
      ·have m:=BV av m
       cases m
       exact Aa O O
      have m:=BU av m
      refine AC O O O (AL O O3 O (AC O O O (AS BZ p O mh O Ae O (AC O O O ?_))))
      have bk:=F.mono H
      refine Ac O bk BS DK O λcg bl=>AC O O O (Ah BZ p.1 O bl F9 O λch bm=>AC O O O (Ag O bm FA O λbn=>AC O O O ?_))
      obtain⟨ci,aw,m⟩:=bd m
      refine Aw O O O O7 O (λh' o=>F5 (St.all h') a6 (JE bn) aw) (AC O O O (Bv O O (AC O O O (AO O O O ?_))))
      cases m
      exact AU O
     refine AO O O O ?_
     cases k
     exact AU O
    have k:=BU au k
    cases k
    exact Aa O O
   refine BK (kp [78,7,6,1,8] O) λcj I J=>AW O (λA=>?_) (λA=>?_)
   ·have E:=BU A E
    refine AA (AG (.inl O) (AF O O (AD (kp [2] O) (Ab (λaa ww hf hw=>?_)))))
    have Q:=I.drop .head
    cases E
    have U:=e5.trans (u.trans (z.trans (D.trans (H.trans J))))
    exact Dp hf hw O O U ⟨O,Q⟩
   have E:=BV A E
   refine AT (BJ (AG (.inl O) (Ap O O O (AB O O (AD (kp [8,7,6,1] O) (WF.nil (λaa ww hf hw=>?_)))))))
   have V:=I.drop .head
   have W:=u.trans (z.trans (D.trans (H.trans J)))
   exact⟨(BD (x+1)),_,_,hf.sub (kp [7,6,1,8] O),hw,V,W,(BG _),E⟩
  have E:=BV K E
  refine BB O (λaa ww hf hw=>?_)
  exact⟨_,_,hf.sub OG,hw,y,u,E⟩
 rintro aa ww ⟨bo,bp,hf,hw,X,ax,E⟩
 refine Ad ?_ hf hw
 clear hf hw ww aa
 rw[EY] at E
 refine AA (AG (.inl O) (AF O O (AD (kp [2] O) (Ab (λaa ww hf hw=>?_)))))
 cases E
 exact Dp hf hw O O (e5.trans ax) ⟨O,X⟩
theorem LP (hs:St S L h) {n:Value}{t:AZ}(p:Rd S h B0 n t) {r:Bool}(E:GL N t=some r):
 CG Tryz.prog 27 #[n] S h (λv S' h'=>v= .bool r∧St S' (L) h'):=by
 refine BC (l:=[n]) 37 Tryz.func27 O Tryz.ntmps27 O λB=>?_
 rw[GL] at E
 refine AA (Am (B1 O p (λe=>by cases e) O hs λq1 S2 h3 a e5 s=>AJ 1 (AF O O (AE (AX (kp [1] O) (AA (Bn (.inl O) a (Bw BZ a.1 O s Gp (λe=>by cases e) O λv7 k8=>?_))))))))
 obtain⟨y9,ad,E⟩:=bd E
 refine Aw O O O bI O (λh' o=>Md (St.all h') (k8.mono (o.all a.1)) ad) (AB O O ?_)
 obtain⟨u,b,E⟩:=bd E
 refine AV 3 8 (.bool u) ?_ ?_
 ·cases w:y9
  ·have b:=BV w b
   cases b
   exact Aa O O
  have b:=BU w b
  refine AC O O O (Bw BZ a.1 O s Gp (λe=>by cases e) O λao ae=>AC O O O ?_)
  obtain⟨ap,x,b⟩:=bd b
  refine Aw O O O bH O (λh' o=>L5 (St.all h') (ae.mono (o.all a.1)) x) (AO O O O ?_)
  cases b
  exact AU O
 refine AB O O ?_
 obtain⟨y,c,E⟩:=bd E
 refine AV 3 12 (.bool y) ?_ ?_
 ·cases z:u
  ·have c:=BV z c
   cases c
   exact Aa O O
  have c:=BU z c
  refine AC O O O (Bw BZ a.1 O s Gp (λe=>by cases e) O λaq af=>AC O O O ?_)
  obtain⟨ar,A,c⟩:=bd c
  refine Aw O O O bG O (λh' o=>LZ (St.all h') (af.mono (o.all a.1)) A) (AO O O O ?_)
  cases c
  exact AU O
 refine AB O O ?_
 obtain⟨C,d,E⟩:=bd E
 refine AV 3 16 (.bool C) ?_ ?_
 ·cases D:y
  ·have d:=BV D d
   cases d
   exact Aa O O
  have d:=BU D d
  refine AC O O O (Bw BZ a.1 O s Gp (λe=>by cases e) O λau ag=>AC O O O ?_)
  obtain⟨av,F,d⟩:=bd d
  refine Aw O O O bF O (λh' o=>L6 (St.all h') (ag.mono (o.all a.1)) F) (AO O O O ?_)
  cases d
  exact AU O
 refine AB O O ?_
 obtain⟨G,g,E⟩:=bd E
 refine AV 3 20 (.bool G) ?_ ?_
 ·cases H:C
  ·have g:=BV H g
   cases g
   exact Aa O O
  have g:=BU H g
  refine AC O O O (Bw BZ a.1 O s Gp (λe=>by cases e) O λaw ah=>AC O O O ?_)
  obtain⟨ax,I,g⟩:=bd g
  refine Aw O O O bE O (λh' o=>LE (St.all h') (ah.mono (o.all a.1)) I) (AO O O O ?_)
  cases g
  exact AU O
 refine AB O O ?_
 obtain⟨J,i,E⟩:=bd E
 refine AV 3 24 (.bool J) ?_ ?_
 ·cases K:G
  ·have i:=BV K i
   cases i
   exact Aa O O
  have i:=BU K i
  refine AC O O O (Bw BZ a.1 O s Gp (λe=>by cases e) O λay ai=>AC O O O ?_)
  obtain⟨az,M,i⟩:=bd i
  refine Aw O O O bD O (λh' o=>LY (St.all h') (ai.mono (o.all a.1)) M) (AO O O O ?_)
  cases i
  exact AU O
 refine AB O O ?_
 obtain⟨Q,j,E⟩:=bd E
 refine AV 3 28 (.bool Q) ?_ ?_
 ·cases U:J
  ·have j:=BV U j
   cases j
   exact Aa O O
  have j:=BU U j
  refine AC O O O (Bw BZ a.1 O s Gp (λe=>by cases e) O λa0 aj=>AC O O O ?_)
  obtain⟨a1,V,j⟩:=bd j
  refine Aw O O O bC O (λh' o=>L3 (St.all h') (aj.mono (o.all a.1)) V) (AO O O O ?_)
  cases j
  exact AU O
 refine AB O O ?_
 obtain⟨W,k,E⟩:=bd E
 refine AV 3 32 (.bool W) ?_ ?_
 ·cases X:Q
  ·have k:=BV X k
   cases k
   exact Aa O O
  have k:=BU X k
  refine AC O O O (Bw BZ a.1 O s Gp (λe=>by cases e) O λa2 ak=>AC O O O ?_)
  obtain⟨a3,Y,k⟩:=bd k
  refine Aw O O O bB O (λh' o=>La (St.all h') (ak.mono (o.all a.1)) Y) (AO O O O ?_)
  cases k
  exact AU O
 refine AB O O ?_
 obtain⟨al,m,E⟩:=bd E
 refine AV 3 36 (.bool al) ?_ ?_
 ·cases Z:W
  ·have m:=BV Z m
   cases m
   exact Aa O O
  have m:=BU Z m
  refine AC O O O (Bw BZ a.1 O s Gp (λe=>by cases e) O λa4 am=>AC O O O ?_)
  obtain⟨a5,ab,m⟩:=bd m
  refine Aw O O O bA O (λh' o=>L4 (St.all h') (am.mono (o.all a.1)) ab) (AO O O O ?_)
  cases m
  exact AU O
 refine AF O O (BK (kp [2] O) λa6 ac an=>Ab (λaa ww hf hw=>?_))
 cases E
 exact Dp hf hw O O (e5.trans an) ⟨O,ac⟩
theorem Lr (hs:St S L h) {b:Value}{c:(List Int)}(d:Sl S h AN.int b c) {r:Bool}(E:IE N c=some r):
 CG Tryz.prog 91 #[b] S h (λv S' h'=>v= .bool r∧St S' (L) h'):=by
 refine BC (l:=[b]) 24 Tryz.func91 O Tryz.ntmps91 O λB=>?_
 rw[IE] at E
 refine AA (AG (.inl O) (AF O O (AD (kp [0] O) (AA (AG (.inl O) (AF O O (AD (kp [3,0] O) (AA (AA (AG (.inl O) (AB O O (Ag O d BP O λI=>AB O O (AD (kp [8,7,6,3] O) (Aj (λa w=>IV B S h (24,[]) a w [] (L) λ_ _=>Gh N=some r) ?_ ?_))))))))))))))
 ·refine Ay (λy=>λa w=>∃(o:Int) (p:Int),IV B S h (24,[]) a w [(7,.int .i64 (↑c.length:Int)),(6,b),(3,.int .i64 o),(8,.int .i64 p)] (L) λ_ _=>AI o∧AI p∧FM N c (Gh N) y o p=some r) N ?_ ?_ ?_
  ·intro aa ww hf hw
   exact⟨0,0,_,_,hf.sub (kp [7,6,3,8] O),hw,hs,(B8.refl S h),(iq (n:=0) O),(iq (n:=0) O),E⟩
  ·rintro aa ww ⟨_,_,_,_,_,_,_,_,_,_,E⟩
   rw[FM] at E;cases E
  rintro y aa ww ⟨o,p,z,A,hf,hw,g,i,J,K,E⟩
  refine Ad ?_ hf hw
  clear hf hw ww aa
  rw[FM] at E
  refine AA (AG (.inl O) (A0 O O O (AD (kp [9,7,6,3,8] O) (AA (AW O (λk=>?_) (λk=>?_))))))
  ·have E:=BU k E
   refine AT (AA (A6 (AA (AG (.inl O) ?_))))
   have t:=d.mono' i
   obtain⟨j,q,E⟩:=bd E
   refine A8 O O t BP q O λC u=>Af A3 g.1 O u Ae O λD=>AF O O (AD (kp [5,7,6,3,8] O) (AA (AA (AG (.inl O) (AB O O (A0 O O O (AB O O (AV 5 19 (.bool ((decide (j<0))||(decide ((BD (1125899906842624-o))<j)))) ?_ ?_))))))))
   ·cases F:(decide (j<0))
    ·exact AC O O O (AB O O (AC O O O (AB O O (AC O O O (Dg O O O (AC O O O (CE O O O (AO O O O (AU O)))))))))
    exact Aa O O
   refine AD (kp [19,5,7,6,3,8] O) (AW O (λm=>?_) (λm=>?_))
   ·have E:=BU m E
    refine AA (AG (.inl O) (AF O O (AD (kp [2] O) (Ab (λaa ww hf hw=>?_)))))
    cases E
    exact Dp hf hw O O i ⟨O,g⟩
   have E:=BV m E
   refine AT (AG (.inl O) (AB O O (AB O O (Ap O O O (AF O O (AD (kp [3,7,6,8] O) (BJ (AG (.inl O) (Ap O O O (AB O O (AD (kp [8,3,7,6] O) (WF.nil (λaa ww hf hw=>?_)))))))))))))
   exact⟨(BD (o+j)),(BD (p+1)),_,_,hf.sub (kp [7,6,3,8] O),hw,g,i,(BG _),(BG _),E⟩
  have E:=BV k E
  refine BB O (λaa ww hf hw=>?_)
  exact⟨_,_,hf.sub OG,hw,g,i,E⟩
 rintro aa ww ⟨G,H,hf,hw,s,x,E⟩
 refine Ad ?_ hf hw
 clear hf hw ww aa
 rw[Gh] at E
 refine AA (AG (.inl O) (AF O O (AD (kp [2] O) (Ab (λaa ww hf hw=>?_)))))
 cases E
 exact Dp hf hw O O x ⟨O,s⟩
theorem Ls (hs:St S L h) {b:Value}{d:(List Int)}(g:Sl S h AN.int b d) {a:Int}(i:AI a) {r:Bool}(E:IF N d a=some r):
 CG Tryz.prog 67 #[b,.int .i64 a] S h (λv S' h'=>v= .bool r∧St S' (L) h'):=by
 refine BC (l:=[b,.int .i64 a]) 21 Tryz.func67 O Tryz.ntmps67 O λB=>?_
 rw[IF] at E
 refine AA (AG (.inl O) (AF O O (AD (kp [0,1] O) (AA (Bn (.inl O) hs (AB O O (Hr O O O (AB O O (AV 3 10 (.bool ((decide (0≤a))&&(decide (a≤16)))) ?_ ?_)))))))))
 ·cases q:(decide (0≤a))
  ·exact Aa O O
  exact AC O O O (AB O O (AC O O O (HW O O O (AO O O O (AU O)))))
 refine AB O O (AV 5 16 (.bool (((decide (0≤a))&&(decide (a≤16)))&&(decide ((↑d.length:Int)=a)))) ?_ ?_)
 ·cases s:((decide (0≤a))&&(decide (a≤16)))
  ·exact Aa O O
  exact AC O O O (AB O O (AC O O O (Ag O g BP O λt=>AC O O O (AB O O (AC O O O (Bd O O O (AO O O O (AU O))))))))
 refine AB O O ?_
 obtain⟨p,c,E⟩:=bd E
 refine AV 3 20 (.bool p) ?_ ?_
 ·cases n:(((decide (0≤a))&&(decide (a≤16)))&&(decide ((↑d.length:Int)=a)))
  ·have c:=BV n c
   cases c
   exact Aa O O
  have c:=BU n c
  refine AC O O O (AB O O (AC O O O ?_))
  obtain⟨u,j,c⟩:=bd c
  refine Aw O O O Xh O (λh' o=>Lr (St.all h') (g.mono' (o.all hs.1)) j) (AO O O O ?_)
  cases c
  exact AU O
 refine AF O O (BK (kp [4] O) λw k m=>Ab (λaa ww hf hw=>?_))
 cases E
 exact Dp hf hw O O m ⟨O,k⟩
theorem Hp (hs:St S L h) {b:Int}(c:AI b) {a:Int}(d:AI a) {r:Int}(E:qZ N b a=some r):
 CG Tryz.prog 36 #[.int .i64 b,.int .i64 a] S h (λv S' h'=>v= .int .i64 r∧AI r∧St S' (L) h'):=by
 refine BC (l:=[.int .i64 b,.int .i64 a]) 24 Tryz.func36 O Tryz.ntmps36 O λB=>?_
 rw[qZ] at E
 refine AA (AG (.inl O) (AF O O (AD (kp [0,1] O) (AA (AA (AG (.inl O) (AB O O (CE O O O (AB O O (AV 5 12 (.bool ((decide (0<a))&&(decide ((BD (9223372036854775807-a))<b)))) ?_ ?_))))))))))
 ·cases j:(decide (0<a))
  ·exact Aa O O
  exact AC O O O (AB O O (AC O O O (AB O O (AC O O O (Dg O O O (AC O O O (CE O O O (AO O O O (AU O)))))))))
 refine AD (kp [12,0,1] O) (AW O (λg=>?_) (λg=>?_))
 ·have E:=BU g E
  refine AA (AG (.inl O) (AF O O (AD (kp [4] O) (Ab (λaa ww hf hw=>?_)))))
  cases E
  exact Dp hf hw O O (B8.refl S h) ⟨O,(iq (n:=9223372036854775807) O),hs⟩
 have E:=BV g E
 refine AT (AA (AA (AG (.inl O) (AB O O (A0 O O O (AB O O (AV 5 20 (.bool ((decide (a<0))&&(decide (b<(BD ((-9223372036854775808)-a)))))) ?_ ?_)))))))
 ·cases k:(decide (a<0))
  ·exact Aa O O
  exact AC O O O (AB O O (AC O O O (AB O O (AC O O O (Dg O O O (AC O O O (A0 O O O (AO O O O (AU O)))))))))
 refine AD (kp [20,0,1] O) (AW O (λi=>?_) (λi=>?_))
 ·have E:=BU i E
  refine AA (AG (.inl O) (AF O O (AD (kp [4] O) (Ab (λaa ww hf hw=>?_)))))
  cases E
  exact Dp hf hw O O (B8.refl S h) ⟨O,(iq (n:=(-9223372036854775808)) O),hs⟩
 have E:=BV i E
 refine AT (AA (AG (.inl O) (AB O O (AB O O (Ap O O O (AF O O (AD (kp [4] O) (Ab (λaa ww hf hw=>?_)))))))))
 cases E
 exact Dp hf hw O O (B8.refl S h) ⟨O,(BG _),hs⟩
theorem Ea (hs:St S L h) {b:Value}{c:(List Int)}(d:Sl S h AN.int b c) {r:Int}(E:Dy N c=some r):
 CG Tryz.prog 59 #[b] S h (λv S' h'=>v= .int .i64 r∧AI r∧St S' (L) h'):=by
 refine BC (l:=[b]) 17 Tryz.func59 O Tryz.ntmps59 O λB=>?_
 rw[Dy] at E
 refine AA (AG (.inl O) (AF O O (AD (kp [0] O) (AA (AG (.inl O) (AF O O (AD (kp [3,0] O) (AA (AA (AG (.inl O) (AB O O (Ag O d BP O λZ=>AB O O (AD (kp [8,7,6,3] O) (Aj (λa w=>∃(u:Int),IV B S h (17,[]) a w [(3,.int .i64 u)] (L) λ_ _=>AI u∧Gi N u=some r) ?_ ?_))))))))))))))
 ·refine Ay (λH=>λa w=>∃(m:Int) (g:Int),IV B S h (17,[]) a w [(7,.int .i64 (↑c.length:Int)),(6,b),(3,.int .i64 m),(8,.int .i64 g)] (L) λ_ _=>AI m∧AI g∧FO N c (Gi N) H m g=some r) N ?_ ?_ ?_
  ·intro aa ww hf hw
   exact⟨0,0,_,_,hf.sub (kp [7,6,3,8] O),hw,hs,(B8.refl S h),(iq (n:=0) O),(iq (n:=0) O),E⟩
  ·rintro aa ww ⟨_,_,_,_,_,_,_,_,_,_,E⟩
   rw[FO] at E;cases E
  rintro H aa ww ⟨m,g,J,K,hf,hw,i,j,I,M,E⟩
  refine Ad ?_ hf hw
  clear hf hw ww aa
  rw[FO] at E
  refine AA (AG (.inl O) (A0 O O O (AD (kp [9,7,6,3,8] O) (AA (AW O (λk=>?_) (λk=>?_))))))
  ·have E:=BU k E
   refine AT (AA (A6 (AA (AG (.inl O) ?_))))
   have x:=d.mono' j
   obtain⟨Q,p,E⟩:=bd E
   refine A8 O O x BP p O λU y=>Af A3 i.1 O y Ae O λz=>AF O O (AD (kp [5,7,6,3,8] O) (Bn (.inl O) i (AB O O (AB O O ?_))))
   obtain⟨A,q,E⟩:=bd E
   refine CM O O O P1 O (λh' o=>Hp (St.all h') I z q) λC=>?_
   have D:=C
   refine AF O O (BK (kp [3,7,6,8] O) λV s F=>BJ (AG (.inl O) (Ap O O O (AB O O (AD (kp [8,3,7,6] O) (WF.nil (λaa ww hf hw=>?_)))))))
   exact⟨A,(BD (g+1)),_,_,hf.sub (kp [7,6,3,8] O),hw,s,(j.trans F),D,(BG _),E⟩
  have E:=BV k E
  refine BB O (λaa ww hf hw=>?_)
  exact⟨m,_,_,hf.sub (kp [3] O),hw,i,j,I,E⟩
 rintro aa ww ⟨u,W,X,hf,hw,t,G,Y,E⟩
 refine Ad ?_ hf hw
 clear hf hw ww aa
 rw[Gi] at E
 refine AA (AG (.inl O) (AB O O (AF O O (AD (kp [2] O) (Ab (λaa ww hf hw=>?_))))))
 cases E
 exact Dp hf hw O O G ⟨O,Y,t⟩
theorem Fe (hs:St S L h) {b:Int}(d:AI b) {a:Int}(c:AI a) {r:Bool}(E:FC N b a=some r):
 CG Tryz.prog 57 #[.int .i64 b,.int .i64 a] S h (λv S' h'=>v= .bool r∧St S' (L) h'):=by
 refine BC (l:=[.int .i64 b,.int .i64 a]) 12 Tryz.func57 O Tryz.ntmps57 O λB=>?_
 rw[FC] at E
 refine AA (AG (.inl O) (AF O O (AD (kp [0,1] O) (AA (AG (.inl O) (AB O O (Hr O O O (AB O O (AV 4 11 (.bool ((decide (0≤b))&&(decide (b<a)))) ?_ ?_)))))))))
 ·cases g:(decide (0≤b))
  ·exact Aa O O
  exact AC O O O (AB O O (AC O O O (AB O O (AC O O O (A0 O O O (AO O O O (AU O)))))))
 refine AF O O (AD (kp [4] O) (Ab (λaa ww hf hw=>?_)))
 cases E
 exact Dp hf hw O O (B8.refl S h) ⟨O,hs⟩
theorem OC (hs:St S L h) {k:Value}{j:AZ}(X:Rd S h B0 k j) {m:Value}{g:Al}(Y:Rd S h CL m g) {r:Int×Bool}(E:IT N j g=some r):
 CG Tryz.prog 37 #[k,m] S h (λv S' h'=>v= .tuple #[.int .i64 r.1,.bool r.2]∧AI r.1∧St S' (L) h'):=by
 refine BC (l:=[k,m]) 76 Tryz.func37 O Tryz.ntmps37 O λB=>?_
 rw[IT] at E
 refine AA (Am (B1 O X (λe=>by cases e) O hs λq1 S2 h3 b4 e5 k6=>?_))
 have k7:=Y.mono e5
 refine B1 O k7 (λe=>by cases e) O b4 λq8 S9 ak ac s a8=>AJ 2 (AF O O (AF O O (AE (AX (kp [3,2] O) (AA (AG (.inl O) (AF O O (AD (kp [6,3,2] O) (AA (AA (AG (.inl O) (Ac O a8 JA D3 O λc6 b5=>Ah A3 ac.1 O b5 G3 O λb6 a9=>Ag O a9 E8 O λc7=>AB O O (AD (kp [15,14,13,6,3,2] O) (Aj (λa w=>∃(G:Int),IV B S9 ak (76,[]) a w [(3,q8),(2,q1),(6,.int .i64 G)] (L) λ_ _=>AI G∧EE N j g G=some r) ?_ ?_))))))))))))))
 ·refine Ay (λn1=>λa w=>∃(C:Int) (H:Int),IV B S9 ak (76,[]) a w [(14,.int .i64 (↑g.Own.length:Int)),(13,b6),(3,q8),(2,q1),(6,.int .i64 C),(15,.int .i64 H)] (L) λ_ _=>AI C∧AI H∧ED N j g (EE N j g) n1 C H=some r) N ?_ ?_ ?_
  ·intro aa ww hf hw
   exact⟨0,0,_,_,hf.sub (kp [14,13,3,2,6,15] O),hw,ac,(B8.refl S9 ak),(iq (n:=0) O),(iq (n:=0) O),E⟩
  ·rintro aa ww ⟨_,_,_,_,_,_,_,_,_,_,E⟩
   rw[ED] at E;cases E
  rintro n1 aa ww ⟨C,H,c8,c9,hf,hw,t,D,b7,da,E⟩
  refine Ad ?_ hf hw
  clear hf hw ww aa
  rw[ED] at E
  refine AA (AG (.inl O) (A0 O O O (AD (kp [16,14,13,3,2,6,15] O) (AA (AW O (λam=>?_) (λam=>?_))))))
  ·have E:=BU am E
   refine AT (AA (A6 (AA (AG (.inl O) ?_))))
   have b8:=a9.mono' D
   obtain⟨db,ba,E⟩:=bd E
   refine A8 O O b8 E8 ba O λdc b9=>Ah A3 t.1 O b9 BY O λdd bb=>AF O O (AD (kp [8,14,13,3,2,6,15] O) (AA (AA (Bn (.inl O) t (AB O O ?_)))))
   have ca:=k6.mono (s.trans D)
   refine Ac O ca EB HS O λde cb=>Ah BZ t.1 O cb J6 O λdf cc=>Ag O cc Js O λcd=>?_
   obtain⟨dg,bc,E⟩:=bd E
   refine Aw O O O Xm O (λh' o=>Ls (St.all h') (bb.mono' (o.all t.1)) (JE cd) bc) (Bv O O (BK (kp [24,8,14,13,3,2,6,15] O) λdh I Z=>AW O (λan=>?_) (λan=>?_)))
   ·have E:=BU an E
    refine AA (AG (.inl O) (AF O O (AF O O (AD (kp [5,4] O) (Ab (λaa ww hf hw=>?_))))))
    cases E
    have be:=e5.trans (s.trans (D.trans Z))
    exact Jn hf O hw (Hn (qQ hf (v:=_) O) (Hn (qQ hf (v:=_) O) Jm)) O be ⟨O,(iq (n:=0) O),I⟩
   have E:=BV an E
   refine AT (AA (Bn (.inl O) I (AB O O (AB O O ?_))))
   have ce:=bb.mono' Z
   obtain⟨cf,bf,E⟩:=bd E
   refine CM O O O Mj O (λh' o=>Ea (St.all h') (ce.mono' (o.all I.1)) bf) λcg=>?_
   have di:=cg
   refine Ap O O O (AF O O (BK (kp [6,14,13,3,2,15] O) λdj ad bg=>AA (AG (.inl O) (AB O O (CE O O O (AD (kp [30,6,14,13,3,2,15] O) (AW O (λao=>?_) (λao=>?_))))))))
   ·have E:=BU ao E
    refine AA (AG (.inl O) (AF O O (AF O O (AD (kp [5,4] O) (Ab (λaa ww hf hw=>?_))))))
    cases E
    have bh:=e5.trans (s.trans (D.trans (Z.trans bg)))
    exact Jn hf O hw (Hn (qQ hf (v:=_) O) (Hn (qQ hf (v:=_) O) Jm)) O bh ⟨O,(iq (n:=0) O),ad⟩
   have E:=BV ao E
   refine AT (BJ (AG (.inl O) (Ap O O O (AB O O (AD (kp [15,6,14,13,3,2] O) (WF.nil (λaa ww hf hw=>?_)))))))
   have bi:=D.trans (Z.trans bg)
   exact⟨(BD (C+cf)),(BD (H+1)),_,_,hf.sub (kp [14,13,3,2,6,15] O),hw,ad,bi,(BG _),(BG _),E⟩
  have E:=BV am E
  refine BB O (λaa ww hf hw=>?_)
  exact⟨C,_,_,hf.sub (kp [3,2,6] O),hw,t,D,b7,E⟩
 rintro aa ww ⟨G,ap,aq,hf,hw,ae,F,ch,E⟩
 refine Ad ?_ hf hw
 clear hf hw ww aa
 rw[EE] at E
 refine AA (AA (AG (.inl O) ?_))
 have bj:=a8.mono F
 refine Ac O bj IA JR O λdk ci=>Ah A3 ae.1 O ci Kk O λcj bk=>Ag O bk JF O λdl=>AB O O (AD (kp [35,34,33,3,2,6] O) (Aj (λa w=>∃(ab:Int),IV B ap aq (76,[]) a w [(6,.int .i64 ab)] (L) λ_ _=>AI ab∧GO N ab=some r) ?_ ?_))
 ·refine Ay (λn3=>λa w=>∃(x:Int) (J:Int),IV B ap aq (76,[]) a w [(34,.int .i64 (↑g.Queue.length:Int)),(33,cj),(3,q8),(2,q1),(6,.int .i64 x),(35,.int .i64 J)] (L) λ_ _=>AI x∧AI J∧Ep N j g (GO N) n3 x J=some r) N ?_ ?_ ?_
  ·intro aa ww hf hw
   exact⟨G,0,_,_,hf.sub (kp [34,33,3,2,6,35] O),hw,ae,(B8.refl ap aq),ch,(iq (n:=0) O),E⟩
  ·rintro aa ww ⟨_,_,_,_,_,_,_,_,_,_,E⟩
   rw[Ep] at E;cases E
  rintro n3 aa ww ⟨x,J,dm,dn,hf,hw,K,u,ck,dp,E⟩
  refine Ad ?_ hf hw
  clear hf hw ww aa
  rw[Ep] at E
  refine AA (AG (.inl O) (A0 O O O (AD (kp [36,34,33,3,2,6,35] O) (AA (AW O (λar=>?_) (λar=>?_))))))
  ·have E:=BU ar E
   refine AT (AA (A6 (AA (Am (AJ 2 ?_)))))
   have cl:=bk.mono' u
   obtain⟨M,bl,E⟩:=bd E
   refine A8 O O cl JF bl O λdq cm=>Bw A3 K.1 O cm KP (λe=>by cases e) O λdr cn=>AE (Cg Pe O K λds dt bm y=>?_)
   have co:=cn.mono y
   obtain⟨af,rfl,cq,bn,Q⟩:=An.ex co
   refine Ge (vs:=[.int .i64 M.At,.int .i64 M.To,af]) (cs':=[.int .i64 M.At,.int .i64 M.To,af]) O O O (AH O (AH O (AH Q.one D2))) KP O bm .head O O λcr b i=>AX (kp [10,34,33,3,2,6,35] O) (AA (AA (Bn (.inl O) b (AL O NP O (AS BZ b O mh O Ae O ?_)))))
   have au:=u.trans (y.trans i)
   have bo:=bj.mono au
   refine Ac O bo Al.f_Hour ID O λcs bp=>Af BZ b.1 O bp Ae O λct=>A0 O O O (AB O O ?_)
   obtain⟨ag,c,E⟩:=bd E
   refine AV 8 52 (.bool ag) ?_ ?_
   ·cases ah:(decide (M.At<g.Hour))
    ·have c:=BV ah c
     refine AC O O O (AL O KX O (AC O O O (AS BZ b O mh O Ae O (AC O O O ?_))))
     have av:=s.trans (F.trans (u.trans (y.trans i)))
     have bq:=k6.mono av
     refine Ac O bq BS DK O λcu br=>AC O O O (Ah BZ b.1 O br F9 O λcv bs=>AC O O O (Ag O bs FA O λbt=>AC O O O ?_))
     obtain⟨cw,aw,c⟩:=bd c
     refine Aw O O O N5 O (λh' o=>Fe (St.all h') bn (JE bt) aw) (AC O O O (Bv O O (AO O O O ?_)))
     cases c
     exact AU O
    have c:=BU ah c
    cases c
    exact Aa O O
   refine AB O O ?_
   obtain⟨bu,d,E⟩:=bd E
   refine AV 8 61 (.bool bu) ?_ ?_
   ·cases ai:ag
    ·have d:=BV ai d
     refine AC O O O (AL O KW O (AC O O O (AS BZ b O mh O BY O (AC O O O ?_))))
     have ax:=s.trans (F.trans (u.trans (y.trans i)))
     have bv:=k6.mono ax
     refine Ac O bv EB HS O λcx bw=>AC O O O (Ah BZ b.1 O bw J6 O λcy bx=>AC O O O (Ag O bx Js O λbz=>AC O O O ?_))
     have b0:=Q.mono' i
     obtain⟨cz,ay,d⟩:=bd d
     refine Aw O O O Xm O (λh' o=>Ls (St.all h') (b0.mono' (o.all b.1)) (JE bz) ay) (AC O O O (Bv O O (AO O O O ?_)))
     cases d
     exact AU O
    have d:=BU ai d
    cases d
    exact Aa O O
   refine BK (kp [61,10,34,33,3,2,6,35] O) λc0 p z=>AW O (λU=>?_) (λU=>?_)
   ·have E:=BU U E
    refine AA (AG (.inl O) (AF O O (AF O O (AD (kp [5,4] O) (Ab (λaa ww hf hw=>?_))))))
    have az:=p.drop .head
    cases E
    have a0:=e5.trans (s.trans (F.trans (u.trans (y.trans (i.trans z)))))
    exact Jn hf O hw (Hn (qQ hf (v:=_) O) (Hn (qQ hf (v:=_) O) Jm)) O a0 ⟨O,(iq (n:=0) O),az⟩
   have E:=BV U E
   refine AT (AA (Bn (.inl O) p (AL O KW O (AS BZ p O mh O BY O ?_))))
   have b1:=Q.mono' (i.trans z)
   obtain⟨A,a1,E⟩:=bd E
   refine CM O O O Mj O (λh' o=>Ea (St.all h') (b1.mono' (o.all p.1)) a1) λb2=>?_
   have c1:=b2
   refine AF O O (BK (kp [11,34,33,3,2,6,35] O) λc2 V aj=>AA (AG (.inl O) (AB O O (AB O O (Ap O O O (AF O O (AD (kp [6,11,34,33,3,2,35] O) (AA (AG (.inl O) (AB O O (HW O O O (AB O O (AV 3 73 (.bool ((decide (A≤0))||(decide (1125899906842624<(BD (x+A)))))) ?_ ?_)))))))))))))
   ·cases c3:(decide (A≤0))
    ·exact AC O O O (AB O O (AC O O O (CE O O O (AO O O O (AU O)))))
    exact Aa O O
   refine AD (kp [73,6,34,33,3,2,35] O) (AW O (λW=>?_) (λW=>?_))
   ·have E:=BU W E
    refine AA (AG (.inl O) (AF O O (AF O O (AD (kp [5,4] O) (Ab (λaa ww hf hw=>?_))))))
    have a2:=V.drop .head
    cases E
    have a3:=e5.trans (s.trans (F.trans (u.trans (y.trans (i.trans (z.trans aj))))))
    exact Jn hf O hw (Hn (qQ hf (v:=_) O) (Hn (qQ hf (v:=_) O) Jm)) O a3 ⟨O,(iq (n:=0) O),a2⟩
   have E:=BV W E
   refine AT (BJ (AG (.inl O) (Ap O O O (AB O O (AD (kp [35,6,34,33,3,2] O) (WF.nil (λaa ww hf hw=>?_)))))))
   have a4:=V.drop .head
   have a5:=u.trans (y.trans (i.trans (z.trans aj)))
   exact⟨(BD (x+A)),(BD (J+1)),_,_,hf.sub (kp [34,33,3,2,6,35] O),hw,a4,a5,(BG _),(BG _),E⟩
  have E:=BV ar E
  refine BB O (λaa ww hf hw=>?_)
  exact⟨x,_,_,hf.sub (kp [6] O),hw,K,u,ck,E⟩
 rintro aa ww ⟨ab,c4,c5,hf,hw,a6,b3,cp,E⟩
 refine Ad ?_ hf hw
 clear hf hw ww aa
 rw[GO] at E
 refine AA (AG (.inl O) (AB O O (AF O O (AF O O (AD (kp [5,4] O) (Ab (λaa ww hf hw=>?_)))))))
 cases E
 have a7:=e5.trans (s.trans (F.trans b3))
 exact Jn hf O hw (Hn (qQ hf (v:=_) O) (Hn (qQ hf (v:=_) O) Jm)) O a7 ⟨O,cp,a6⟩
end Go.Proofs.YtblcgjadhemlbaaGreat
