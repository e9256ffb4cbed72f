import Derived.Test.YtblcgjadhemlbaaGreatQWalk3
namespace Go.Proofs.YtblcgjadhemlbaaGreat
open Go.RowKit
set_option linter.unusedVariables false
set_option linter.unusedSimpArgs false
set_option maxRecDepth 10000
set_option maxHeartbeats 2000000
variable {N:Nat}{S:Nat→Prop}{L:List HP}{h:Aq}
theorem L6 (hs:St S L h) {p:Value}{s:AZ}(A:Rd S h B0 p s) {r:Bool}(E:En N s=some r):
 CG Tryz.prog 50 #[p] S h (λv S' h'=>v= .bool r∧St S' (L) h'):=by
 refine BC (l:=[p]) 51 Tryz.func50 O Tryz.ntmps50 O λB=>?_
 rw[En] at E
 refine AA (Am (B1 O A (λe=>by cases e) O hs λq1 S2 h3 ad e5 k6=>AJ 1 (AF O O (AE (AX (kp [1] O) (AA (AA (AG (.inl O) (Ac O k6 DU Ft O λq7 k8=>Ah A3 ad.1 O k8 Ir O λv9 ae=>Ag O ae G4 O λb0=>AB O O (AD (kp [8,7,6,1] O) (Aj (λa w=>IV B S2 h3 (51,[]) a w [] (L) λ_ _=>Cq N=some r) ?_ ?_)))))))))))
 ·refine Ay (λn1=>λa w=>∃(u:Int),IV B S2 h3 (51,[]) a w [(7,.int .i64 (↑s.Links.length:Int)),(6,v9),(1,q1),(8,.int .i64 u)] (L) λ_ _=>AI u∧B7 N s (Cq N) n1 u=some r) N ?_ ?_ ?_
  ·intro aa ww hf hw
   exact⟨0,_,_,hf.sub (kp [7,6,1,8] O),hw,ad,(B8.refl S2 h3),(iq (n:=0) O),E⟩
  ·rintro aa ww ⟨_,_,_,_,_,_,_,_,E⟩
   rw[B7] at E;cases E
  rintro n1 aa ww ⟨u,b1,b2,hf,hw,y,t,b3,E⟩
  refine Ad ?_ hf hw
  clear hf hw ww aa
  rw[B7] at E
  refine AA (AG (.inl O) (A0 O O O (AD (kp [9,7,6,1,8] O) (AA (AW O (λI=>?_) (λI=>?_))))))
  ·have E:=BU I E
   refine AT (AA (A6 (AA (Am (AJ 2 ?_)))))
   have bf:=ae.mono' t
   obtain⟨b,af,E⟩:=bd E
   refine A8 O O bf G4 af O λb4 bg=>Bw A3 y.1 O bg F8 (λe=>by cases e) O λb5 bh=>AE (Cg M0 O y λb6 b7 ag z=>?_)
   have bi:=bh.mono z
   obtain⟨C,D,F,rfl,ah,J,G,K,M,Q,U,ai,aj,ak,am,an,ao,ap,aq,ar,au,V⟩:=Bh.ex bi
   refine Ge (vs:=[.string b.Name,.int .i64 b.Kind,.int .i64 b.From,.int .i64 b.To,C,D,F,.int .i64 b.Positions,.int .i64 b.Speed,.int .i64 b.Leak,.int .i64 b.Crest,.int .i64 b.Num,.int .i64 b.Den,.int .i64 b.Prime,.int .i64 b.Break,.int .i64 b.BackNum,.int .i64 b.BackDen,.int .i64 b.Delay]) (cs':=[.string b.Name,.int .i64 b.Kind,.int .i64 b.From,.int .i64 b.To,C,D,F,.int .i64 b.Positions,.int .i64 b.Speed,.int .i64 b.Leak,.int .i64 b.Crest,.int .i64 b.Num,.int .i64 b.Den,.int .i64 b.Prime,.int .i64 b.Break,.int .i64 b.BackNum,.int .i64 b.BackDen,.int .i64 b.Delay]) O O O (AH O (AH O (AH O (AH O (AH M.one (AH Q.one (AH U.one (AH O (AH O (AH O (AH O (AH O (AH O (AH O (AH O (AH O (AH O (AH O D2)))))))))))))))))) F8 O ag .head O O λb8 c m=>AX (kp [4,7,6,1,8] O) (AA (Bn (.inl O) c (AL O Fs O (AS BZ c O mh O Ae O ?_))))
   obtain⟨bj,av,E⟩:=bd E
   refine Aw O O O HN O (λh' o=>Bl (St.all h') J (iq (n:=0) O) (iq (n:=5) O) av) (Bv O O (AB O O ?_))
   obtain⟨aw,d,E⟩:=bd E
   refine AV 8 24 (.bool aw) ?_ ?_
   ·cases ax:(!bj)
    ·have d:=BV ax d
     refine AC O O O (AL O Id O (AC O O O (AS BZ c O mh O Ae O (AC O O O ?_))))
     have ay:=t.trans (z.trans m)
     have bk:=k6.mono ay
     refine Ac O bk BS DK O λb9 bl=>AC O O O (Ah BZ c.1 O bl F9 O λca bm=>AC O O O (Ag O bm FA O λbn=>AC O O O ?_))
     obtain⟨cb,az,d⟩:=bd d
     refine Aw O O O O7 O (λh' o=>F5 (St.all h') G (JE bn) az) (AC O O O (Bv O O (AO O O O ?_)))
     cases d
     exact AU O
    have d:=BU ax d
    cases d
    exact Aa O O
   refine AB O O ?_
   obtain⟨a0,g,E⟩:=bd E
   refine AV 8 33 (.bool a0) ?_ ?_
   ·cases a1:aw
    ·have g:=BV a1 g
     refine AC O O O ?_
     have a2:=t.trans (z.trans m)
     have bo:=k6.mono a2
     refine Bw BZ c.1 O bo Gp (λe=>by cases e) O λcc bp=>AC O O O (AL O Id O (AC O O O (AS BZ c O mh O Ae O (AC O O O (AL O HR O (AC O O O (AS BZ c O mh O Ae O (AC O O O ?_))))))))
     obtain⟨cd,a3,g⟩:=bd g
     refine Aw O O O Xl O (λh' o=>Kw (St.all h') (bp.mono (o.all c.1)) G K a3) (AC O O O (Bv O O (AO O O O ?_)))
     cases g
     exact AU O
    have g:=BU a1 g
    cases g
    exact Aa O O
   refine AB O O ?_
   obtain⟨a4,i,E⟩:=bd E
   refine AV 5 39 (.bool a4) ?_ ?_
   ·cases a5:a0
    ·have i:=BV a5 i
     refine AC O O O (AL O NM O (AC O O O (AS BZ c O mh O Ae O (AC O O O ?_))))
     obtain⟨ce,a6,i⟩:=bd i
     refine Aw O O O HN O (λh' o=>Bl (St.all h') V (iq (n:=0) O) (iq (n:=240) O) a6) (AC O O O (Bv O O (AO O O O ?_)))
     cases i
     exact AU O
    have i:=BU a5 i
    cases i
    exact Aa O O
   refine AB O O ?_
   obtain⟨a7,j,E⟩:=bd E
   refine AV 4 44 (.bool a7) ?_ ?_
   ·cases a8:a4
    ·have j:=BV a8 j
     refine AC O O O (Cj (vs:=[.string b.Name,.int .i64 b.Kind,.int .i64 b.From,.int .i64 b.To,C,D,F,.int .i64 b.Positions,.int .i64 b.Speed,.int .i64 b.Leak,.int .i64 b.Crest,.int .i64 b.Num,.int .i64 b.Den,.int .i64 b.Prime,.int .i64 b.Break,.int .i64 b.BackNum,.int .i64 b.BackDen,.int .i64 b.Delay]) BZ c O mh O O F8 O O (AC O O O ?_))
     have bq:=M.mono' m
     have br:=Q.mono' m
     have bs:=U.mono' m
     obtain⟨cf,a9,j⟩:=bd j
     refine Aw O O O aR O (λh' o=>Lb (St.all h') (Bh.mk (x:=b) ah J G K (bq.mono' (o.all c.1)) (br.mono' (o.all c.1)) (bs.mono' (o.all c.1)) ai aj ak am an ao ap aq ar au V) a9) (AC O O O (Bv O O (AO O O O ?_)))
     cases j
     exact AU O
    have j:=BU a8 j
    cases j
    exact Aa O O
   refine AB O O ?_
   obtain⟨bt,k,E⟩:=bd E
   refine AV 4 49 (.bool bt) ?_ ?_
   ·cases ba:a7
    ·have k:=BV ba k
     refine AC O O O (Cj (vs:=[.string b.Name,.int .i64 b.Kind,.int .i64 b.From,.int .i64 b.To,C,D,F,.int .i64 b.Positions,.int .i64 b.Speed,.int .i64 b.Leak,.int .i64 b.Crest,.int .i64 b.Num,.int .i64 b.Den,.int .i64 b.Prime,.int .i64 b.Break,.int .i64 b.BackNum,.int .i64 b.BackDen,.int .i64 b.Delay]) BZ c O mh O O F8 O O (AC O O O ?_))
     have bu:=M.mono' m
     have bv:=Q.mono' m
     have bw:=U.mono' m
     obtain⟨cg,bb,k⟩:=bd k
     refine Aw O O O aQ O (λh' o=>LX (St.all h') (Bh.mk (x:=b) ah J G K (bu.mono' (o.all c.1)) (bv.mono' (o.all c.1)) (bw.mono' (o.all c.1)) ai aj ak am an ao ap aq ar au V) bb) (AC O O O (Bv O O (AO O O O ?_)))
     cases k
     exact AU O
    have k:=BU ba k
    cases k
    exact Aa O O
   refine BK (kp [49,7,6,1,8] O) λch H bc=>AW O (λW=>?_) (λW=>?_)
   ·have E:=BU W E
    refine AA (AG (.inl O) (AF O O (AD (kp [2] O) (Ab (λaa ww hf hw=>?_)))))
    have X:=H.drop .head
    cases E
    have Y:=e5.trans (t.trans (z.trans (m.trans bc)))
    exact Dp hf hw O O Y ⟨O,X⟩
   have E:=BV W E
   refine AT (BJ (AG (.inl O) (Ap O O O (AB O O (AD (kp [8,7,6,1] O) (WF.nil (λaa ww hf hw=>?_)))))))
   have Z:=H.drop .head
   have ab:=t.trans (z.trans (m.trans bc))
   exact⟨(BD (u+1)),_,_,hf.sub (kp [7,6,1,8] O),hw,Z,ab,(BG _),E⟩
  have E:=BV I E
  refine BB O (λaa ww hf hw=>?_)
  exact⟨_,_,hf.sub OG,hw,y,t,E⟩
 rintro aa ww ⟨bx,bz,hf,hw,ac,be,E⟩
 refine Ad ?_ hf hw
 clear hf hw ww aa
 rw[Cq] at E
 refine AA (AG (.inl O) (AF O O (AD (kp [2] O) (Ab (λaa ww hf hw=>?_)))))
 cases E
 exact Dp hf hw O O (e5.trans be) ⟨O,ac⟩
theorem L7 (hs:St S L h) {b:Value}{j:AZ}(d:Rd S h B0 b j) {a:Int}(g:AI a) {c:Int}(m:AI c) {r:Bool}(E:IH N j a c=some r):
 CG Tryz.prog 78 #[b,.int .i64 a,.int .i64 c] S h (λv S' h'=>v= .bool r∧St S' (L) h'):=by
 refine BC (l:=[b,.int .i64 a,.int .i64 c]) 27 Tryz.func78 O Tryz.ntmps78 O λB=>?_
 rw[IH] at E
 refine AA (Am (B1 O d (λe=>by cases e) O hs λF S2 G i u w=>AJ 1 (AF O O (AE (AX (kp [3,1,2] O) (AA (AA (AG (.inl O) (AB O O (Bd O O O (AD (kp [9,3,1,2] O) (AW O (λo=>?_) (λo=>?_)))))))))))))
 ·have E:=BU o E
  refine AA (AG (.inl O) (AB O O (Bd O O O (AF O O (AD (kp [6] O) (Ab (λaa ww hf hw=>?_)))))))
  cases E
  exact Dp hf hw O O u ⟨O,i⟩
 have E:=BV o E
 refine AT (AA (AG (.inl O) (Ac O w BS DK O λH x=>Ah A3 i.1 O x F9 O λy p=>AB O O ?_)))
 obtain⟨k,n,E⟩:=bd E
 refine A8 O O p FA n O λz s=>Ac O s Hk K9 O λA t=>Af A3 i.1 O t Ae O λC=>AF O O (AD (kp [7,1] O) (AA (AG (.inl O) (AB O O (AB O O (Bd O O O (AB O O (AV 5 26 (.bool ((decide (k.Office=a))||(decide (k.Office=(BD (a+1)))))) ?_ ?_))))))))
 ·cases D:(decide (k.Office=a))
  ·exact AC O O O (AB O O (AC O O O (AB O O (AC O O O (Ap O O O (AC O O O (Bd O O O (AO O O O (AU O)))))))))
  exact Aa O O
 refine AF O O (AD (kp [6] O) (Ab (λaa ww hf hw=>?_)))
 cases E
 exact Dp hf hw O O u ⟨O,i⟩
theorem LE (hs:St S L h) {k:Value}{j:AZ}(F:Rd S h B0 k j) {r:Bool}(E:Fm N j=some r):
 CG Tryz.prog 51 #[k] S h (λv S' h'=>v= .bool r∧St S' (L) h'):=by
 refine BC (l:=[k]) 60 Tryz.func51 O Tryz.ntmps51 O λB=>?_
 rw[Fm] at E
 refine AA (Am (B1 O F (λe=>by cases e) O hs λq1 S2 h3 aq e5 k6=>AJ 1 (AF O O (AE (AX (kp [1] O) (AA (AA (AG (.inl O) (Ac O k6 BS DK O λq7 k8=>Ah A3 aq.1 O k8 F9 O λv9 ar=>Ag O ar FA O λc2=>AB O O (AD (kp [11,10,9,1] O) (Aj (λa w=>IV B S2 h3 (60,[]) a w [(1,q1)] (L) λ_ _=>Cv N j=some r) ?_ ?_)))))))))))
 ·refine Ay (λn1=>λa w=>∃(p:Int),IV B S2 h3 (60,[]) a w [(10,.int .i64 (↑j.Places.length:Int)),(9,v9),(1,q1),(11,.int .i64 p)] (L) λ_ _=>AI p∧Cu N j (Cv N j) n1 p=some r) N ?_ ?_ ?_
  ·intro aa ww hf hw
   exact⟨0,_,_,hf.sub (kp [10,9,1,11] O),hw,aq,(B8.refl S2 h3),(iq (n:=0) O),E⟩
  ·rintro aa ww ⟨_,_,_,_,_,_,_,_,E⟩
   rw[Cu] at E;cases E
  rintro n1 aa ww ⟨p,c3,c4,hf,hw,s,t,c5,E⟩
  refine Ad ?_ hf hw
  clear hf hw ww aa
  rw[Cu] at E
  refine AA (AG (.inl O) (A0 O O O (AD (kp [12,10,9,1,11] O) (AA (AW O (λX=>?_) (λX=>?_))))))
  ·have E:=BU X E
   refine AT (AA (A6 (AA (Am (AJ 2 ?_)))))
   have bs:=ar.mono' t
   obtain⟨d,au,E⟩:=bd E
   refine A8 O O bs FA au O λc6 bt=>Bw A3 s.1 O bt JZ (λe=>by cases e) O λc7 bu=>AE (Cg Nv O s λc8 c9 av G=>?_)
   have bv:=bu.mono G
   obtain⟨aw,ax,ay,rfl,da,db,bw,dc,bx,bz,dd,de,b0,df,dg,b1⟩:=Br.ex bv
   refine Ge (vs:=[.string d.Name,.int .i64 d.Kind,.int .i64 d.Office,.int .i64 d.Cap,aw,ax,.int .i64 d.Num,.int .i64 d.Den,.int .i64 d.Down,.int .i64 d.Delay,.int .i64 d.Floor,ay]) (cs':=[.string d.Name,.int .i64 d.Kind,.int .i64 d.Office,.int .i64 d.Cap,aw,ax,.int .i64 d.Num,.int .i64 d.Den,.int .i64 d.Down,.int .i64 d.Delay,.int .i64 d.Floor,ay]) O O O (AH O (AH O (AH O (AH O (AH bx.one (AH bz.one (AH O (AH O (AH O (AH O (AH O (AH b1.one D2)))))))))))) JZ O av .head O O λdh m Y=>AX (kp [4,10,9,1,11] O) (AA (Bn (.inl O) m ?_))
   have az:=t.trans (G.trans Y)
   have b2:=k6.mono az
   refine Bw BZ m.1 O b2 Gp (λe=>by cases e) O λdi b3=>AL O K9 O (AS BZ m O mh O Ae O (AL O Oa O (AS BZ m O mh O Ae O ?_)))
   obtain⟨dj,a0,E⟩:=bd E
   refine Aw O O O Xk O (λh' o=>L7 (St.all h') (b3.mono (o.all m.1)) bw b0 a0) (Bv O O (BK (kp [21,10,9,1,11] O) λdk I a1=>AW O (λZ=>?_) (λZ=>?_)))
   ·have E:=BU Z E
    refine AA (AG (.inl O) (AF O O (AD (kp [2] O) (Ab (λaa ww hf hw=>?_)))))
    have a2:=I.drop .head
    cases E
    have a3:=e5.trans (t.trans (G.trans (Y.trans a1)))
    exact Dp hf hw O O a3 ⟨O,a2⟩
   have E:=BV Z E
   refine AT (BJ (AG (.inl O) (Ap O O O (AB O O (AD (kp [11,10,9,1] O) (WF.nil (λaa ww hf hw=>?_)))))))
   have a4:=I.drop .head
   have a5:=t.trans (G.trans (Y.trans a1))
   exact⟨(BD (p+1)),_,_,hf.sub (kp [10,9,1,11] O),hw,a4,a5,(BG _),E⟩
  have E:=BV X E
  refine BB O (λaa ww hf hw=>?_)
  exact⟨_,_,hf.sub (kp [1] O),hw,s,t,E⟩
 rintro aa ww ⟨ab,ac,hf,hw,J,ad,E⟩
 refine Ad ?_ hf hw
 clear hf hw ww aa
 rw[Cv] at E
 refine AA (AA (AG (.inl O) ?_))
 have a6:=k6.mono ad
 refine Ac O a6 DU Ft O λdl b4=>Ah A3 J.1 O b4 Ir O λb5 a7=>Ag O a7 G4 O λdm=>AB O O (AD (kp [26,25,24,1] O) (Aj (λa w=>IV B ab ac (60,[]) a w [] (L) λ_ _=>D1 N=some r) ?_ ?_))
 ·refine Ay (λn3=>λa w=>∃(u:Int),IV B ab ac (60,[]) a w [(25,.int .i64 (↑j.Links.length:Int)),(24,b5),(1,q1),(26,.int .i64 u)] (L) λ_ _=>AI u∧Ct N j (D1 N) n3 u=some r) N ?_ ?_ ?_
  ·intro aa ww hf hw
   exact⟨0,_,_,hf.sub (kp [25,24,1,26] O),hw,J,(B8.refl ab ac),(iq (n:=0) O),E⟩
  ·rintro aa ww ⟨_,_,_,_,_,_,_,_,E⟩
   rw[Ct] at E;cases E
  rintro n3 aa ww ⟨u,dn,dp,hf,hw,x,y,dq,E⟩
  refine Ad ?_ hf hw
  clear hf hw ww aa
  rw[Ct] at E
  refine AA (AG (.inl O) (A0 O O O (AD (kp [27,25,24,1,26] O) (AA (AW O (λae=>?_) (λae=>?_))))))
  ·have E:=BU ae E
   refine AT (AA (A6 (AA (Am (AJ 2 ?_)))))
   have b6:=a7.mono' y
   obtain⟨b,a8,E⟩:=bd E
   refine A8 O O b6 G4 a8 O λdr b7=>Bw A3 x.1 O b7 F8 (λe=>by cases e) O λds b8=>AE (Cg M0 O x λdt du a9 H=>?_)
   have b9:=b8.mono H
   obtain⟨K,M,Q,rfl,dv,dw,dx,ca,ba,bb,bc,cb,cc,cd,ce,cf,cg,ch,ci,cj,ck,cl⟩:=Bh.ex b9
   refine Ge (vs:=[.string b.Name,.int .i64 b.Kind,.int .i64 b.From,.int .i64 b.To,K,M,Q,.int .i64 b.Positions,.int .i64 b.Speed,.int .i64 b.Leak,.int .i64 b.Crest,.int .i64 b.Num,.int .i64 b.Den,.int .i64 b.Prime,.int .i64 b.Break,.int .i64 b.BackNum,.int .i64 b.BackDen,.int .i64 b.Delay]) (cs':=[.string b.Name,.int .i64 b.Kind,.int .i64 b.From,.int .i64 b.To,K,M,Q,.int .i64 b.Positions,.int .i64 b.Speed,.int .i64 b.Leak,.int .i64 b.Crest,.int .i64 b.Num,.int .i64 b.Den,.int .i64 b.Prime,.int .i64 b.Break,.int .i64 b.BackNum,.int .i64 b.BackDen,.int .i64 b.Delay]) O O O (AH O (AH O (AH O (AH O (AH ba.one (AH bb.one (AH bc.one (AH O (AH O (AH O (AH O (AH O (AH O (AH O (AH O (AH O (AH O (AH O D2)))))))))))))))))) F8 O a9 .head O O λcm c z=>AX (kp [6,25,24,1,26] O) (AA (AG (.inl O) ?_))
   have af:=y.trans (H.trans z)
   have A:=a6.mono af
   refine Ac O A BS DK O λcn be=>Ah A3 c.1 O be F9 O λco bf=>AL O Id O (AS A3 c O mh O Ae O ?_)
   obtain⟨cp,ag,E⟩:=bd E
   refine A8 O O bf FA ag O λcq bg=>Ac O bg Hk K9 O λcr bh=>Af A3 c.1 O bh Ae O λbi=>AF O O (AD (kp [7,6,25,24,1,26] O) (AA (Bn (.inl O) c (Bw BZ c.1 O A Gp (λe=>by cases e) O λcs bj=>AB O O (AL O HR O (AS BZ c O mh O Ae O ?_))))))
   obtain⟨bk,ah,E⟩:=bd E
   refine Aw O O O Xk O (λh' o=>L7 (St.all h') (bj.mono (o.all c.1)) bi ca ah) (Bv O O (AB O O ?_))
   obtain⟨bl,g,E⟩:=bd E
   refine AV 15 58 (.bool bl) ?_ ?_
   ·cases U:(!bk)
    ·have g:=BV U g
     refine AC O O O (AL O Fs O (AC O O O (AS BZ c O mh O Ae O (AC O O O (Bd O O O (AC O O O (AB O O ?_)))))))
     obtain⟨bm,i,g⟩:=bd g
     refine AV 10 57 (.bool bm) ?_ ?_
     ·cases V:(decide (b.Kind=4))
      ·have i:=BV V i
       cases i
       exact Aa O O
      have i:=BU V i
      refine AC O O O (Ac O A BS DK O λct bn=>AC O O O (Ah BZ c.1 O bn F9 O λcu bo=>AC O O O (AL O HR O (AC O O O (AS BZ c O mh O Ae O (AC O O O ?_))))))
      obtain⟨cv,ai,i⟩:=bd i
      refine A8 O O bo FA ai O λcw bp=>AC O O O (Ac O bp Hk K9 O λcx bq=>AC O O O (Af BZ c.1 O bq Ae O λcy=>AC O O O (AB O O (AC O O O (CH O O O (AC O O O (AO O O O ?_)))))))
      cases i
      exact AU O
     refine AO O O O ?_
     cases g
     exact AU O
    have g:=BU U g
    cases g
    exact Aa O O
   refine BK (kp [58,25,24,1,26] O) λcz C W=>AW O (λD=>?_) (λD=>?_)
   ·have E:=BU D E
    refine AA (AG (.inl O) (AF O O (AD (kp [2] O) (Ab (λaa ww hf hw=>?_)))))
    have aj:=C.drop .head
    cases E
    have ak:=e5.trans (ad.trans (y.trans (H.trans (z.trans W))))
    exact Dp hf hw O O ak ⟨O,aj⟩
   have E:=BV D E
   refine AT (BJ (AG (.inl O) (Ap O O O (AB O O (AD (kp [26,25,24,1] O) (WF.nil (λaa ww hf hw=>?_)))))))
   have am:=C.drop .head
   have an:=y.trans (H.trans (z.trans W))
   exact⟨(BD (u+1)),_,_,hf.sub (kp [25,24,1,26] O),hw,am,an,(BG _),E⟩
  have E:=BV ae E
  refine BB O (λaa ww hf hw=>?_)
  exact⟨_,_,hf.sub OG,hw,x,y,E⟩
 rintro aa ww ⟨c0,c1,hf,hw,ao,br,E⟩
 refine Ad ?_ hf hw
 clear hf hw ww aa
 rw[D1] at E
 refine AA (AG (.inl O) (AF O O (AD (kp [2] O) (Ab (λaa ww hf hw=>?_)))))
 cases E
 have ap:=e5.trans (ad.trans br)
 exact Dp hf hw O O ap ⟨O,ao⟩
theorem Gl (hs:St S L h) {b:Int}(m:AI b) {c:Int}(q:AI c) {r:Int}(E:Ed N b c=some r):
 CG Tryz.prog 79 #[.int .i64 b,.int .i64 c] S h (λv S' h'=>v= .int .i64 r∧AI r∧St S' (L) h'):=by
 refine BC (l:=[.int .i64 b,.int .i64 c]) 34 Tryz.func79 O Tryz.ntmps79 O λB=>?_
 rw[Ed] at E
 refine AA (AG (.inl O) (AF O O (AD (kp [0,1] O) (AA (AA (AG (.inl O) (AB O O (Bd O O O (AD (kp [10,0,1] O) (AW O (λy=>?_) (λy=>?_)))))))))))
 ·have E:=BU y E
  refine AA (AG (.inl O) (AF O O (AD (kp [4] O) (Ab (λaa ww hf hw=>?_)))))
  cases E
  exact Dp hf hw O O (B8.refl S h) ⟨O,(iq (n:=0) O),hs⟩
 have E:=BV y E
 refine AT (AA (AA (AG (.inl O) (AB O O (AB O O (CE O O O (AD (kp [13,0,1] O) (AW O (λz=>?_) (λz=>?_)))))))))
 ·have E:=BU z E
  refine AA (AG (.inl O) (AF O O (AD (kp [4] O) (Ab (λaa ww hf hw=>?_)))))
  cases E
  exact Dp hf hw O O (B8.refl S h) ⟨O,(iq (n:=1099511627777) O),hs⟩
 have E:=BV z E
 refine AT (AA (Bn (.inl O) hs (AB O O (G1 O Nf Kc O ?_))))
 obtain⟨x,A,E⟩:=bd E
 refine Hh (v:= .tuple #[.int .u64 x.1,.int .u64 x.2]) (Ψ:=IntKind.has .u64 x.1∧IntKind.has .u64 x.2) O O O Xf O (λh' o=>(Jt (St.all h') (Dx _ _) (show IntKind.has .u64 1099511627776 by first|assumption|exact⟨by decide,by decide⟩) A).mono λ_ _ _ _ p=>⟨p.1,⟨p.2.1,p.2.2.1⟩⟩) λI=>?_
 obtain⟨J,K⟩:=I
 refine AB O O (CJ O O O (CJ O O O (AF O O (AF O O (BK (kp [6,5,1] O) λX C M=>AA (Bn (.inl O) C (AB O O (AB O O (AB O O (G1 O Nf Kc O ?_))))))))))
 obtain⟨d,s,E⟩:=bd E
 refine Hh (v:= .tuple #[.int .u64 d.1,.int .u64 d.2]) (Ψ:=IntKind.has .u64 d.1∧IntKind.has .u64 d.2) O O O Xe O (λh' o=>(Ju (St.all h') J K (Dx _ _) s).mono λ_ _ _ _ p=>⟨p.1,⟨p.2.1,p.2.2.1⟩⟩) λD=>?_
 obtain⟨F,Q⟩:=D
 refine AB O O (CJ O O O (CJ O O O (AF O O (AF O O (BK (kp [8,7] O) λj i G=>AA (AA (AG (.inl O) (AB O O (CH O O O (AD (kp [29,7] O) (GW (λa w=>∃(g:Int),IV B S j (34,[]) a w [(7,.int .u64 g)] (L) λ_ _=>IntKind.has .u64 g∧IG N g=some r) ?_ ?_)))))))))))
 ·refine AW O (λk=>?_) (λk=>?_)
  ·have E:=BU k E
   refine AG (.inl O) (AB O O (Ik O O O (AF O O (AD (kp [7] O) (WF.nil (λaa ww hf hw=>?_))))))
   exact⟨(IntKind.wrap .u64 (d.1+1)),_,_,hf.sub (kp [7] O),hw,i,(B8.refl S j),(Dx _ _),E⟩
  have E:=BV k E
  refine AT (WF.nil (λaa ww hf hw=>?_))
  exact⟨d.1,_,_,hf.sub (kp [7] O),hw,i,(B8.refl S j),F,E⟩
 rintro aa ww ⟨g,U,V,hf,hw,t,H,W,E⟩
 refine Ad ?_ hf hw
 clear hf hw ww aa
 rw[IG] at E
 refine AA (AG (.inl O) (AB O O (G1 O Kc Nf O (AF O O (AD (kp [4] O) (Ab (λaa ww hf hw=>?_)))))))
 cases E
 have u:=M.trans (G.trans H)
 exact Dp hf hw O O u ⟨O,(BG _),t⟩
theorem Ms (hs:St S L h) {c:Value}{b:(List (List BI))}(d:Sl S h (AN.sl Bm) c b) {r:Int}(E:HM N b=some r):
 CG Tryz.prog 80 #[c] S h (λv S' h'=>v= .int .i64 r∧AI r∧St S' (L) h'):=by
 refine BC (l:=[c]) 48 Tryz.func80 O Tryz.ntmps80 O λB=>?_
 rw[HM] at E
 refine AA (AG (.inl O) (AF O O (AD (kp [0] O) (AA (AG (.inl O) (AF O O (AD (kp [3,0] O) (AA (AA (AG (.inl O) (AB O O (Ag O d Ua O λb1=>AB O O (AD (kp [9,8,7,3] O) (Aj (λa w=>∃(U:Int),IV B S h (48,[]) a w [(3,.int .i64 U)] (L) λ_ _=>AI U∧DQ N U=some r) ?_ ?_))))))))))))))
 ·refine Ay (λV=>λa w=>∃(A:Int) (i:Int),IV B S h (48,[]) a w [(8,.int .i64 (↑b.length:Int)),(7,c),(3,.int .i64 A),(9,.int .i64 i)] (L) λ_ _=>AI A∧AI i∧CU N b (DQ N) V A i=some r) N ?_ ?_ ?_
  ·intro aa ww hf hw
   exact⟨0,0,_,_,hf.sub (kp [8,7,3,9] O),hw,hs,(B8.refl S h),(iq (n:=0) O),(iq (n:=0) O),E⟩
  ·rintro aa ww ⟨_,_,_,_,_,_,_,_,_,_,E⟩
   rw[CU] at E;cases E
  rintro V aa ww ⟨A,i,t,u,hf,hw,m,x,r9,ax,E⟩
  refine Ad ?_ hf hw
  clear hf hw ww aa
  rw[CU] at E
  refine AA (AG (.inl O) (A0 O O O (AD (kp [10,8,7,3,9] O) (AA (AW O (λy=>?_) (λy=>?_))))))
  ·have E:=BU y E
   refine AT (AA (Aj (λa w=>∃(p:Int),IV B t u (48,[]) a w [(8,.int .i64 (↑b.length:Int)),(7,c),(9,.int .i64 i),(3,.int .i64 p)] (L) λ_ _=>AI p∧EQ N i (CU N b (DQ N) V) p=some r) ?_ ?_))
   ·refine AA (AG (.inl O) ?_)
    have W:=d.mono' x
    obtain⟨X,C,E⟩:=bd E
    refine A8 O O W Ua C O λay Y=>Ah A3 m.1 O Y Hz O λZ q=>AF O O (AD (kp [5,8,7,3,9] O) (AA (AG (.inl O) (AF O O (AD (kp [6,5,8,7,3,9] O) (A6 (Ay (λn3=>λa w=>∃(k:Int) (s:Int),IV B t u (48,[]) a w [(5,Z),(8,.int .i64 (↑b.length:Int)),(7,c),(9,.int .i64 i),(3,.int .i64 k),(6,.int .i64 s)] (L) λ_ _=>AI k∧AI s∧Dn N X (EQ N i (CU N b (DQ N) V)) n3 k s=some r) N ?_ ?_ ?_)))))))
    ·intro aa ww hf hw
     exact⟨A,1,_,_,hf.sub (kp [5,8,7,9,3,6] O),hw,m,(B8.refl t u),r9,(iq (n:=1) O),E⟩
    ·rintro aa ww ⟨_,_,_,_,_,_,_,_,_,_,E⟩
     rw[Dn] at E;cases E
    rintro n3 aa ww ⟨k,s,az,a0,hf,hw,g,j,D,a1,E⟩
    refine Ad ?_ hf hw
    clear hf hw ww aa
    rw[Dn] at E
    refine AA (AA (AG (.inl O) (AB O O (AB O O ?_))))
    have ab:=q.mono' j
    refine Ag O ab HZ O λa2=>A0 O O O (AD (kp [16,5,8,7,9,3,6] O) (AW O (λz=>?_) (λz=>?_)))
    ·have E:=BU z E
     refine AT (AA (A6 (Bn (.inr ⟨mo,by kernel_rfl⟩) g (AB O O (AB O O (AB O O ?_))))))
     have ac:=q.mono' j
     obtain⟨a3,F,E⟩:=bd E
     refine A8 O O ac HZ F O λa4 ad=>Ac O ad KJ Hu O λa5 ae=>Af BZ g.1 O ae Ae O λa6=>AB O O (AB O O (Dg O O O ?_))
     have af:=q.mono' j
     obtain⟨a7,G,E⟩:=bd E
     refine A8 O O af HZ G O λa8 ag=>Ac O ag KJ Hu O λa9 ah=>Af BZ g.1 O ah Ae O λba=>Dg O O O (AB O O (AB O O ?_))
     have ai:=q.mono' j
     obtain⟨bb,H,E⟩:=bd E
     refine A8 O O ai HZ H O λbc aj=>Ac O aj KK Ic O λbe ak=>Af BZ g.1 O ak Ae O λbf=>AB O O (AB O O (Dg O O O ?_))
     have al:=q.mono' j
     obtain⟨bg,I,E⟩:=bd E
     refine A8 O O al HZ I O λbh am=>Ac O am KK Ic O λbi an=>Af BZ g.1 O an Ae O λbj=>Dg O O O ?_
     obtain⟨ao,J,E⟩:=bd E
     refine CM O O O P0 O (λh' o=>Gl (St.all h') (BG _) (BG _) J) λap=>?_
     have aq:=ap
     refine PE O O O (AF O O (BK (kp [3,5,8,7,9,6] O) λbk K ar=>BJ (AG (.inl O) (AB O O (Ap O O O (AF O O (AD (kp [6,3,5,8,7,9] O) (WF.nil (λaa ww hf hw=>?_)))))))))
     exact⟨(max k ao),(BD (s+1)),_,_,hf.sub (kp [5,8,7,9,3,6] O),hw,K,(j.trans ar),(Np D aq),(BG _),E⟩
    have E:=BV z E
    refine KI O (WF.nil (λaa ww hf hw=>?_))
    exact⟨k,_,_,hf.sub (kp [8,7,9,3] O),hw,g,j,D,E⟩
   rintro aa ww ⟨p,bl,bm,hf,hw,M,au,av,E⟩
   refine Ad ?_ hf hw
   clear hf hw ww aa
   rw[EQ] at E
   refine AG (.inl O) (Ap O O O (AB O O (AD (kp [9,8,7,3] O) (WF.nil (λaa ww hf hw=>?_)))))
   exact⟨p,(BD (i+1)),_,_,hf.sub (kp [8,7,3,9] O),hw,M,(x.trans au),av,(BG _),E⟩
  have E:=BV y E
  refine BB O (λaa ww hf hw=>?_)
  exact⟨A,_,_,hf.sub (kp [3] O),hw,m,x,r9,E⟩
 rintro aa ww ⟨U,bn,bo,hf,hw,Q,aw,r3,E⟩
 refine Ad ?_ hf hw
 clear hf hw ww aa
 rw[DQ] at E
 refine AA (AG (.inl O) (AB O O (AF O O (AD (kp [2] O) (Ab (λaa ww hf hw=>?_))))))
 cases E
 exact Dp hf hw O O aw ⟨O,r3,Q⟩
theorem LY (hs:St S L h) {U:Value}{j:AZ}(a9:Rd S h B0 U j) {r:Bool}(E:GB N j=some r):
 CG Tryz.prog 52 #[U] S h (λv S' h'=>v= .bool r∧St S' (L) h'):=by
 refine BC (l:=[U]) 128 Tryz.func52 O Tryz.ntmps52 O λB=>?_
 rw[GB] at E
 refine AA (Am (B1 O a9 (λe=>by cases e) O hs λq1 S2 h3 d7 e5 k6=>AJ 1 (AF O O (AE (AX (kp [1] O) (AA (Am (AJ 3 (Ac O k6 BS DK O λq7 k8=>Ah A3 d7.1 O k8 F9 O λv9 gj=>Ag O gj FA O λkb=>AE ?_)))))))))
 obtain⟨d8,E⟩:=Ly E
 refine Iq (r:=AN.int) (zx:=0) E4 O ⟨O,by unfold AI;omega⟩ O O d8 O O d7 λk bz bf b0=>AJ 1 (AF O O (AE (AX (kp [3,1] O) (AA (AA (AG (.inl O) ?_))))))
 have d9:=k6.mono b0
 refine Ac O d9 BS DK O λkc gk=>Ah A3 bf.1 O gk F9 O λgl ea=>Ag O ea FA O λkd=>AB O O (AD (kp [17,16,15,3,1] O) (Aj (λa w=>∃(ba:List Int),IV B S2 bz (128,[]) a w [(3,k),(1,q1)] (OS AN.int 3 k ba::L) λ_ _=>C8 N j ba=some r) ?_ ?_))
 ·refine Ay (λn1=>λa w=>∃(W:Int) (ag:List Int),IV B S2 bz (128,[]) a w [(16,.int .i64 (↑j.Places.length:Int)),(15,gl),(3,k),(1,q1),(17,.int .i64 W)] (OS AN.int 3 k ag::L) λ_ _=>AI W∧C6 N j (C8 N j) n1 W ag=some r) N ?_ ?_ ?_
  ·intro aa ww hf hw
   exact⟨0,(List.replicate ((↑j.Places.length:Int):Int).toNat (0:Int)),_,_,hf.sub (kp [16,15,3,1,17] O),hw,bf,(B8.refl S2 bz),(iq (n:=0) O),E⟩
  ·rintro aa ww ⟨_,_,_,_,_,_,_,_,_,E⟩
   rw[C6] at E;cases E
  rintro n1 aa ww ⟨W,ag,ke,kf,hf,hw,ai,b1,kg,E⟩
  refine Ad ?_ hf hw
  clear hf hw ww aa
  rw[C6] at E
  refine AA (AG (.inl O) (A0 O O O (AD (kp [18,16,15,3,1,17] O) (AA (AW O (λb2=>?_) (λb2=>?_))))))
  ·have E:=BU b2 E
   refine AT (AA (A6 (AA (Am (AJ 3 (AB O O ?_))))))
   have gm:=ea.mono' b1
   obtain⟨u,eb,E⟩:=bd E
   refine A8 O O gm FA eb O λkh gn=>Bw A3 ai.1 O gn JZ (λe=>by cases e) O λki gp=>AE (Cg Nv O ai λkj kk ec ed=>AJ 1 (AF O O (AE ?_)))
   have gq:=gp.mono ed
   obtain⟨ee,ef,eg,rfl,kl,km,kn,ko,gr,gs,gt,gu,kq,kr,ks,gv⟩:=Br.ex gq
   refine Ge (vs:=[.string u.Name,.int .i64 u.Kind,.int .i64 u.Office,.int .i64 u.Cap,ee,ef,.int .i64 u.Num,.int .i64 u.Den,.int .i64 u.Down,.int .i64 u.Delay,.int .i64 u.Floor,eg]) (cs':=[.string u.Name,.int .i64 u.Kind,.int .i64 u.Office,.int .i64 u.Cap,ee,ef,.int .i64 u.Num,.int .i64 u.Den,.int .i64 u.Down,.int .i64 u.Delay,.int .i64 u.Floor,eg]) O O O (AH O (AH O (AH O (AH O (AH gr.one (AH gs.one (AH O (AH O (AH O (AH O (AH O (AH gv.one D2)))))))))))) JZ O ec .head O O λkt aj gw=>AX (kp [4,5,16,15,3,1,17] O) (Am (AJ 6 (AB O O (AB O O (AL O Qa O (AS A3 aj O mh O Ae O (AL O KY O (AS A3 aj O mh O Ae O (AE ?_)))))))))
   obtain⟨eh,ei,E⟩:=bd E
   refine Bb O O O P0 O aj (Gl (St.all _) gt gu ei) λku kv kw bg gx kx p=>?_
   obtain⟨rfl,gy,g6⟩:=p
   refine AJ 1 ?_
   obtain⟨ky,ej,E⟩:=bd E
   refine A5 bg (mt mh) O O BP ej O λkz ek=>AE ?_
   obtain⟨gz,el,E⟩:=bd E
   refine Ef (r:=AN.int) (l:=ag) (i:=W) (x:=gz) O O (⟨_,O,O,gy⟩:Rd _ _ AN.int _ eh) ek el LG.id Ae (λ_=>rfl) bg (.tail .head) λk0 em g0=>AX (kp [16,15,3,1,17] O) (BJ (AG (.inl O) (Ap O O O (AB O O (AD (kp [17,16,15,3,1] O) (WF.nil (λaa ww hf hw=>?_)))))))
   have en:=em.sel [1] 1 O
   have eo:=b1.trans (ed.trans (gw.trans (gx.trans g0)))
   exact⟨(BD (W+1)),(upd ag W eh),_,_,hf.sub (kp [16,15,3,1,17] O),hw,en,eo,(BG _),E⟩
  have E:=BV b2 E
  refine BB O (λaa ww hf hw=>?_)
  exact⟨ag,_,_,hf.sub (kp [3,1] O),hw,ai,b1,E⟩
 rintro aa ww ⟨ba,b3,b4,hf,hw,bh,b5,E⟩
 refine Ad ?_ hf hw
 clear hf hw ww aa
 rw[C8] at E
 refine AA (AA (AG (.inl O) ?_))
 have g1:=d9.mono b5
 refine Ac O g1 DU Ft O λk1 g2=>Ah A3 bh.1 O g2 Ir O λak ep=>Ag O ep G4 O λk2=>AB O O (AD (kp [34,33,32,3] O) (Aj (λa w=>∃(ah:List Int),IV B b3 b4 (128,[]) a w [(3,k)] (OS AN.int 3 k ah::L) λ_ _=>CA N ah=some r) ?_ ?_))
 ·refine Ay (λn3=>λa w=>∃(H:Int) (y:List Int),IV B b3 b4 (128,[]) a w [(33,.int .i64 (↑j.Links.length:Int)),(32,ak),(3,k),(34,.int .i64 H)] (OS AN.int 3 k y::L) λ_ _=>AI H∧BL N j (CA N) n3 H y=some r) N ?_ ?_ ?_
  ·intro aa ww hf hw
   exact⟨0,ba,_,_,hf.sub (kp [33,32,3,34] O),hw,bh,(B8.refl b3 b4),(iq (n:=0) O),E⟩
  ·rintro aa ww ⟨_,_,_,_,_,_,_,_,_,E⟩
   rw[BL] at E;cases E
  rintro n3 aa ww ⟨H,y,s,eq,hf,hw,X,am,k3,E⟩
  refine Ad ?_ hf hw
  clear hf hw ww aa
  rw[BL] at E
  refine AA (AG (.inl O) (A0 O O O (AD (kp [35,33,32,3,34] O) (AA (AW O (λan=>?_) (λan=>?_))))))
  ·have E:=BU an E
   refine AT (AA (Aj (λa w=>∃(Y:List Int),IV B s eq (128,[]) a w [(33,.int .i64 (↑j.Links.length:Int)),(32,ak),(3,k),(34,.int .i64 H)] (OS AN.int 3 k Y::L) λ_ _=>Bz N H (BL N j (CA N) n3) Y=some r) ?_ ?_))
   ·refine AA (Am (AJ 2 ?_))
    have er:=ep.mono' am
    obtain⟨c,b6,E⟩:=bd E
    refine A8 O O er G4 b6 O λg7 es=>Bw A3 X.1 O es F8 (λe=>by cases e) O λg8 et=>AE (Cg M0 O X λz g9 b7 J=>?_)
    have eu:=et.mono J
    obtain⟨Z,ab,ac,rfl,ha,hc,ev,hd,bi,bj,bk,he,hg,hi,hj,bl,bm,hk,hl,bn,bo,hm⟩:=Bh.ex eu
    refine Ge (vs:=[.string c.Name,.int .i64 c.Kind,.int .i64 c.From,.int .i64 c.To,Z,ab,ac,.int .i64 c.Positions,.int .i64 c.Speed,.int .i64 c.Leak,.int .i64 c.Crest,.int .i64 c.Num,.int .i64 c.Den,.int .i64 c.Prime,.int .i64 c.Break,.int .i64 c.BackNum,.int .i64 c.BackDen,.int .i64 c.Delay]) (cs':=[.string c.Name,.int .i64 c.Kind,.int .i64 c.From,.int .i64 c.To,Z,ab,ac,.int .i64 c.Positions,.int .i64 c.Speed,.int .i64 c.Leak,.int .i64 c.Crest,.int .i64 c.Num,.int .i64 c.Den,.int .i64 c.Prime,.int .i64 c.Break,.int .i64 c.BackNum,.int .i64 c.BackDen,.int .i64 c.Delay]) O O O (AH O (AH O (AH O (AH O (AH bi.one (AH bj.one (AH bk.one (AH O (AH O (AH O (AH O (AH O (AH O (AH O (AH O (AH O (AH O (AH O D2)))))))))))))))))) F8 O b7 .head O O λC d D=>AX (kp [7,33,32,3,34] O) (AA (AG (.inl O) (AL O Fs O (AS A3 d O mh O Ae O (AD (kp [39,7,33,32,3,34] O) (A6 (AA (AG (.inl O) (Bd O O O (AF O O (AD (kp [40,39,7,33,32,3,34] O) (AW O (λao=>?_) (λao=>?_)))))))))))))
    ·have E:=BU ao E
     refine AA ?_
     obtain⟨hn,b8,E⟩:=bd E
     obtain⟨F,b9,E⟩:=bd E
     obtain⟨G,ca,E⟩:=bd E
     obtain⟨ho,cb,E⟩:=bd E
     refine Mk (m:=[(7,.pointer (some ⟨z,0,none⟩)),(33,.int .i64 (↑j.Links.length:Int)),(32,ak),(3,k),(34,.int .i64 H)]) 17 (λi v hh=>match i with|0=>v=k|1=>v= .pointer (some ⟨z,2,none⟩)|2=>v= .int .i64 c.From∧AI c.From|3=>EP k (c.From.toNat*(AN.int).sz+0) v|4=>v= .int .i64 F∧AI F|5=>v= .pointer (some ⟨z,4,none⟩)|6=>Sl s hh Bm v c.Rate|7=>v= .pointer (some ⟨z,5,none⟩)|8=>v= .pointer (some ⟨z,5,none⟩)|9=>Sl s hh Bm v c.Band.Lo|10=>v= .pointer (some ⟨z,5,none⟩)|11=>v= .pointer (some ⟨z,6,none⟩)|12=>Sl s hh Bm v c.Band.Hi|13=>Sl (SN s C hh) hh (AN.sl Bm) v ([c.Rate,c.Band.Lo,c.Band.Hi]:List (List BI))∧∃ad,v= .slice (some ad) 3 3|14=>v= .int .i64 G∧AI G|15=>v= .int .i64 (BD (F+G))∧AI (BD (F+G))|16=>EP k (c.From.toNat*(AN.int).sz+0) v|_=>False) [[],[],[(1,43)],[(0,42),(2,44)],[(3,45)],[],[(5,47)],[],[(7,49)],[(8,50)],[],[(10,52)],[(11,53)],[(6,48),(9,51),(12,54)],[(13,55)],[(4,46),(14,56)],[(0,42),(2,44)]] [(15,57),(16,58)] mo (by kernel_rfl) [7,33,32,3,34] O (by kernel_rfl) (by kernel_rfl) (by kernel_rfl) (kp [7,33,32,3,34] O) (λi v h1 h2 o1 o2 hr=>?_) ?_ ?_
     ·match i,hr with
       |0,hr=>exact hr
       |1,hr=>exact hr
       |2,hr=>exact hr
       |3,hr=>exact hr
       |4,hr=>exact hr
       |5,hr=>exact hr
       |6,hr=>exact Sl.mono' hr (o2.ext λb hb=>Nat.lt_of_lt_of_le (d.1 b hb) o1.siz)
       |7,hr=>exact hr
       |8,hr=>exact hr
       |9,hr=>exact Sl.mono' hr (o2.ext λb hb=>Nat.lt_of_lt_of_le (d.1 b hb) o1.siz)
       |10,hr=>exact hr
       |11,hr=>exact hr
       |12,hr=>exact Sl.mono' hr (o2.ext λb hb=>Nat.lt_of_lt_of_le (d.1 b hb) o1.siz)
       |13,hr=>exact⟨Sl.mono' hr.1 (SN.mono d.1 o1 o2),hr.2⟩
       |14,hr=>exact hr
       |15,hr=>exact hr
       |16,hr=>exact hr
       |_+17,hr=>exact hr.elim
     ·refine Ax.cons O ?_ ?_
      ·intro mq hh o
       have hsN:=o.st d
       exact AJ 1 (AB O O (AE (AK (BA.refl _) O)))
      refine Ax.cons O ?_ ?_
      ·intro mq hh o
       have hsN:=o.st d
       exact AJ 1 (AL O Id O (AE (AK (BA.refl _) O)))
      refine Ax.cons O ?_ ?_
      ·intro mq hh o
       intro hp ew
       have hsN:=o.st d
       cases ew
       exact AJ 1 (AS A3 hsN O mh O Ae O (AE (AK (BA.refl _) ⟨O,ev⟩)))
      refine Ax.cons O ?_ ?_
      ·intro mq hh o
       intro hq ey ht ez
       have hsN:=o.st d
       cases ey
       obtain⟨rfl,hu⟩:=ez
       exact AJ 1 (A5 hsN (mt mh) O O BP b8 O λhv cc=>AE (AK (BA.refl _) cc))
      refine Ax.cons O ?_ ?_
      ·intro mq hh o
       intro hx e0
       have hsN:=o.st d
       refine AJ 1 ?_
       have e1:=hsN.epAt (mt mh) b9 El.id e0
       exact Af A3 (λ_ x=>x) O e1 Ae O λe2=>AE (AK (BA.refl _) ⟨O,e2⟩)
      refine Ax.cons O ?_ ?_
      ·intro mq hh o
       have hsN:=o.st d
       exact AJ 1 (AL O MO O (AE (AK (BA.refl _) O)))
      refine Ax.cons O ?_ ?_
      ·intro mq hh o
       intro hy e3
       have hsN:=o.st d
       cases e3
       refine AJ 1 (AS A3 hsN O mh O Hz O (AE ?_))
       have e4:=bi.mono' (D.trans (o.ext d.1))
       exact AK (BA.refl _) e4
      refine Ax.cons O ?_ ?_
      ·intro mq hh o
       have hsN:=o.st d
       exact AJ 1 (AL O KV O (AE (AK (BA.refl _) O)))
      refine Ax.cons O ?_ ?_
      ·intro mq hh o
       intro hz e6
       have hsN:=o.st d
       cases e6
       exact AJ 1 (AL O OZ O (AE (AK (BA.refl _) O)))
      refine Ax.cons O ?_ ?_
      ·intro mq hh o
       intro h0 e7
       have hsN:=o.st d
       cases e7
       refine AJ 1 (AS A3 hsN O mh O Hz O (AE ?_))
       have e8:=bj.mono' (D.trans (o.ext d.1))
       exact AK (BA.refl _) e8
      refine Ax.cons O ?_ ?_
      ·intro mq hh o
       have hsN:=o.st d
       exact AJ 1 (AL O KV O (AE (AK (BA.refl _) O)))
      refine Ax.cons O ?_ ?_
      ·intro mq hh o
       intro h4 e9
       have hsN:=o.st d
       cases e9
       exact AJ 1 (AL O OY O (AE (AK (BA.refl _) O)))
      refine Ax.cons O ?_ ?_
      ·intro mq hh o
       intro h5 fb
       have hsN:=o.st d
       cases fb
       refine AJ 1 (AS A3 hsN O mh O Hz O (AE ?_))
       have fc:=bk.mono' (D.trans (o.ext d.1))
       exact AK (BA.refl _) fc
      refine Ax.cons O ?_ ?_
      ·intro mq hh o
       intro fd K fe M ff Q
       have hsN:=SN.st d o
       have K:=Sl.mono' (S':=(SN s C hh)) K ⟨λb hb=> .inl hb,λ_ _=>rfl,Nat.le_refl _⟩
       have K:Sl _ _ Bm fd c.Rate:=K
       have M:=Sl.mono' (S':=(SN s C hh)) M ⟨λb hb=> .inl hb,λ_ _=>rfl,Nat.le_refl _⟩
       have M:Sl _ _ Bm fe c.Band.Lo:=M
       have Q:=Sl.mono' (S':=(SN s C hh)) Q ⟨λb hb=> .inl hb,λ_ _=>rfl,Nat.le_refl _⟩
       have Q:Sl _ _ Bm ff c.Band.Hi:=Q
       have hsF:=hsN.fz
       obtain⟨cd,bb,rfl,h6⟩:=(K).len
       obtain⟨ce,bc,rfl,h7⟩:=(M).len
       obtain⟨cf,be,rfl,h8⟩:=(Q).len
       refine Dw (cs:=[(.slice cd c.Rate.length bb),(.slice ce c.Band.Lo.length bc),(.slice cf c.Band.Hi.length be)]) Yc O O O O O O O hsF λh9 ia cg ae=>?_
       have fg:=Q.mono' ae
       have fh:=M.mono' ae
       have fi:=K.mono' ae
       have ch:=cg.bxos (r:=(AN.sl Bm)) (l:=([c.Rate,c.Band.Lo,c.Band.Hi]:List (List BI))) .head ⟨_,_,O,⟨_,O,fi⟩,⟨_,_,O,⟨_,O,fh⟩,⟨_,_,O,⟨_,O,fg⟩,O⟩⟩⟩ (by simp [maxLen])
       obtain⟨ib,ci,fj,fk⟩:=ch.pubs .head
       have ap:=Fz.done o (ae.trans fj) ci
       exact AK ap.1 ⟨Sl.mono' fk ap.2,_,O⟩
      refine Ax.cons O ?_ ?_
      ·intro mq hh o
       intro ic aq
       have hsN:=SN.st d o
       obtain⟨aq,g3,rfl⟩:=aq
       refine Bb O O O aP O hsN (Ms (St.all _) (aq.mono (λb hb=>hsN.1 b hb) (λ_ _=>rfl)) ca) λie ig ih g4 ii bp p=>?_
       obtain⟨rfl,fl,g5⟩:=p
       exact AK ⟨bp.siz,λb hb=>bp.same b hb⟩ ⟨O,fl⟩
      refine Ax.cons O ?_ ?_
      ·intro mq hh o
       intro ij fm ik fn
       have hsN:=o.st d
       obtain⟨rfl,il⟩:=fm
       obtain⟨rfl,im⟩:=fn
       exact AJ 1 (Ap O O O (AE (AK (BA.refl _) ⟨O,(BG _)⟩)))
      refine Ax.cons O ?_ ?_
      ·intro mq hh o
       intro io fo ip fp
       have hsN:=o.st d
       cases fo
       obtain⟨rfl,ir⟩:=fp
       exact AJ 1 (A5 hsN (mt mh) O O BP cb O λit cj=>AE (AK (BA.refl _) cj))
      exact trivial
     intro iu ar iv fq iw fr
     have ck:=SN.st d ar
     obtain⟨rfl,fs⟩:=fq
     obtain⟨ft,cl,E⟩:=bd E
     refine Ef (r:=AN.int) (l:=y) (i:=c.From) (x:=ft) O O (⟨_,O,O,fs⟩:Rd _ _ AN.int _ (BD (F+G))) fr cl LG.id Ae (λ_=>rfl) ck (.tail .head) λiy t bq=>AX (kp [7,33,32,3,34] O) (AA (AG (.inl O) (AL O HR O (AS A3 t O mh O Ae O (CH O O O (AD (kp [61,7,33,32,3,34] O) (AW O (λau=>?_) (λau=>?_))))))))
     ·have E:=BU au E
      refine JM 12 mo (by kernel_rfl) O t (AB O O (AL O HR O (AS BZ t O mh O Ae O ?_)))
      obtain⟨iz,cm,E⟩:=bd E
      refine A5 t (mt mh) O O BP cm O λi0 cn=>?_
      obtain⟨br,co,E⟩:=bd E
      have fu:=t.epAt (mt mh) co El.id cn
      refine Af BZ (λ_ x=>x) O fu Ae O λi1=>AL O KD O (AS BZ t O mh O Ae O (AL O Jb O (AS BZ t O mh O Ae O ?_)))
      obtain⟨bs,cp,E⟩:=bd E
      refine CM O O O P0 O (λh' o=>Gl (St.all h') bn bo cp) λfv=>?_
      have i2:=fv
      refine Ap O O O ?_
      obtain⟨i3,cq,E⟩:=bd E
      refine A5 t (mt mh) O O BP cq O λi4 cr=>IJ λi5 ct fw=>?_
      obtain⟨fx,cu,E⟩:=bd E
      refine Ef (r:=AN.int) (l:=(upd y c.From (BD (F+G)))) (i:=c.To) (x:=fx) O O (⟨_,O,O,(BG _)⟩:Rd _ _ AN.int _ (BD (br+bs))) cr cu LG.id Ae (λ_=>rfl) ct (.tail .head) λi6 cv fy=>AX (kp [33,32,3,34] O) (BJ (WF.nil (λaa ww hf hw=>?_)))
      have cw:=cv.sel [1] 1 O
      have cx:=J.trans (D.trans ((SN.ext d.1 ar).trans (bq.trans (fw.trans fy))))
      exact⟨(upd (upd y c.From (BD (F+G))) c.To (BD (br+bs))),_,_,hf.sub (kp [33,32,3,34] O),hw,cw,cx,E⟩
     have E:=BV au E
     refine AT (BJ (WF.nil (λaa ww hf hw=>?_)))
     have cy:=t.sel [1] 1 O
     have cz:=J.trans (D.trans ((SN.ext d.1 ar).trans bq))
     exact⟨(upd y c.From (BD (F+G))),_,_,hf.sub (kp [33,32,3,34] O),hw,cy,cz,E⟩
    have E:=BV ao E
    refine AA (AA (AG (.inl O) (Bd O O O (AF O O (AD (kp [74,39,7,33,32,3,34] O) (GW (λa w=>∃(av:Bool),IV B s C (128,[]) a w [(39,.int .i64 c.Kind),(7,.pointer (some ⟨z,0,none⟩)),(33,.int .i64 (↑j.Links.length:Int)),(32,ak),(3,k),(34,.int .i64 H),(74,.bool av)] (Bx z 67 [.string c.Name,.int .i64 c.Kind,.int .i64 c.From,.int .i64 c.To,Z,ab,ac,.int .i64 c.Positions,.int .i64 c.Speed,.int .i64 c.Leak,.int .i64 c.Crest,.int .i64 c.Num,.int .i64 c.Den,.int .i64 c.Prime,.int .i64 c.Break,.int .i64 c.BackNum,.int .i64 c.BackDen,.int .i64 c.Delay]::OS AN.int 3 k y::L) λ_ _=>C7 N y c (Bz N H (BL N j (CA N) n3)) av=some r) ?_ ?_))))))
    ·refine AW O (λaw=>?_) (λaw=>?_)
     ·have E:=BU aw E
      refine AT (WF.nil (λaa ww hf hw=>?_))
      exact⟨(decide (c.Kind=1)),_,_,hf.sub (kp [39,7,33,32,3,34,74] O),hw,d,(B8.refl s C),E⟩
     have E:=BV aw E
     refine AA (AG (.inl O) (Bd O O O (AF O O (AD (kp [74,39,7,33,32,3,34] O) (GW (λa w=>∃(af:Bool),IV B s C (128,[]) a w [(39,.int .i64 c.Kind),(7,.pointer (some ⟨z,0,none⟩)),(33,.int .i64 (↑j.Links.length:Int)),(32,ak),(3,k),(34,.int .i64 H),(74,.bool af)] (Bx z 67 [.string c.Name,.int .i64 c.Kind,.int .i64 c.From,.int .i64 c.To,Z,ab,ac,.int .i64 c.Positions,.int .i64 c.Speed,.int .i64 c.Leak,.int .i64 c.Crest,.int .i64 c.Num,.int .i64 c.Den,.int .i64 c.Prime,.int .i64 c.Break,.int .i64 c.BackNum,.int .i64 c.BackDen,.int .i64 c.Delay]::OS AN.int 3 k y::L) λ_ _=>GE N (C7 N y c (Bz N H (BL N j (CA N) n3))) af=some r) ?_ ?_)))))
     ·refine AW O (λax=>?_) (λax=>?_)
      ·have E:=BU ax E
       refine AT (WF.nil (λaa ww hf hw=>?_))
       exact⟨(decide (c.Kind=5)),_,_,hf.sub (kp [39,7,33,32,3,34,74] O),hw,d,(B8.refl s C),E⟩
      have E:=BV ax E
      refine AG (.inl O) (Bd O O O (AF O O (AD (kp [74,39,7,33,32,3,34] O) (WF.nil (λaa ww hf hw=>?_)))))
      exact⟨(decide (c.Kind=3)),_,_,hf.sub (kp [39,7,33,32,3,34,74] O),hw,d,(B8.refl s C),E⟩
     rintro aa ww ⟨af,i7,i8,hf,hw,c0,f0,E⟩
     refine Ad ?_ hf hw
     clear hf hw ww aa
     rw[GE] at E
     refine WF.nil (λaa ww hf hw=>?_)
     exact⟨af,_,_,hf.sub (kp [39,7,33,32,3,34,74] O),hw,c0,f0,E⟩
    rintro aa ww ⟨av,i9,ja,hf,hw,g,ay,E⟩
    refine Ad ?_ hf hw
    clear hf hw ww aa
    rw[C7] at E
    refine AW O (λaz=>?_) (λaz=>?_)
    ·have E:=BU az E
     refine JM 12 mo (by kernel_rfl) O g (AB O O (AL O Id O (AS BZ g O mh O Ae O ?_)))
     obtain⟨jb,c1,E⟩:=bd E
     refine A5 g (mt mh) O O BP c1 O λjc c2=>?_
     obtain⟨bt,c3,E⟩:=bd E
     have f1:=g.epAt (mt mh) c3 El.id c2
     refine Af BZ (λ_ x=>x) O f1 Ae O λjd=>AL O H2 O (AS BZ g O mh O Ae O (AL O Iy O (AS BZ g O mh O Ae O ?_)))
     obtain⟨bu,c4,E⟩:=bd E
     refine CM O O O P0 O (λh' o=>Gl (St.all h') bl bm c4) λf2=>?_
     have je:=f2
     refine Ap O O O ?_
     obtain⟨jf,c5,E⟩:=bd E
     refine A5 g (mt mh) O O BP c5 O λjg c6=>IJ λjh c7 f3=>?_
     obtain⟨f4,c8,E⟩:=bd E
     refine Ef (r:=AN.int) (l:=y) (i:=c.From) (x:=f4) O O (⟨_,O,O,(BG _)⟩:Rd _ _ AN.int _ (BD (bt+bu))) c6 c8 LG.id Ae (λ_=>rfl) c7 (.tail .head) λji c9 f5=>AX (kp [33,32,3,34] O) (BJ (WF.nil (λaa ww hf hw=>?_)))
     have da:=c9.sel [1] 1 O
     have db:=J.trans (D.trans (ay.trans (f3.trans f5)))
     exact⟨(upd y c.From (BD (bt+bu))),_,_,hf.sub (kp [33,32,3,34] O),hw,da,db,E⟩
    have E:=BV az E
    refine AA (AG (.inl O) (Bd O O O (AF O O (AD (kp [90,7,33,32,3,34] O) (AW O (λa0=>?_) (λa0=>?_))))))
    ·have E:=BU a0 E
     refine AA (JM 13 mo (by kernel_rfl) O g (AB O O (AL O Id O (AS BZ g O mh O Ae O ?_))))
     obtain⟨jj,dc,E⟩:=bd E
     refine A5 g (mt mh) O O BP dc O λjk dd=>?_
     obtain⟨a1,de,E⟩:=bd E
     have f6:=g.epAt (mt mh) de El.id dd
     refine Af BZ (λ_ x=>x) O f6 Ae O λjl=>AL O H2 O (AS BZ g O mh O Ae O (AL O Iy O (AS BZ g O mh O Ae O ?_)))
     obtain⟨a2,df,E⟩:=bd E
     refine CM O O O P0 O (λh' o=>Gl (St.all h') bl bm df) λf7=>?_
     have jm:=f7
     refine TT O O O (Ap O O O ?_)
     obtain⟨jn,dg,E⟩:=bd E
     refine A5 g (mt mh) O O BP dg O λjo dh=>IJ λjp di f8=>?_
     obtain⟨f9,dj,E⟩:=bd E
     refine Ef (r:=AN.int) (l:=y) (i:=c.From) (x:=f9) O O (⟨_,O,O,(BG _)⟩:Rd _ _ AN.int _ (BD (a1+(BD (2*a2))))) dh dj LG.id Ae (λ_=>rfl) di (.tail .head) λjq A ga=>AX (kp [7,33,32,3,34] O) (JM 13 mo (by kernel_rfl) O A (AB O O (AL O HR O (AS BZ A O mh O Ae O ?_))))
     obtain⟨jr,dk,E⟩:=bd E
     refine A5 A (mt mh) O O BP dk O λjs dl=>?_
     obtain⟨bv,dm,E⟩:=bd E
     have gb:=A.epAt (mt mh) dm El.id dl
     refine Af BZ (λ_ x=>x) O gb Ae O λjt=>AL O KD O (AS BZ A O mh O Ae O (AL O Jb O (AS BZ A O mh O Ae O ?_)))
     obtain⟨bw,dn,E⟩:=bd E
     refine CM O O O P0 O (λh' o=>Gl (St.all h') bn bo dn) λgc=>?_
     have ju:=gc
     refine TT O O O (Ap O O O ?_)
     obtain⟨jv,dp,E⟩:=bd E
     refine A5 A (mt mh) O O BP dp O λjw dq=>IJ λjx dr gd=>?_
     obtain⟨ge,ds,E⟩:=bd E
     refine Ef (r:=AN.int) (l:=(upd y c.From (BD (a1+(BD (2*a2)))))) (i:=c.To) (x:=ge) O O (⟨_,O,O,(BG _)⟩:Rd _ _ AN.int _ (BD (bv+(BD (2*bw))))) dq ds LG.id Ae (λ_=>rfl) dr (.tail .head) λjy dt gf=>AX (kp [33,32,3,34] O) (BJ (WF.nil (λaa ww hf hw=>?_)))
     have du:=dt.sel [1] 1 O
     have dv:=J.trans (D.trans (ay.trans (f8.trans (ga.trans (gd.trans gf)))))
     exact⟨(upd (upd y c.From (BD (a1+(BD (2*a2))))) c.To (BD (bv+(BD (2*bw))))),_,_,hf.sub (kp [33,32,3,34] O),hw,du,dv,E⟩
    have E:=BV a0 E
    refine AT (BJ (WF.nil (λaa ww hf hw=>?_)))
    have dw:=g.sel [1] 1 O
    have dx:=J.trans (D.trans ay)
    exact⟨y,_,_,hf.sub (kp [33,32,3,34] O),hw,dw,dx,E⟩
   rintro aa ww ⟨Y,jz,j0,hf,hw,dy,gg,E⟩
   refine Ad ?_ hf hw
   clear hf hw ww aa
   rw[Bz] at E
   refine AG (.inl O) (Ap O O O (AB O O (AD (kp [34,33,32,3] O) (WF.nil (λaa ww hf hw=>?_)))))
   exact⟨(BD (H+1)),Y,_,_,hf.sub (kp [33,32,3,34] O),hw,dy,(am.trans gg),(BG _),E⟩
  have E:=BV an E
  refine BB O (λaa ww hf hw=>?_)
  exact⟨y,_,_,hf.sub (kp [3] O),hw,X,am,E⟩
 rintro aa ww ⟨ah,a3,a4,hf,hw,a5,bx,E⟩
 refine Ad ?_ hf hw
 clear hf hw ww aa
 rw[CA] at E
 refine AA (AA (AG (.inl O) (AB O O (LJ a5 mh O BP O λj1=>AB O O (AD (kp [121,120,119] O) (Aj (λa w=>IV B a3 a4 (128,[]) a w [] (L) λ_ _=>EK N=some r) ?_ ?_))))))
 ·refine Ay (λn8=>λa w=>∃(V:Int),IV B a3 a4 (128,[]) a w [(120,.int .i64 (↑ah.length:Int)),(119,k),(121,.int .i64 V)] (OS AN.int 3 k ah::L) λ_ _=>AI V∧C5 N ah (EK N) n8 V=some r) N ?_ ?_ ?_
  ·intro aa ww hf hw
   exact⟨0,_,_,hf.sub (kp [120,119,121] O),hw,a5,(B8.refl a3 a4),(iq (n:=0) O),E⟩
  ·rintro aa ww ⟨_,_,_,_,_,_,_,_,E⟩
   rw[C5] at E;cases E
  rintro n8 aa ww ⟨V,j2,j3,hf,hw,I,a6,j4,E⟩
  refine Ad ?_ hf hw
  clear hf hw ww aa
  rw[C5] at E
  refine AA (AG (.inl O) (A0 O O O (AD (kp [122,120,119,121] O) (AA (AW O (λa7=>?_) (λa7=>?_))))))
  ·have E:=BU a7 E
   refine AT (AA (A6 (AA (AG (.inl O) ?_))))
   obtain⟨j5,dz,E⟩:=bd E
   refine A5 I mh O O BP dz O λj6 d0=>?_
   obtain⟨j7,d1,E⟩:=bd E
   have gh:=I.epAt mh d1 El.id d0
   refine Af A3 (λ_ x=>x) O gh Ae O λj8=>AF O O (AD (kp [9,120,119,121] O) (AA (AG (.inl O) (AB O O (CE O O O (AD (kp [126,120,119,121] O) (AW O (λa8=>?_) (λa8=>?_))))))))
   ·have E:=BU a8 E
    refine AA (AG (.inl O) (AF O O (AD (kp [2] O) (Ab (λaa ww hf hw=>?_)))))
    have d2:=I.drop .head
    cases E
    have d3:=e5.trans (b0.trans (b5.trans (bx.trans a6)))
    exact Dp hf hw O O d3 ⟨O,d2⟩
   have E:=BV a8 E
   refine AT (BJ (AG (.inl O) (Ap O O O (AB O O (AD (kp [121,120,119] O) (WF.nil (λaa ww hf hw=>?_)))))))
   exact⟨(BD (V+1)),_,_,hf.sub (kp [120,119,121] O),hw,I,a6,(BG _),E⟩
  have E:=BV a7 E
  refine BB O (λaa ww hf hw=>?_)
  have d4:=I.drop .head
  exact⟨_,_,hf.sub OG,hw,d4,a6,E⟩
 rintro aa ww ⟨j9,ka,hf,hw,d5,gi,E⟩
 refine Ad ?_ hf hw
 clear hf hw ww aa
 rw[EK] at E
 refine AA (AG (.inl O) (AF O O (AD (kp [2] O) (Ab (λaa ww hf hw=>?_)))))
 cases E
 have d6:=e5.trans (b0.trans (b5.trans (bx.trans gi)))
 exact Dp hf hw O O d6 ⟨O,d5⟩
end Go.Proofs.YtblcgjadhemlbaaGreat
