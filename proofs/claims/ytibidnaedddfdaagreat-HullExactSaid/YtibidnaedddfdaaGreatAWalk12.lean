import Derived.Test.YtibidnaedddfdaaGreatAWalk11
namespace Go.Proofs.YtibidnaedddfdaaGreat
open Go.RowKit
set_option linter.unusedVariables false
set_option linter.unusedSimpArgs false
set_option maxRecDepth 10000
set_option maxHeartbeats 2000000
variable {N:Nat}{S:Nat→Prop}{L:List HP}{h:Ad}
theorem K0 (hs:St S L h) {s:Value}{t:AJ}(C:Rd S h A3 s t) {r:Bool}(E:FB N t=some r):
 BP Tryz.prog 44 #[s] S h (λv S' h'=>v= .bool r∧St S' (L) h'):=by
 refine Ac (l:=[s]) 80 Tryz.func44 O Tryz.ntmps44 O λB=>?_
 rw[FB] at E
 refine WF.seq (WF.rl (LF.boxp O C (λe=>by cases e) O hs λq1 S2 h3 Y e5 k6=>LF.q 1 (QF.as_ O O (AE (LF.nil (kp [1] O) (WF.seq (WF.seq (WF.rp (.inl O) (QF.fa O k6 I2 Oy O λq7 k8=>QF.ldl Aa Y.1 O k8 SD O λv9 Z=>QF.len O Z Pa O λbq=>QF.mv O O ?_)))))))))
 refine AA (kp [8,7,6,1] O) (WF.blockJ (λa w=>IV B S2 h3 (80,[]) a w [] (L) λ_ _=>DB N=some r) ?_ ?_)
 ·
  refine WF.loopF (λn1=>λa w=>∃(x:Int),IV B S2 h3 (80,[]) a w [(7,.int .i64 (↑t.Roads.length:Int)),(6,v9),(1,q1),(8,.int .i64 x)] (L) λ_ _=>AB x∧Bz N t (DB N) n1 x=some r) N ?_ ?_ ?_
  ·
   intro aa ww hf hw
   exact⟨0,_,_,hf.sub (kp [7,6,1,8] O),hw,Y,(BO.refl S2 h3),(iq (n:=0) O),E⟩
  ·
   rintro aa ww ⟨_,_,_,_,_,_,_,_,E⟩
   rw[Bz] at E;cases E
  ·
   rintro n1 aa ww ⟨x,br,bt,hf,hw,y,u,bu,E⟩
   refine WF.run ?_ hf hw
   clear hf hw ww aa
   rw[Bz] at E
   refine WF.seq (WF.rp (.inl O) (QF.lss O O O (AA (kp [9,7,6,1,8] O) (WF.seq (WF.if_ O (λK=>?_) (λK=>?_))))))
   ·
    have E:=Av K E
    refine WF.skip (WF.seq (WF.block (WF.seq (WF.rl (LF.q 2 ?_)))))
    have ay:=Z.mono' u
    obtain⟨b,ab,E⟩:=bd E
    refine QF.ixe O O ay Pa ab O λbv az=>QF.ld Aa y.1 O az Ob (λe=>by cases e) O λbw a0=>AE (LF.al R0 O y λbx bz ac z=>?_)
    have a1:=a0.mono z
    obtain⟨rfl,⟨b0,a2,a3,a4,a5,a6,a7⟩⟩:=FD.ex a1
    refine Aj (vs:=[.string b.Name,.int .i64 b.From,.int .i64 b.To,.int .i64 b.Hours,.int .i64 b.Flow,.int .i64 b.By,.int .i64 b.Limit]) O O O O Ob O ac .head O λb1 c D=>LF.nil (kp [4,7,6,1,8] O) (WF.seq (WF.seq (WF.rc (.inl O) c (QF.fao O Px O (AI Ak c O mh O AN O ?_)))))
    have ad:=u.trans (z.trans D)
    have F:=k6.mono ad
    refine QF.fa O F Gp MJ O λb2 a8=>QF.ldl Ak c.1 O a8 PT O λb3 a9=>QF.len O a9 NT O λba=>?_
    obtain⟨bb,ae,E⟩:=bd E
    refine AZ O O O Nr O (λh' o=>Em (St.all h') a2 (IJ ba) ae) (QF.not O O (QF.mv O O ?_))
    obtain⟨G,d,E⟩:=bd E
    refine QF.cutv 12 31 (.bool G) ?_ ?_
    ·
     cases af:(!bb)
     ·
      have d:=Aw af d
      refine QF.gy O O O (QF.fao O Pw O (QF.gy O O O (AI Ak c O mh O AN O (QF.gy O O O (QF.fa O F Gp MJ O λb4 bc=>QF.gy O O O (QF.ldl Ak c.1 O bc PT O λb5 be=>QF.gy O O O (QF.len O be NT O λb6=>QF.gy O O O (QF.fa O F GZ NM O λb7 bf=>QF.gy O O O (QF.ldl Ak c.1 O bf Qn O λb8 bg=>?_)))))))))
      refine QF.gy O O O (QF.len O bg OG O λb9=>QF.gy O O O (QF.addw O O O (QF.gy O O O ?_)))
      obtain⟨ca,ag,d⟩:=bd d
      refine AZ O O O Nr O (λh' o=>Em (St.all h') a3 (Au _) ag) (QF.gy O O O (QF.not O O (QF.pick O O O ?_)))
      cases d
      exact AH O
     ·
      have d:=Av af d
      cases d
      exact AL O O
    refine QF.mv O O (QF.cutv 6 38 (.bool (G||(decide (b.From=b.To)))) ?_ ?_)
    ·
     cases cb:G
     ·exact QF.gy O O O (QF.fao O Px O (QF.gy O O O (AI Ak c O mh O AN O (QF.gy O O O (QF.fao O Pw O (QF.gy O O O (AI Ak c O mh O AN O (QF.gy O O O (QF.eql O O O (QF.pick O O O (AH O)))))))))))
     ·exact AL O O
    refine QF.mv O O ?_
    obtain⟨ah,g,E⟩:=bd E
    refine QF.cutv 5 44 (.bool ah) ?_ ?_
    ·
     cases ai:(G||(decide (b.From=b.To)))
     ·
      have g:=Aw ai g
      refine QF.gy O O O (QF.fao O TO O (QF.gy O O O (AI Ak c O mh O AN O (QF.gy O O O ?_))))
      obtain⟨cc,aj,g⟩:=bd g
      refine AZ O O O F7 O (λh' o=>A6 (St.all h') a4 (iq (n:=1) O) (iq (n:=24) O) aj) (QF.gy O O O (QF.not O O (QF.pick O O O ?_)))
      cases g
      exact AH O
     ·
      have g:=Av ai g
      cases g
      exact AL O O
    refine QF.mv O O ?_
    obtain⟨ak,i,E⟩:=bd E
    refine QF.cutv 5 50 (.bool ak) ?_ ?_
    ·
     cases am:ah
     ·
      have i:=Aw am i
      refine QF.gy O O O (QF.fao O TN O (QF.gy O O O (AI Ak c O mh O AN O (QF.gy O O O ?_))))
      obtain⟨cd,an,i⟩:=bd i
      refine AZ O O O F7 O (λh' o=>A6 (St.all h') a5 (iq (n:=0) O) (iq (n:=1073741824) O) an) (QF.gy O O O (QF.not O O (QF.pick O O O ?_)))
      cases i
      exact AH O
     ·
      have i:=Av am i
      cases i
      exact AL O O
    refine QF.mv O O ?_
    obtain⟨bh,j,E⟩:=bd E
    refine QF.cutv 5 56 (.bool bh) ?_ ?_
    ·
     cases ao:ak
     ·
      have j:=Aw ao j
      refine QF.gy O O O (QF.fao O Pv O (QF.gy O O O (AI Ak c O mh O AN O (QF.gy O O O ?_))))
      obtain⟨ce,ap,j⟩:=bd j
      refine AZ O O O Hr O (λh' o=>BB (St.all h') a7 ap) (QF.gy O O O (QF.not O O (QF.pick O O O ?_)))
      cases j
      exact AH O
     ·
      have j:=Av ao j
      cases j
      exact AL O O
    refine Ai (kp [56,4,7,6,1,8] O) λcf p H=>WF.if_ O (λM=>?_) (λM=>?_)
    ·
     have E:=Av M E
     refine WF.seq (WF.rp (.inl O) (QF.as_ O O (AA (kp [2] O) (WF.ret (λaa ww hf hw=>?_)))))
     have aq:=p.drop .head
     cases E
     have ar:=e5.trans (u.trans (z.trans (D.trans H)))
     exact CS hf hw O O ar ⟨O,aq⟩
    ·
     have E:=Aw M E
     refine WF.skip (WF.seq (WF.rc (.inl O) p (QF.fao O Ni O (AI Ak p O mh O AN O (QF.eql O O O (QF.mv O O (QF.cutv 4 64 (.bool ((decide (b.By=(-1)))&&(decide (b.Limit≠0)))) ?_ ?_)))))))
     ·
      cases cg:(decide (b.By=(-1)))
      ·exact AL O O
      ·exact QF.gy O O O (QF.fao O Pv O (QF.gy O O O (AI Ak p O mh O AN O (QF.gy O O O (QF.neq O O O (QF.pick O O O (AH O)))))))
     refine QF.mv O O ?_
     obtain⟨bi,k,E⟩:=bd E
     refine QF.cutv 13 78 (.bool bi) ?_ ?_
     ·
      cases au:((decide (b.By=(-1)))&&(decide (b.Limit≠0)))
      ·
       have k:=Aw au k
       refine QF.gy O O O (QF.fao O Ni O (QF.gy O O O (AI Ak p O mh O AN O (QF.gy O O O (QF.neq O O O (QF.gy O O O (QF.mv O O ?_)))))))
       obtain⟨bj,m,k⟩:=bd k
       refine QF.cutv 8 77 (.bool bj) ?_ ?_
       ·
        cases av:(decide (b.By≠(-1)))
        ·
         have m:=Aw av m
         cases m
         exact AL O O
        ·
         have m:=Av av m
         refine QF.gy O O O (QF.fao O Ni O (QF.gy O O O (AI Ak p O mh O AN O (QF.gy O O O ?_))))
         have bk:=F.mono H
         refine QF.fa O bk Ah Bs O λch bl=>QF.gy O O O (QF.ldl Ak p.1 O bl EY O λci bm=>QF.gy O O O (QF.len O bm Dk O λbn=>QF.gy O O O ?_))
         obtain⟨cj,aw,m⟩:=bd m
         refine AZ O O O Nr O (λh' o=>Em (St.all h') a6 (IJ bn) aw) (QF.gy O O O (QF.not O O (QF.gy O O O (QF.pick O O O ?_))))
         cases m
         exact AH O
       refine QF.pick O O O ?_
       cases k
       exact AH O
      ·
       have k:=Av au k
       cases k
       exact AL O O
     refine Ai (kp [78,7,6,1,8] O) λck I J=>WF.if_ O (λA=>?_) (λA=>?_)
     ·
      have E:=Av A E
      refine WF.seq (WF.rp (.inl O) (QF.as_ O O (AA (kp [2] O) (WF.ret (λaa ww hf hw=>?_)))))
      have Q:=I.drop .head
      cases E
      have U:=e5.trans (u.trans (z.trans (D.trans (H.trans J))))
      exact CS hf hw O O U ⟨O,Q⟩
     ·
      have E:=Aw A E
      refine WF.skip (Al (WF.rp (.inl O) (QF.addw O O O (QF.mv O O (AA (kp [8,7,6,1] O) (WF.nil (λaa ww hf hw=>?_)))))))
      have V:=I.drop .head
      have W:=u.trans (z.trans (D.trans (H.trans J)))
      exact⟨(Ar (x+1)),_,_,hf.sub (kp [7,6,1,8] O),hw,V,W,(Au _),E⟩
   ·
    have E:=Aw K E
    refine WF.exit O (λaa ww hf hw=>?_)
    exact⟨_,_,hf.sub KI,hw,y,u,E⟩
 ·
  rintro aa ww ⟨bo,bp,hf,hw,X,ax,E⟩
  refine WF.run ?_ hf hw
  clear hf hw ww aa
  rw[DB] at E
  refine WF.seq (WF.rp (.inl O) (QF.as_ O O (AA (kp [2] O) (WF.ret (λaa ww hf hw=>?_)))))
  cases E
  exact CS hf hw O O (e5.trans ax) ⟨O,X⟩
theorem NB (hs:St S L h) {n:Value}{t:AJ}(p:Rd S h A3 n t) {r:Bool}(E:HD N t=some r):
 BP Tryz.prog 10 #[n] S h (λv S' h'=>v= .bool r∧St S' (L) h'):=by
 refine Ac (l:=[n]) 37 Tryz.func10 O Tryz.ntmps10 O λB=>?_
 rw[HD] at E
 refine WF.seq (WF.rl (LF.boxp O p (λe=>by cases e) O hs λq1 S2 h3 a e5 s=>LF.q 1 (QF.as_ O O (AE (LF.nil (kp [1] O) (WF.seq (WF.rc (.inl O) a (QF.ld Ak a.1 O s D1 (λe=>by cases e) O λv7 k8=>?_))))))))
 obtain⟨y9,ad,E⟩:=bd E
 refine AZ O O O YJ O (λh' o=>LV (St.all h') (k8.mono (o.all a.1)) ad) (QF.mv O O ?_)
 obtain⟨u,b,E⟩:=bd E
 refine QF.cutv 3 8 (.bool u) ?_ ?_
 ·
  cases w:y9
  ·
   have b:=Aw w b
   cases b
   exact AL O O
  ·
   have b:=Av w b
   refine QF.gy O O O (QF.ld Ak a.1 O s D1 (λe=>by cases e) O λap ae=>QF.gy O O O ?_)
   obtain⟨aq,x,b⟩:=bd b
   refine AZ O O O YI O (λh' o=>K1 (St.all h') (ae.mono (o.all a.1)) x) (QF.pick O O O ?_)
   cases b
   exact AH O
 refine QF.mv O O ?_
 obtain⟨y,c,E⟩:=bd E
 refine QF.cutv 3 12 (.bool y) ?_ ?_
 ·
  cases z:u
  ·
   have c:=Aw z c
   cases c
   exact AL O O
  ·
   have c:=Av z c
   refine QF.gy O O O (QF.ld Ak a.1 O s D1 (λe=>by cases e) O λar af=>QF.gy O O O ?_)
   obtain⟨au,A,c⟩:=bd c
   refine AZ O O O YH O (λh' o=>KT (St.all h') (af.mono (o.all a.1)) A) (QF.pick O O O ?_)
   cases c
   exact AH O
 refine QF.mv O O ?_
 obtain⟨C,d,E⟩:=bd E
 refine QF.cutv 3 16 (.bool C) ?_ ?_
 ·
  cases D:y
  ·
   have d:=Aw D d
   cases d
   exact AL O O
  ·
   have d:=Av D d
   refine QF.gy O O O (QF.ld Ak a.1 O s D1 (λe=>by cases e) O λav ag=>QF.gy O O O ?_)
   obtain⟨aw,F,d⟩:=bd d
   refine AZ O O O YG O (λh' o=>K3 (St.all h') (ag.mono (o.all a.1)) F) (QF.pick O O O ?_)
   cases d
   exact AH O
 refine QF.mv O O ?_
 obtain⟨G,g,E⟩:=bd E
 refine QF.cutv 3 20 (.bool G) ?_ ?_
 ·
  cases H:C
  ·
   have g:=Aw H g
   cases g
   exact AL O O
  ·
   have g:=Av H g
   refine QF.gy O O O (QF.ld Ak a.1 O s D1 (λe=>by cases e) O λax ah=>QF.gy O O O ?_)
   obtain⟨ay,I,g⟩:=bd g
   refine AZ O O O YF O (λh' o=>Ju (St.all h') (ah.mono (o.all a.1)) I) (QF.pick O O O ?_)
   cases g
   exact AH O
 refine QF.mv O O ?_
 obtain⟨J,i,E⟩:=bd E
 refine QF.cutv 3 24 (.bool J) ?_ ?_
 ·
  cases K:G
  ·
   have i:=Aw K i
   cases i
   exact AL O O
  ·
   have i:=Av K i
   refine QF.gy O O O (QF.ld Ak a.1 O s D1 (λe=>by cases e) O λaz ai=>QF.gy O O O ?_)
   obtain⟨a0,M,i⟩:=bd i
   refine AZ O O O YE O (λh' o=>KR (St.all h') (ai.mono (o.all a.1)) M) (QF.pick O O O ?_)
   cases i
   exact AH O
 refine QF.mv O O ?_
 obtain⟨Q,j,E⟩:=bd E
 refine QF.cutv 3 28 (.bool Q) ?_ ?_
 ·
  cases U:J
  ·
   have j:=Aw U j
   cases j
   exact AL O O
  ·
   have j:=Av U j
   refine QF.gy O O O (QF.ld Ak a.1 O s D1 (λe=>by cases e) O λa1 aj=>QF.gy O O O ?_)
   obtain⟨a2,V,j⟩:=bd j
   refine AZ O O O YD O (λh' o=>Kz (St.all h') (aj.mono (o.all a.1)) V) (QF.pick O O O ?_)
   cases j
   exact AH O
 refine QF.mv O O ?_
 obtain⟨W,k,E⟩:=bd E
 refine QF.cutv 3 32 (.bool W) ?_ ?_
 ·
  cases X:Q
  ·
   have k:=Aw X k
   cases k
   exact AL O O
  ·
   have k:=Av X k
   refine QF.gy O O O (QF.ld Ak a.1 O s D1 (λe=>by cases e) O λa3 ak=>QF.gy O O O ?_)
   obtain⟨a4,Y,k⟩:=bd k
   refine AZ O O O YB O (λh' o=>KU (St.all h') (ak.mono (o.all a.1)) Y) (QF.pick O O O ?_)
   cases k
   exact AH O
 refine QF.mv O O ?_
 obtain⟨am,m,E⟩:=bd E
 refine QF.cutv 3 36 (.bool am) ?_ ?_
 ·
  cases Z:W
  ·
   have m:=Aw Z m
   cases m
   exact AL O O
  ·
   have m:=Av Z m
   refine QF.gy O O O (QF.ld Ak a.1 O s D1 (λe=>by cases e) O λa5 an=>QF.gy O O O ?_)
   obtain⟨a6,ab,m⟩:=bd m
   refine AZ O O O YA O (λh' o=>K0 (St.all h') (an.mono (o.all a.1)) ab) (QF.pick O O O ?_)
   cases m
   exact AH O
 refine QF.as_ O O (Ai (kp [2] O) λa7 ac ao=>WF.ret (λaa ww hf hw=>?_))
 cases E
 exact CS hf hw O O (e5.trans ao) ⟨O,ac⟩
theorem NY (hs:St S L h) {b:Value}{c:(List Int)}(d:Sl S h AW.int b c) {r:Bool}(E:Hg N c=some r):
 BP Tryz.prog 154 #[b] S h (λv S' h'=>v= .bool r∧St S' (L) h'):=by
 refine Ac (l:=[b]) 24 Tryz.func154 O Tryz.ntmps154 O λB=>?_
 rw[Hg] at E
 refine WF.seq (WF.rp (.inl O) (QF.as_ O O (AA (kp [0] O) (WF.seq (WF.rp (.inl O) (QF.as_ O O (AA (kp [3,0] O) (WF.seq (WF.seq (WF.rp (.inl O) (QF.mv O O (QF.len O d Ea O λI=>QF.mv O O ?_))))))))))))
 refine AA (kp [8,7,6,3] O) (WF.blockJ (λa w=>IV B S h (24,[]) a w [] (L) λ_ _=>FK N=some r) ?_ ?_)
 ·
  refine WF.loopF (λy=>λa w=>∃(o:Int) (p:Int),IV B S h (24,[]) a w [(7,.int .i64 (↑c.length:Int)),(6,b),(3,.int .i64 o),(8,.int .i64 p)] (L) λ_ _=>AB o∧AB p∧D3 N c (FK N) y o p=some r) N ?_ ?_ ?_
  ·
   intro aa ww hf hw
   exact⟨0,0,_,_,hf.sub (kp [7,6,3,8] O),hw,hs,(BO.refl S h),(iq (n:=0) O),(iq (n:=0) O),E⟩
  ·
   rintro aa ww ⟨_,_,_,_,_,_,_,_,_,_,E⟩
   rw[D3] at E;cases E
  ·
   rintro y aa ww ⟨o,p,z,A,hf,hw,g,i,J,K,E⟩
   refine WF.run ?_ hf hw
   clear hf hw ww aa
   rw[D3] at E
   refine WF.seq (WF.rp (.inl O) (QF.lss O O O (AA (kp [9,7,6,3,8] O) (WF.seq (WF.if_ O (λk=>?_) (λk=>?_))))))
   ·
    have E:=Av k E
    refine WF.skip (WF.seq (WF.block (WF.seq (WF.rp (.inl O) ?_))))
    have t:=d.mono' i
    obtain⟨j,q,E⟩:=bd E
    refine QF.ixe O O t Ea q O λC u=>QF.ldi Aa g.1 O u AN O λD=>QF.as_ O O (AA (kp [5,7,6,3,8] O) (WF.seq (WF.seq (WF.rp (.inl O) (QF.mv O O (QF.lss O O O (QF.mv O O (QF.cutv 5 19 (.bool ((decide (j<0))||(decide ((Ar (1125899906842624-o))<j)))) ?_ ?_))))))))
    ·
     cases F:(decide (j<0))
     ·exact QF.gy O O O (QF.mv O O (QF.gy O O O (QF.mv O O (QF.gy O O O (QF.subw O O O (QF.gy O O O (QF.gtr O O O (QF.pick O O O (AH O)))))))))
     ·exact AL O O
    refine AA (kp [19,5,7,6,3,8] O) (WF.if_ O (λm=>?_) (λm=>?_))
    ·
     have E:=Av m E
     refine WF.seq (WF.rp (.inl O) (QF.as_ O O (AA (kp [2] O) (WF.ret (λaa ww hf hw=>?_)))))
     cases E
     exact CS hf hw O O i ⟨O,g⟩
    ·
     have E:=Aw m E
     refine WF.skip (WF.rp (.inl O) (QF.mv O O (QF.mv O O (QF.addw O O O (QF.as_ O O (AA (kp [3,7,6,8] O) (Al (WF.rp (.inl O) (QF.addw O O O (QF.mv O O (AA (kp [8,3,7,6] O) (WF.nil (λaa ww hf hw=>?_)))))))))))))
     exact⟨(Ar (o+j)),(Ar (p+1)),_,_,hf.sub (kp [7,6,3,8] O),hw,g,i,(Au _),(Au _),E⟩
   ·
    have E:=Aw k E
    refine WF.exit O (λaa ww hf hw=>?_)
    exact⟨_,_,hf.sub KI,hw,g,i,E⟩
 ·
  rintro aa ww ⟨G,H,hf,hw,s,x,E⟩
  refine WF.run ?_ hf hw
  clear hf hw ww aa
  rw[FK] at E
  refine WF.seq (WF.rp (.inl O) (QF.as_ O O (AA (kp [2] O) (WF.ret (λaa ww hf hw=>?_)))))
  cases E
  exact CS hf hw O O x ⟨O,s⟩
theorem Kn (hs:St S L h) {b:Value}{d:(List Int)}(g:Sl S h AW.int b d) {a:Int}(i:AB a) {r:Bool}(E:Gw N d a=some r):
 BP Tryz.prog 122 #[b,.int .i64 a] S h (λv S' h'=>v= .bool r∧St S' (L) h'):=by
 refine Ac (l:=[b,.int .i64 a]) 21 Tryz.func122 O Tryz.ntmps122 O λB=>?_
 rw[Gw] at E
 refine WF.seq (WF.rp (.inl O) (QF.as_ O O (AA (kp [0,1] O) (WF.seq (WF.rc (.inl O) hs (QF.mv O O (QF.geq O O O (QF.mv O O (QF.cutv 3 10 (.bool ((decide (0≤a))&&(decide (a≤16)))) ?_ ?_)))))))))
 ·
  cases q:(decide (0≤a))
  ·exact AL O O
  ·exact QF.gy O O O (QF.mv O O (QF.gy O O O (QF.leq O O O (QF.pick O O O (AH O)))))
 refine QF.mv O O (QF.cutv 5 16 (.bool (((decide (0≤a))&&(decide (a≤16)))&&(decide ((↑d.length:Int)=a)))) ?_ ?_)
 ·
  cases s:((decide (0≤a))&&(decide (a≤16)))
  ·exact AL O O
  ·exact QF.gy O O O (QF.mv O O (QF.gy O O O (QF.len O g Ea O λt=>QF.gy O O O (QF.mv O O (QF.gy O O O (QF.eql O O O (QF.pick O O O (AH O))))))))
 refine QF.mv O O ?_
 obtain⟨p,c,E⟩:=bd E
 refine QF.cutv 3 20 (.bool p) ?_ ?_
 ·
  cases n:(((decide (0≤a))&&(decide (a≤16)))&&(decide ((↑d.length:Int)=a)))
  ·
   have c:=Aw n c
   cases c
   exact AL O O
  ·
   have c:=Av n c
   refine QF.gy O O O (QF.mv O O (QF.gy O O O ?_))
   obtain⟨u,j,c⟩:=bd c
   refine AZ O O O WK O (λh' o=>NY (St.all h') (g.mono' (o.all hs.1)) j) (QF.pick O O O ?_)
   cases c
   exact AH O
 refine QF.as_ O O (Ai (kp [4] O) λw k m=>WF.ret (λaa ww hf hw=>?_))
 cases E
 exact CS hf hw O O m ⟨O,k⟩
theorem NQ (hs:St S L h) {b:Int}(d:AB b) {a:Int}(c:AB a) {r:Bool}(E:Ib N b a=some r):
 BP Tryz.prog 123 #[.int .i64 b,.int .i64 a] S h (λv S' h'=>v= .bool r∧St S' (L) h'):=by
 refine Ac (l:=[.int .i64 b,.int .i64 a]) 12 Tryz.func123 O Tryz.ntmps123 O λB=>?_
 rw[Ib] at E
 refine WF.seq (WF.rp (.inl O) (QF.as_ O O (AA (kp [0,1] O) (WF.seq (WF.rp (.inl O) (QF.mv O O (QF.geq O O O (QF.mv O O (QF.cutv 4 11 (.bool ((decide (0≤b))&&(decide (b<a)))) ?_ ?_)))))))))
 ·
  cases g:(decide (0≤b))
  ·exact AL O O
  ·exact QF.gy O O O (QF.mv O O (QF.gy O O O (QF.mv O O (QF.gy O O O (QF.lss O O O (QF.pick O O O (AH O)))))))
 refine QF.as_ O O (AA (kp [4] O) (WF.ret (λaa ww hf hw=>?_)))
 cases E
 exact CS hf hw O O (BO.refl S h) ⟨O,hs⟩
theorem M6 (hs:St S L h) {k:Value}{j:AJ}(X:Rd S h A3 k j) {m:Value}{g:AV}(Y:Rd S h CA m g) {r:Int×Bool}(E:HB N j g=some r):
 BP Tryz.prog 64 #[k,m] S h (λv S' h'=>v= .tuple #[.int .i64 r.1,.bool r.2]∧AB r.1∧St S' (L) h'):=by
 refine Ac (l:=[k,m]) 76 Tryz.func64 O Tryz.ntmps64 O λB=>?_
 rw[HB] at E
 refine WF.seq (WF.rl (LF.boxp O X (λe=>by cases e) O hs λq1 S2 h3 b5 e5 k6=>?_))
 have k7:=Y.mono e5
 refine LF.boxp O k7 (λe=>by cases e) O b5 λq8 S9 ak ac s a8=>LF.q 2 (QF.as_ O O (QF.as_ O O (AE (LF.nil (kp [3,2] O) (WF.seq (WF.rp (.inl O) (QF.as_ O O (AA (kp [6,3,2] O) (WF.seq (WF.seq (WF.rp (.inl O) (QF.fa O a8 GE JB O λc7 b6=>?_))))))))))))
 refine QF.ldl Aa ac.1 O b6 Mt O λb7 a9=>QF.len O a9 LY O λc8=>QF.mv O O (AA (kp [15,14,13,6,3,2] O) (WF.blockJ (λa w=>∃(G:Int),IV B S9 ak (76,[]) a w [(3,q8),(2,q1),(6,.int .i64 G)] (L) λ_ _=>AB G∧CV N j g G=some r) ?_ ?_))
 ·
  refine WF.loopF (λn1=>λa w=>∃(C:Int) (H:Int),IV B S9 ak (76,[]) a w [(14,.int .i64 (↑g.Own.length:Int)),(13,b7),(3,q8),(2,q1),(6,.int .i64 C),(15,.int .i64 H)] (L) λ_ _=>AB C∧AB H∧CU N j g (CV N j g) n1 C H=some r) N ?_ ?_ ?_
  ·
   intro aa ww hf hw
   exact⟨0,0,_,_,hf.sub (kp [14,13,3,2,6,15] O),hw,ac,(BO.refl S9 ak),(iq (n:=0) O),(iq (n:=0) O),E⟩
  ·
   rintro aa ww ⟨_,_,_,_,_,_,_,_,_,_,E⟩
   rw[CU] at E;cases E
  ·
   rintro n1 aa ww ⟨C,H,c9,da,hf,hw,t,D,b8,db,E⟩
   refine WF.run ?_ hf hw
   clear hf hw ww aa
   rw[CU] at E
   refine WF.seq (WF.rp (.inl O) (QF.lss O O O (AA (kp [16,14,13,3,2,6,15] O) (WF.seq (WF.if_ O (λam=>?_) (λam=>?_))))))
   ·
    have E:=Av am E
    refine WF.skip (WF.seq (WF.block (WF.seq (WF.rp (.inl O) ?_))))
    have b9:=a9.mono' D
    obtain⟨dc,ba,E⟩:=bd E
    refine QF.ixe O O b9 LY ba O λdd ca=>QF.ldl Aa t.1 O ca GV O λde bb=>QF.as_ O O (AA (kp [8,14,13,3,2,6,15] O) (WF.seq (WF.seq (WF.rc (.inl O) t (QF.mv O O ?_)))))
    have cb:=k6.mono (s.trans D)
    refine QF.fa O cb Ct Hf O λdf cc=>QF.ldl Ak t.1 O cc Ke O λdg cd=>QF.len O cd J5 O λce=>?_
    obtain⟨dh,bc,E⟩:=bd E
    refine AZ O O O Tv O (λh' o=>Kn (St.all h') (bb.mono' (o.all t.1)) (IJ ce) bc) (QF.not O O (Ai (kp [24,8,14,13,3,2,6,15] O) λdi I Z=>WF.if_ O (λan=>?_) (λan=>?_)))
    ·
     have E:=Av an E
     refine WF.seq (WF.rp (.inl O) (QF.as_ O O (QF.as_ O O (AA (kp [5,4] O) (WF.ret (λaa ww hf hw=>?_))))))
     cases E
     have be:=e5.trans (s.trans (D.trans Z))
     exact Hb hf O hw (GF (IG hf (v:=_) O) (GF (IG hf (v:=_) O) HW)) O be ⟨O,(iq (n:=0) O),I⟩
    ·
     have E:=Aw an E
     refine WF.skip (WF.seq (WF.rc (.inl O) I (QF.mv O O (QF.mv O O ?_))))
     have cf:=bb.mono' Z
     obtain⟨cg,bf,E⟩:=bd E
     refine Af O O O MQ O (λh' o=>Dn (St.all h') (cf.mono' (o.all I.1)) bf) λch=>?_
     have dj:=ch
     refine QF.addw O O O (QF.as_ O O (Ai (kp [6,14,13,3,2,15] O) λdk ad bg=>WF.seq (WF.rp (.inl O) (QF.mv O O (QF.gtr O O O (AA (kp [30,6,14,13,3,2,15] O) (WF.if_ O (λao=>?_) (λao=>?_))))))))
     ·
      have E:=Av ao E
      refine WF.seq (WF.rp (.inl O) (QF.as_ O O (QF.as_ O O (AA (kp [5,4] O) (WF.ret (λaa ww hf hw=>?_))))))
      cases E
      have bh:=e5.trans (s.trans (D.trans (Z.trans bg)))
      exact Hb hf O hw (GF (IG hf (v:=_) O) (GF (IG hf (v:=_) O) HW)) O bh ⟨O,(iq (n:=0) O),ad⟩
     ·
      have E:=Aw ao E
      refine WF.skip (Al (WF.rp (.inl O) (QF.addw O O O (QF.mv O O (AA (kp [15,6,14,13,3,2] O) (WF.nil (λaa ww hf hw=>?_)))))))
      have bi:=D.trans (Z.trans bg)
      exact⟨(Ar (C+cg)),(Ar (H+1)),_,_,hf.sub (kp [14,13,3,2,6,15] O),hw,ad,bi,(Au _),(Au _),E⟩
   ·
    have E:=Aw am E
    refine WF.exit O (λaa ww hf hw=>?_)
    exact⟨C,_,_,hf.sub (kp [3,2,6] O),hw,t,D,b8,E⟩
 ·
  rintro aa ww ⟨G,ap,aq,hf,hw,ae,F,ci,E⟩
  refine WF.run ?_ hf hw
  clear hf hw ww aa
  rw[CV] at E
  refine WF.seq (WF.seq (WF.rp (.inl O) ?_))
  have bj:=a8.mono F
  refine QF.fa O bj AV.f_Queue GA O λdl cj=>QF.ldl Aa ae.1 O cj Ik O λck bk=>QF.len O bk Hp O λdm=>QF.mv O O (AA (kp [35,34,33,3,2,6] O) (WF.blockJ (λa w=>∃(ab:Int),IV B ap aq (76,[]) a w [(6,.int .i64 ab)] (L) λ_ _=>AB ab∧E3 N ab=some r) ?_ ?_))
  ·
   refine WF.loopF (λn3=>λa w=>∃(x:Int) (J:Int),IV B ap aq (76,[]) a w [(34,.int .i64 (↑g.Queue.length:Int)),(33,ck),(3,q8),(2,q1),(6,.int .i64 x),(35,.int .i64 J)] (L) λ_ _=>AB x∧AB J∧DQ N j g (E3 N) n3 x J=some r) N ?_ ?_ ?_
   ·
    intro aa ww hf hw
    exact⟨G,0,_,_,hf.sub (kp [34,33,3,2,6,35] O),hw,ae,(BO.refl ap aq),ci,(iq (n:=0) O),E⟩
   ·
    rintro aa ww ⟨_,_,_,_,_,_,_,_,_,_,E⟩
    rw[DQ] at E;cases E
   ·
    rintro n3 aa ww ⟨x,J,dn,dp,hf,hw,K,u,cl,dq,E⟩
    refine WF.run ?_ hf hw
    clear hf hw ww aa
    rw[DQ] at E
    refine WF.seq (WF.rp (.inl O) (QF.lss O O O (AA (kp [36,34,33,3,2,6,35] O) (WF.seq (WF.if_ O (λar=>?_) (λar=>?_))))))
    ·
     have E:=Av ar E
     refine WF.skip (WF.seq (WF.block (WF.seq (WF.rl (LF.q 2 ?_)))))
     have cm:=bk.mono' u
     obtain⟨M,bl,E⟩:=bd E
     refine QF.ixe O O cm Hp bl O λdr cn=>QF.ld Aa K.1 O cn Kc (λe=>by cases e) O λds co=>AE (LF.al Qi O K λdt du bm y=>?_)
     have cp:=co.mono y
     obtain⟨af,rfl,cr,bn,Q⟩:=GD.ex cp
     refine LF.st (vs:=[.int .i64 M.At,.int .i64 M.To,af]) (cs':=[.int .i64 M.At,.int .i64 M.To,af]) O O O (AC O (AC O (AC Q.one C6))) Kc O bm .head O O λcs b i=>LF.nil (kp [10,34,33,3,2,6,35] O) (WF.seq (WF.seq (WF.rc (.inl O) b (QF.fao O LG O (AI Ak b O mh O AN O ?_)))))
     have au:=u.trans (y.trans i)
     have bo:=bj.mono au
     refine QF.fa O bo AV.f_Hour Jm O λct bp=>QF.ldi Ak b.1 O bp AN O λcu=>QF.lss O O O (QF.mv O O ?_)
     obtain⟨ag,c,E⟩:=bd E
     refine QF.cutv 8 52 (.bool ag) ?_ ?_
     ·
      cases ah:(decide (M.At<g.Hour))
      ·
       have c:=Aw ah c
       refine QF.gy O O O (QF.fao O LE O (QF.gy O O O (AI Ak b O mh O AN O (QF.gy O O O ?_))))
       have av:=s.trans (F.trans (u.trans (y.trans i)))
       have bq:=k6.mono av
       refine QF.fa O bq Ah Bs O λcv br=>QF.gy O O O (QF.ldl Ak b.1 O br EY O λcw bt=>QF.gy O O O (QF.len O bt Dk O λbu=>QF.gy O O O ?_))
       obtain⟨cx,aw,c⟩:=bd c
       refine AZ O O O WR O (λh' o=>NQ (St.all h') bn (IJ bu) aw) (QF.gy O O O (QF.not O O (QF.pick O O O ?_)))
       cases c
       exact AH O
      ·
       have c:=Av ah c
       cases c
       exact AL O O
     refine QF.mv O O ?_
     obtain⟨bv,d,E⟩:=bd E
     refine QF.cutv 8 61 (.bool bv) ?_ ?_
     ·
      cases ai:ag
      ·
       have d:=Aw ai d
       refine QF.gy O O O (QF.fao O MF O (QF.gy O O O (AI Ak b O mh O GV O (QF.gy O O O ?_))))
       have ax:=s.trans (F.trans (u.trans (y.trans i)))
       have bw:=k6.mono ax
       refine QF.fa O bw Ct Hf O λcy bx=>QF.gy O O O (QF.ldl Ak b.1 O bx Ke O λcz bz=>QF.gy O O O (QF.len O bz J5 O λb0=>QF.gy O O O ?_))
       have b1:=Q.mono' i
       obtain⟨c0,ay,d⟩:=bd d
       refine AZ O O O Tv O (λh' o=>Kn (St.all h') (b1.mono' (o.all b.1)) (IJ b0) ay) (QF.gy O O O (QF.not O O (QF.pick O O O ?_)))
       cases d
       exact AH O
      ·
       have d:=Av ai d
       cases d
       exact AL O O
     refine Ai (kp [61,10,34,33,3,2,6,35] O) λc1 p z=>WF.if_ O (λU=>?_) (λU=>?_)
     ·
      have E:=Av U E
      refine WF.seq (WF.rp (.inl O) (QF.as_ O O (QF.as_ O O (AA (kp [5,4] O) (WF.ret (λaa ww hf hw=>?_))))))
      have az:=p.drop .head
      cases E
      have a0:=e5.trans (s.trans (F.trans (u.trans (y.trans (i.trans z)))))
      exact Hb hf O hw (GF (IG hf (v:=_) O) (GF (IG hf (v:=_) O) HW)) O a0 ⟨O,(iq (n:=0) O),az⟩
     ·
      have E:=Aw U E
      refine WF.skip (WF.seq (WF.rc (.inl O) p (QF.fao O MF O (AI Ak p O mh O GV O ?_))))
      have b2:=Q.mono' (i.trans z)
      obtain⟨A,a1,E⟩:=bd E
      refine Af O O O MQ O (λh' o=>Dn (St.all h') (b2.mono' (o.all p.1)) a1) λb3=>?_
      have c2:=b3
      refine QF.as_ O O (Ai (kp [11,34,33,3,2,6,35] O) λc3 V aj=>WF.seq (WF.rp (.inl O) (QF.mv O O (QF.mv O O (QF.addw O O O (QF.as_ O O (AA (kp [6,11,34,33,3,2,35] O) (WF.seq (WF.rp (.inl O) (QF.mv O O (QF.leq O O O (QF.mv O O ?_))))))))))))
      refine QF.cutv 3 73 (.bool ((decide (A≤0))||(decide (1125899906842624<(Ar (x+A)))))) ?_ ?_
      ·
       cases c4:(decide (A≤0))
       ·exact QF.gy O O O (QF.mv O O (QF.gy O O O (QF.gtr O O O (QF.pick O O O (AH O)))))
       ·exact AL O O
      refine AA (kp [73,6,34,33,3,2,35] O) (WF.if_ O (λW=>?_) (λW=>?_))
      ·
       have E:=Av W E
       refine WF.seq (WF.rp (.inl O) (QF.as_ O O (QF.as_ O O (AA (kp [5,4] O) (WF.ret (λaa ww hf hw=>?_))))))
       have a2:=V.drop .head
       cases E
       have a3:=e5.trans (s.trans (F.trans (u.trans (y.trans (i.trans (z.trans aj))))))
       exact Hb hf O hw (GF (IG hf (v:=_) O) (GF (IG hf (v:=_) O) HW)) O a3 ⟨O,(iq (n:=0) O),a2⟩
      ·
       have E:=Aw W E
       refine WF.skip (Al (WF.rp (.inl O) (QF.addw O O O (QF.mv O O (AA (kp [35,6,34,33,3,2] O) (WF.nil (λaa ww hf hw=>?_)))))))
       have a4:=V.drop .head
       have a5:=u.trans (y.trans (i.trans (z.trans aj)))
       exact⟨(Ar (x+A)),(Ar (J+1)),_,_,hf.sub (kp [34,33,3,2,6,35] O),hw,a4,a5,(Au _),(Au _),E⟩
    ·
     have E:=Aw ar E
     refine WF.exit O (λaa ww hf hw=>?_)
     exact⟨x,_,_,hf.sub (kp [6] O),hw,K,u,cl,E⟩
  ·
   rintro aa ww ⟨ab,c5,c6,hf,hw,a6,b4,cq,E⟩
   refine WF.run ?_ hf hw
   clear hf hw ww aa
   rw[E3] at E
   refine WF.seq (WF.rp (.inl O) (QF.mv O O (QF.as_ O O (QF.as_ O O (AA (kp [5,4] O) (WF.ret (λaa ww hf hw=>?_)))))))
   cases E
   have a7:=e5.trans (s.trans (F.trans b4))
   exact Hb hf O hw (GF (IG hf (v:=_) O) (GF (IG hf (v:=_) O) HW)) O a7 ⟨O,cq,a6⟩
theorem JU (hs:St S L h) {c:Value}{d:(List Int)}(g:Sl S h AW.int c d) {b:Int}(o:AB b) {r:Int×Bool}(E:Fx N d b=some r):
 BP Tryz.prog 65 #[c,.int .i64 b] S h (λv S' h'=>v= .tuple #[.int .i64 r.1,.bool r.2]∧AB r.1∧St S' (L) h'):=by
 refine Ac (l:=[c,.int .i64 b]) 29 Tryz.func65 O Tryz.ntmps65 O λB=>?_
 rw[Fx] at E
 refine WF.seq (WF.rp (.inl O) (QF.as_ O O (QF.as_ O O (AA (kp [0,1] O) (WF.seq (WF.rp (.inl O) (QF.as_ O O (AA (kp [6,0,1] O) (WF.seq (WF.seq (WF.rp (.inl O) (QF.mv O O (QF.len O g Ea O λV=>?_)))))))))))))
 refine QF.mv O O (AA (kp [11,10,9,6,1] O) (WF.blockJ (λa w=>∃(x:Int),IV B S h (29,[]) a w [(6,.int .i64 x)] (L) λ_ _=>AB x∧Eb N x=some r) ?_ ?_))
 ·
  refine WF.loopF (λC=>λa w=>∃(p:Int) (j:Int),IV B S h (29,[]) a w [(10,.int .i64 (↑d.length:Int)),(9,c),(1,.int .i64 b),(6,.int .i64 p),(11,.int .i64 j)] (L) λ_ _=>AB p∧AB j∧C7 N d b (Eb N) C p j=some r) N ?_ ?_ ?_
  ·
   intro aa ww hf hw
   exact⟨0,0,_,_,hf.sub (kp [10,9,1,6,11] O),hw,hs,(BO.refl S h),(iq (n:=0) O),(iq (n:=0) O),E⟩
  ·
   rintro aa ww ⟨_,_,_,_,_,_,_,_,_,_,E⟩
   rw[C7] at E;cases E
  ·
   rintro C aa ww ⟨p,j,D,F,hf,hw,i,k,G,H,E⟩
   refine WF.run ?_ hf hw
   clear hf hw ww aa
   rw[C7] at E
   refine WF.seq (WF.rp (.inl O) (QF.lss O O O (AA (kp [12,10,9,1,6,11] O) (WF.seq (WF.if_ O (λq=>?_) (λq=>?_))))))
   ·
    have E:=Av q E
    refine WF.skip (WF.seq (WF.block (WF.seq (WF.rp (.inl O) ?_))))
    have y:=g.mono' k
    obtain⟨m,t,E⟩:=bd E
    refine QF.ixe O O y Ea t O λI z=>QF.ldi Aa i.1 O z AN O λJ=>QF.as_ O O (AA (kp [8,10,9,1,6,11] O) (WF.seq (WF.seq (WF.rp (.inl O) (QF.mv O O (QF.lss O O O (QF.mv O O (QF.cutv 6 23 (.bool ((decide (m<0))||(decide ((Ar (b-p))<m)))) ?_ ?_))))))))
    ·
     cases K:(decide (m<0))
     ·exact QF.gy O O O (QF.mv O O (QF.gy O O O (QF.mv O O (QF.gy O O O (QF.mv O O (QF.gy O O O (QF.subw O O O (QF.gy O O O (QF.gtr O O O (QF.pick O O O (AH O)))))))))))
     ·exact AL O O
    refine AA (kp [23,8,10,9,1,6,11] O) (WF.if_ O (λs=>?_) (λs=>?_))
    ·
     have E:=Av s E
     refine WF.seq (WF.rp (.inl O) (QF.as_ O O (QF.as_ O O (AA (kp [5,4] O) (WF.ret (λaa ww hf hw=>?_))))))
     cases E
     exact Hb hf O hw (GF (IG hf (v:=_) O) (GF (IG hf (v:=_) O) HW)) O k ⟨O,(iq (n:=0) O),i⟩
    ·
     have E:=Aw s E
     refine WF.skip (WF.rp (.inl O) (QF.mv O O (QF.mv O O (QF.addw O O O (QF.as_ O O (AA (kp [6,10,9,1,11] O) (Al (WF.rp (.inl O) (QF.addw O O O (QF.mv O O (AA (kp [11,6,10,9,1] O) (WF.nil (λaa ww hf hw=>?_)))))))))))))
     exact⟨(Ar (p+m)),(Ar (j+1)),_,_,hf.sub (kp [10,9,1,6,11] O),hw,i,k,(Au _),(Au _),E⟩
   ·
    have E:=Aw q E
    refine WF.exit O (λaa ww hf hw=>?_)
    exact⟨p,_,_,hf.sub (kp [6] O),hw,i,k,G,E⟩
 ·
  rintro aa ww ⟨x,M,Q,hf,hw,u,A,U,E⟩
  refine WF.run ?_ hf hw
  clear hf hw ww aa
  rw[Eb] at E
  refine WF.seq (WF.rp (.inl O) (QF.mv O O (QF.as_ O O (QF.as_ O O (AA (kp [5,4] O) (WF.ret (λaa ww hf hw=>?_)))))))
  cases E
  exact Hb hf O hw (GF (IG hf (v:=_) O) (GF (IG hf (v:=_) O) HW)) O A ⟨O,U,u⟩
theorem Kh (hs:St S L h) {z:Value}{d:AJ}(am:Rd S h A3 z d) {A:Value}{b:AV}(an:Rd S h CA A b) {r:Bool}(E:Gt N d b=some r):
 BP Tryz.prog 22 #[z,A] S h (λv S' h'=>v= .bool r∧St S' (L) h'):=by
 refine Ac (l:=[z,A]) 168 Tryz.func22 O Tryz.ntmps22 O λB=>?_
 rw[Gt] at E
 refine WF.seq (WF.rl (LF.boxp O am (λe=>by cases e) O hs λq1 S2 h3 c6 e5 k6=>?_))
 have k7:=an.mono e5
 refine LF.boxp O k7 (λe=>by cases e) O c6 λq8 S9 a2 j s x=>LF.q 1 (QF.as_ O O (AE (LF.nil (kp [3,2] O) (WF.seq (WF.seq (WF.rp (.inl O) (QF.fa O x AV.f_Hour Jm O λgb c7=>QF.ldi Aa j.1 O c7 AN O λgc=>QF.lss O O O (QF.mv O O (QF.cutv 4 20 (.bool ((decide (b.Hour<0))||(decide (16777216<b.Hour)))) ?_ ?_)))))))))
 ·
  cases ge:(decide (b.Hour<0))
  ·exact QF.gy O O O (QF.fa O x AV.f_Hour Jm O λgf c8=>QF.gy O O O (QF.ldi Aa j.1 O c8 AN O λgg=>QF.gy O O O (QF.gtr O O O (QF.pick O O O (AH O)))))
  ·exact AL O O
 refine QF.mv O O (QF.cutv 8 29 (.bool (((decide (b.Hour<0))||(decide (16777216<b.Hour)))||(decide ((↑b.Own.length:Int)≠(↑d.Places.length:Int))))) ?_ ?_)
 ·
  cases gh:((decide (b.Hour<0))||(decide (16777216<b.Hour)))
  ·
   refine QF.gy O O O (QF.fa O x GE JB O λgi c9=>QF.gy O O O (QF.ldl Aa j.1 O c9 Mt O λgj da=>QF.gy O O O (QF.len O da LY O λgk=>QF.gy O O O ?_)))
   have db:=k6.mono s
   exact QF.fa O db Ah Bs O λgl dc=>QF.gy O O O (QF.ldl Aa j.1 O dc EY O λgm dd=>QF.gy O O O (QF.len O dd Dk O λgp=>QF.gy O O O (QF.neq O O O (QF.pick O O O (AH O)))))
  ·exact AL O O
 refine QF.mv O O (QF.cutv 8 38 (.bool ((((decide (b.Hour<0))||(decide (16777216<b.Hour)))||(decide ((↑b.Own.length:Int)≠(↑d.Places.length:Int))))||(decide ((↑b.Rem.length:Int)≠(↑d.Places.length:Int))))) ?_ ?_)
 ·
  cases gq:(((decide (b.Hour<0))||(decide (16777216<b.Hour)))||(decide ((↑b.Own.length:Int)≠(↑d.Places.length:Int))))
  ·
   refine QF.gy O O O (QF.fa O x J1 Ou O λgr de=>QF.gy O O O (QF.ldl Aa j.1 O de GV O λgs df=>QF.gy O O O (QF.len O df Ea O λgu=>QF.gy O O O ?_)))
   have dg:=k6.mono s
   exact QF.fa O dg Ah Bs O λgv dh=>QF.gy O O O (QF.ldl Aa j.1 O dh EY O λgw di=>QF.gy O O O (QF.len O di Dk O λgx=>QF.gy O O O (QF.neq O O O (QF.pick O O O (AH O)))))
  ·exact AL O O
 refine QF.mv O O (QF.cutv 8 47 (.bool (((((decide (b.Hour<0))||(decide (16777216<b.Hour)))||(decide ((↑b.Own.length:Int)≠(↑d.Places.length:Int))))||(decide ((↑b.Rem.length:Int)≠(↑d.Places.length:Int))))||(decide ((↑b.Gates.length:Int)≠(↑d.Links.length:Int))))) ?_ ?_)
 ·
  cases gz:((((decide (b.Hour<0))||(decide (16777216<b.Hour)))||(decide ((↑b.Own.length:Int)≠(↑d.Places.length:Int))))||(decide ((↑b.Rem.length:Int)≠(↑d.Places.length:Int))))
  ·
   refine QF.gy O O O (QF.fa O x Du IY O λg0 dj=>QF.gy O O O (QF.ldl Aa j.1 O dj Ly O λg1 dk=>QF.gy O O O (QF.len O dk LX O λg2=>QF.gy O O O ?_)))
   have dl:=k6.mono s
   exact QF.fa O dl AJ.f_Links EE O λg3 dm=>QF.gy O O O (QF.ldl Aa j.1 O dm G7 O λg4 dn=>QF.gy O O O (QF.len O dn FT O λg5=>QF.gy O O O (QF.neq O O O (QF.pick O O O (AH O)))))
  ·exact AL O O
 refine QF.mv O O (QF.cutv 8 56 (.bool ((((((decide (b.Hour<0))||(decide (16777216<b.Hour)))||(decide ((↑b.Own.length:Int)≠(↑d.Places.length:Int))))||(decide ((↑b.Rem.length:Int)≠(↑d.Places.length:Int))))||(decide ((↑b.Gates.length:Int)≠(↑d.Links.length:Int))))||(decide ((↑b.In.length:Int)≠(↑d.Owners.length:Int))))) ?_ ?_)
 ·
  cases g6:(((((decide (b.Hour<0))||(decide (16777216<b.Hour)))||(decide ((↑b.Own.length:Int)≠(↑d.Places.length:Int))))||(decide ((↑b.Rem.length:Int)≠(↑d.Places.length:Int))))||(decide ((↑b.Gates.length:Int)≠(↑d.Links.length:Int))))
  ·
   refine QF.gy O O O (QF.fa O x M4 Q6 O λg7 dp=>QF.gy O O O (QF.ldl Aa j.1 O dp GV O λg8 dq=>QF.gy O O O (QF.len O dq Ea O λg9=>QF.gy O O O ?_)))
   have dr:=k6.mono s
   exact QF.fa O dr Ct Hf O λha ds=>QF.gy O O O (QF.ldl Aa j.1 O ds Ke O λhb dt=>QF.gy O O O (QF.len O dt J5 O λhc=>QF.gy O O O (QF.neq O O O (QF.pick O O O (AH O)))))
  ·exact AL O O
 refine QF.mv O O (QF.cutv 8 65 (.bool (((((((decide (b.Hour<0))||(decide (16777216<b.Hour)))||(decide ((↑b.Own.length:Int)≠(↑d.Places.length:Int))))||(decide ((↑b.Rem.length:Int)≠(↑d.Places.length:Int))))||(decide ((↑b.Gates.length:Int)≠(↑d.Links.length:Int))))||(decide ((↑b.In.length:Int)≠(↑d.Owners.length:Int))))||(decide ((↑b.Out.length:Int)≠(↑d.Owners.length:Int))))) ?_ ?_)
 ·
  cases hd:((((((decide (b.Hour<0))||(decide (16777216<b.Hour)))||(decide ((↑b.Own.length:Int)≠(↑d.Places.length:Int))))||(decide ((↑b.Rem.length:Int)≠(↑d.Places.length:Int))))||(decide ((↑b.Gates.length:Int)≠(↑d.Links.length:Int))))||(decide ((↑b.In.length:Int)≠(↑d.Owners.length:Int))))
  ·
   refine QF.gy O O O (QF.fa O x MW Q5 O λhe du=>QF.gy O O O (QF.ldl Aa j.1 O du GV O λhg dv=>QF.gy O O O (QF.len O dv Ea O λhh=>QF.gy O O O ?_)))
   have dw:=k6.mono s
   exact QF.fa O dw Ct Hf O λhi dx=>QF.gy O O O (QF.ldl Aa j.1 O dx Ke O λhj dy=>QF.gy O O O (QF.len O dy J5 O λhk=>QF.gy O O O (QF.neq O O O (QF.pick O O O (AH O)))))
  ·exact AL O O
 refine AA (kp [65,3,2] O) (WF.if_ O (λa3=>?_) (λa3=>?_))
 ·
  have E:=Av a3 E
  refine WF.seq (WF.rp (.inl O) (QF.as_ O O (AA (kp [4] O) (WF.ret (λaa ww hf hw=>?_)))))
  cases E
  exact CS hf hw O O (e5.trans s) ⟨O,j⟩
 ·
  have E:=Aw a3 E
  refine WF.skip (WF.seq (WF.seq (WF.rp (.inl O) ?_)))
  have bx:=k6.mono s
  refine QF.fa O bx Ah Bs O λhl dz=>QF.ldl Aa j.1 O dz EY O λd0 bz=>QF.len O bz Dk O λhm=>QF.mv O O (AA (kp [69,68,67,3,2] O) (WF.blockJ (λa w=>IV B S9 a2 (168,[]) a w [(3,q8),(2,q1)] (L) λ_ _=>DJ N d b=some r) ?_ ?_))
  ·
   refine WF.loopF (λn1=>λa w=>∃(V:Int),IV B S9 a2 (168,[]) a w [(68,.int .i64 (↑d.Places.length:Int)),(67,d0),(3,q8),(2,q1),(69,.int .i64 V)] (L) λ_ _=>AB V∧DH N d b (DJ N d b) n1 V=some r) N ?_ ?_ ?_
   ·
    intro aa ww hf hw
    exact⟨0,_,_,hf.sub (kp [68,67,3,2,69] O),hw,j,(BO.refl S9 a2),(iq (n:=0) O),E⟩
   ·
    rintro aa ww ⟨_,_,_,_,_,_,_,_,E⟩
    rw[DH] at E;cases E
   ·
    rintro n1 aa ww ⟨V,hn,ho,hf,hw,W,X,hp,E⟩
    refine WF.run ?_ hf hw
    clear hf hw ww aa
    rw[DH] at E
    refine WF.seq (WF.rp (.inl O) (QF.lss O O O (AA (kp [70,68,67,3,2,69] O) (WF.seq (WF.if_ O (λa4=>?_) (λa4=>?_))))))
    ·
     have E:=Av a4 E
     refine WF.skip (WF.seq (WF.block (WF.seq (WF.rl (LF.q 3 (QF.mv O O ?_))))))
     have d1:=bz.mono' X
     obtain⟨k,b0,E⟩:=bd E
     refine QF.ixe O O d1 Dk b0 O λhq b1=>QF.ld Aa W.1 O b1 HV (λe=>by cases e) O λd2 b2=>AE (LF.al Lw O W λd3 d4 a5 K=>LF.q 1 (QF.as_ O O (AE ?_)))
     have b3:=b2.mono K
     obtain⟨ao,ap,aq,rfl,d5,d6,d7,d8,b4,b5,d9,ea,eb,ec,ed,b6⟩:=A7.ex b3
     refine LF.st (vs:=[.string k.Name,.int .i64 k.Kind,.int .i64 k.Office,.int .i64 k.Cap,ao,ap,.int .i64 k.Num,.int .i64 k.Den,.int .i64 k.Down,.int .i64 k.Delay,.int .i64 k.Floor,aq]) (cs':=[.string k.Name,.int .i64 k.Kind,.int .i64 k.Office,.int .i64 k.Cap,ao,ap,.int .i64 k.Num,.int .i64 k.Den,.int .i64 k.Down,.int .i64 k.Delay,.int .i64 k.Floor,aq]) O O O (AC O (AC O (AC O (AC O (AC b4.one (AC b5.one (AC O (AC O (AC O (AC O (AC O (AC b6.one C6)))))))))))) HV O a5 .head O O λee p Y=>LF.nil (kp [5,6,68,67,3,2,69] O) (WF.seq (WF.rp (.inr ⟨mo,by kernel_rfl⟩) ?_))
     have a6:=X.trans (K.trans Y)
     have ar:=x.mono a6
     refine QF.fa O ar J1 Ou O λef b7=>QF.ldl Aa p.1 O b7 GV O λeg b8=>QF.mv O O ?_
     obtain⟨b9,a7,E⟩:=bd E
     refine QF.ixe O O b8 Ea a7 O λeh ca=>QF.ldi Aa p.1 O ca AN O λei=>QF.lss O O O (QF.mv O O ?_)
     obtain⟨cb,m,E⟩:=bd E
     refine QF.cutv 11 91 (.bool cb) ?_ ?_
     ·
      cases au:(decide (b9<0))
      ·
       have m:=Aw au m
       refine QF.gy O O O (QF.fa O ar J1 Ou O λej cc=>QF.gy O O O (QF.ldl Aa p.1 O cc GV O λek cd=>QF.gy O O O (QF.mv O O (QF.gy O O O ?_))))
       obtain⟨el,a8,m⟩:=bd m
       refine QF.ixe O O cd Ea a8 O λem ce=>QF.gy O O O (QF.ldi Aa p.1 O ce AN O λen=>QF.gy O O O (QF.fao O IZ O (QF.gy O O O (AI Aa p O mh O AN O (QF.gy O O O (QF.subw O O O (QF.gy O O O (QF.max O O O (QF.gy O O O (QF.gtr O O O (QF.pick O O O ?_)))))))))))
       cases m
       exact AH O
      ·
       have m:=Av au m
       cases m
       exact AL O O
     refine AA (kp [91,68,67,3,2,69] O) (WF.if_ O (λZ=>?_) (λZ=>?_))
     ·
      have E:=Av Z E
      refine WF.seq (WF.rp (.inl O) (QF.as_ O O (AA (kp [4] O) (WF.ret (λaa ww hf hw=>?_)))))
      have a9:=p.drop .head
      cases E
      have ba:=e5.trans (s.trans (X.trans (K.trans Y)))
      exact CS hf hw O O ba ⟨O,a9⟩
     ·
      have E:=Aw Z E
      refine WF.skip (Al (WF.rp (.inl O) (QF.addw O O O (QF.mv O O (AA (kp [69,68,67,3,2] O) (WF.nil (λaa ww hf hw=>?_)))))))
      have bb:=p.drop .head
      have bc:=X.trans (K.trans Y)
      exact⟨(Ar (V+1)),_,_,hf.sub (kp [68,67,3,2,69] O),hw,bb,bc,(Au _),E⟩
    ·
     have E:=Aw a4 E
     refine WF.exit O (λaa ww hf hw=>?_)
     exact⟨_,_,hf.sub (kp [3,2] O),hw,W,X,E⟩
  ·
   rintro aa ww ⟨ab,ac,hf,hw,ad,t,E⟩
   refine WF.run ?_ hf hw
   clear hf hw ww aa
   rw[DJ] at E
   refine WF.seq (WF.seq (WF.rp (.inl O) ?_))
   have av:=bx.mono t
   refine QF.fa O av AJ.f_Links EE O λeo cf=>QF.ldl Aa ad.1 O cf G7 O λcg aw=>QF.len O aw FT O λep=>QF.mv O O (AA (kp [96,95,94,3,2] O) (WF.blockJ (λa w=>IV B ab ac (168,[]) a w [(3,q8),(2,q1)] (L) λ_ _=>DI N d b=some r) ?_ ?_))
   ·
    refine WF.loopF (λn3=>λa w=>∃(F:Int),IV B ab ac (168,[]) a w [(95,.int .i64 (↑d.Links.length:Int)),(94,cg),(3,q8),(2,q1),(96,.int .i64 F)] (L) λ_ _=>AB F∧DG N d b (DI N d b) n3 F=some r) N ?_ ?_ ?_
    ·
     intro aa ww hf hw
     exact⟨0,_,_,hf.sub (kp [95,94,3,2,96] O),hw,ad,(BO.refl ab ac),(iq (n:=0) O),E⟩
    ·
     rintro aa ww ⟨_,_,_,_,_,_,_,_,E⟩
     rw[DG] at E;cases E
    ·
     rintro n3 aa ww ⟨F,eq,er,hf,hw,I,y,es,E⟩
     refine WF.run ?_ hf hw
     clear hf hw ww aa
     rw[DG] at E
     refine WF.seq (WF.rp (.inl O) (QF.lss O O O (AA (kp [97,95,94,3,2,96] O) (WF.seq (WF.if_ O (λae=>?_) (λae=>?_))))))
     ·
      have E:=Av ae E
      refine WF.skip (WF.seq (WF.block (WF.seq (WF.rl (LF.q 3 (QF.mv O O ?_))))))
      have ch:=aw.mono' y
      obtain⟨c,be,E⟩:=bd E
      refine QF.ixe O O ch FT be O λet ci=>QF.ld Aa I.1 O ci C3 (λe=>by cases e) O λeu cj=>AE (LF.al KX O I λev ew bf G=>LF.q 1 (QF.as_ O O (AE ?_)))
      have ck:=cj.mono G
      obtain⟨ax,ay,az,rfl,ey,ez,e0,e1,cl,cm,cn,e2,e3,e4,e6,e7,e8,e9,fb,fc,fd,fe⟩:=A0.ex ck
      refine LF.st (vs:=[.string c.Name,.int .i64 c.Kind,.int .i64 c.From,.int .i64 c.To,ax,ay,az,.int .i64 c.Positions,.int .i64 c.Speed,.int .i64 c.Leak,.int .i64 c.Crest,.int .i64 c.Num,.int .i64 c.Den,.int .i64 c.Prime,.int .i64 c.Break,.int .i64 c.BackNum,.int .i64 c.BackDen,.int .i64 c.Delay]) (cs':=[.string c.Name,.int .i64 c.Kind,.int .i64 c.From,.int .i64 c.To,ax,ay,az,.int .i64 c.Positions,.int .i64 c.Speed,.int .i64 c.Leak,.int .i64 c.Crest,.int .i64 c.Num,.int .i64 c.Den,.int .i64 c.Prime,.int .i64 c.Break,.int .i64 c.BackNum,.int .i64 c.BackDen,.int .i64 c.Delay]) O O O (AC O (AC O (AC O (AC O (AC cl.one (AC cm.one (AC cn.one (AC O (AC O (AC O (AC O (AC O (AC O (AC O (AC O (AC O (AC O (AC O C6)))))))))))))))))) C3 O bf .head O O λff J M=>LF.nil (kp [7,8,95,94,3,2,96] O) (WF.seq (WF.rl (LF.q 5 ?_)))
      have bg:=t.trans (y.trans (G.trans M))
      have co:=x.mono bg
      refine QF.fa O co Du IY O λfg cp=>QF.ldl Aa J.1 O cp Ly O λfh cq=>QF.mv O O ?_
      obtain⟨g,bh,E⟩:=bd E
      refine QF.ixe O O cq LX bh O λfi cr=>QF.ld Aa J.1 O cr G5 (λe=>by cases e) O λfj cs=>AE (LF.al OB O J λfk fl bi Q=>?_)
      have ct:=cs.mono Q
      obtain⟨rfl,⟨fm,fn⟩⟩:=DE.ex ct
      refine Aj (vs:=[.int .i64 g.Pos,.int .i64 g.Target,.bool g.Stuck,.bool g.Open]) O O O O G5 O bi .head O λfo i af=>LF.nil (kp [9,8,95,94,3,2,96] O) (WF.seq (WF.seq (WF.rp (.inl O) (QF.fao O IX O (AI Aa i O mh O AN O (QF.lss O O O (QF.mv O O (QF.cutv 6 115 (.bool ((decide (g.Pos<0))||(decide (c.Positions<g.Pos)))) ?_ ?_))))))))
      ·
       cases fp:(decide (g.Pos<0))
       ·exact QF.gy O O O (QF.fao O IX O (QF.gy O O O (AI Aa i O mh O AN O (QF.gy O O O (QF.fao O FW O (QF.gy O O O (AI Aa i O (mt mh) O AN O (QF.gy O O O (QF.gtr O O O (QF.pick O O O (AH O)))))))))))
       ·exact AL O O
      refine QF.mv O O (QF.cutv 4 120 (.bool (((decide (g.Pos<0))||(decide (c.Positions<g.Pos)))||(decide (g.Target<0)))) ?_ ?_)
      ·
       cases fq:((decide (g.Pos<0))||(decide (c.Positions<g.Pos)))
       ·exact QF.gy O O O (QF.fao O MG O (QF.gy O O O (AI Aa i O mh O AN O (QF.gy O O O (QF.lss O O O (QF.pick O O O (AH O)))))))
       ·exact AL O O
      refine QF.mv O O (QF.cutv 6 127 (.bool ((((decide (g.Pos<0))||(decide (c.Positions<g.Pos)))||(decide (g.Target<0)))||(decide (c.Positions<g.Target)))) ?_ ?_)
      ·
       cases fr:(((decide (g.Pos<0))||(decide (c.Positions<g.Pos)))||(decide (g.Target<0)))
       ·exact QF.gy O O O (QF.fao O MG O (QF.gy O O O (AI Aa i O mh O AN O (QF.gy O O O (QF.fao O FW O (QF.gy O O O (AI Aa i O (mt mh) O AN O (QF.gy O O O (QF.gtr O O O (QF.pick O O O (AH O)))))))))))
       ·exact AL O O
      refine AA (kp [127,9,8,95,94,3,2,96] O) (WF.if_ O (λag=>?_) (λag=>?_))
      ·
       have E:=Av ag E
       refine WF.seq (WF.rp (.inl O) (QF.as_ O O (AA (kp [4] O) (WF.ret (λaa ww hf hw=>?_)))))
       have bj:=i.sel [] 2 O
       cases E
       have bk:=e5.trans (s.trans (t.trans (y.trans (G.trans (M.trans (Q.trans af))))))
       exact CS hf hw O O bk ⟨O,bj⟩
      ·
       have E:=Aw ag E
       refine WF.skip (WF.seq (WF.rp (.inl O) (QF.fao O Jl O (AI Aa i O mh O Kd O (QF.mv O O (QF.cutv 4 134 (.bool (g.Open&&(decide (c.Kind≠5)))) ?_ ?_))))))
       ·
        cases fs:g.Open
        ·exact AL O O
        ·exact QF.gy O O O (QF.fao O Ck O (QF.gy O O O (AI Aa i O (mt mh) O AN O (QF.gy O O O (QF.neq O O O (QF.pick O O O (AH O)))))))
       refine QF.mv O O (QF.cutv 4 139 (.bool ((g.Open&&(decide (c.Kind≠5)))&&(decide (c.Kind≠3)))) ?_ ?_)
       ·
        cases ft:(g.Open&&(decide (c.Kind≠5)))
        ·exact AL O O
        ·exact QF.gy O O O (QF.fao O Ck O (QF.gy O O O (AI Aa i O (mt mh) O AN O (QF.gy O O O (QF.neq O O O (QF.pick O O O (AH O)))))))
       refine AA (kp [139,95,94,3,2,96] O) (WF.if_ O (λah=>?_) (λah=>?_))
       ·
        have E:=Av ah E
        refine WF.seq (WF.rp (.inl O) (QF.as_ O O (AA (kp [4] O) (WF.ret (λaa ww hf hw=>?_)))))
        have bl:=i.sel [] 2 O
        cases E
        have bm:=e5.trans (s.trans (t.trans (y.trans (G.trans (M.trans (Q.trans af))))))
        exact CS hf hw O O bm ⟨O,bl⟩
       ·
        have E:=Aw ah E
        refine WF.skip (Al (WF.rp (.inl O) (QF.addw O O O (QF.mv O O (AA (kp [96,95,94,3,2] O) (WF.nil (λaa ww hf hw=>?_)))))))
        have bn:=i.sel [] 2 O
        have bo:=y.trans (G.trans (M.trans (Q.trans af)))
        exact⟨(Ar (F+1)),_,_,hf.sub (kp [95,94,3,2,96] O),hw,bn,bo,(Au _),E⟩
     ·
      have E:=Aw ae E
      refine WF.exit O (λaa ww hf hw=>?_)
      exact⟨_,_,hf.sub (kp [3,2] O),hw,I,y,E⟩
   ·
    rintro aa ww ⟨fu,fv,hf,hw,u,H,E⟩
    refine WF.run ?_ hf hw
    clear hf hw ww aa
    rw[DI] at E
    refine WF.seq (WF.rc (.inl O) u ?_)
    have cu:=av.mono H
    refine QF.ld Ak u.1 O cu D1 (λe=>by cases e) O λfw cv=>?_
    have a0:=x.mono (t.trans H)
    refine QF.ld Ak u.1 O a0 G6 (λe=>by cases e) O λfx cw=>?_
    obtain⟨fy,bp,E⟩:=bd E
    refine Af O O O X2 O (λh' o=>M6 (St.all h') (cv.mono (o.all u.1)) (cw.mono (o.all u.1)) bp) λcx=>?_
    have fz:=cx
    refine QF.mv O O (QF.ext O O O (QF.ext O O O (QF.as_ O O (QF.as_ O O (Ai (kp [11,10,3] O) λf0 C U=>WF.seq (WF.seq (WF.rp (.inl O) (QF.mv O O (QF.not O O (AA (kp [148,10,3] O) (WF.if_ O (λai=>?_) (λai=>?_))))))))))))
    ·
     have E:=Av ai E
     refine WF.seq (WF.rp (.inl O) (QF.as_ O O (AA (kp [4] O) (WF.ret (λaa ww hf hw=>?_)))))
     cases E
     have bq:=e5.trans (s.trans (t.trans (H.trans U)))
     exact CS hf hw O O bq ⟨O,C⟩
    ·
     have E:=Aw ai E
     refine WF.skip (WF.seq (WF.rc (.inl O) C ?_))
     have a1:=a0.mono U
     refine QF.fa O a1 M4 Q6 O λf1 cy=>QF.ldl Ak C.1 O cy GV O λf2 cz=>?_
     obtain⟨f3,br,E⟩:=bd E
     refine Af O O O VL O (λh' o=>JU (St.all h') (cz.mono' (o.all C.1)) (iq (n:=1152921504606846976) O) br) λc0=>?_
     have f4:=c0
     refine QF.mv O O (QF.ext O O O (QF.ext O O O (QF.as_ O O (QF.as_ O O (Ai (kp [11,12,10,3] O) λf5 D aj=>WF.seq (WF.seq (WF.rp (.inl O) (QF.mv O O (QF.not O O (AA (kp [156,12,10,3] O) (WF.if_ O (λak=>?_) (λak=>?_))))))))))))
     ·
      have E:=Av ak E
      refine WF.seq (WF.rp (.inl O) (QF.as_ O O (AA (kp [4] O) (WF.ret (λaa ww hf hw=>?_)))))
      cases E
      have bt:=e5.trans (s.trans (t.trans (H.trans (U.trans aj))))
      exact CS hf hw O O bt ⟨O,D⟩
     ·
      have E:=Aw ak E
      refine WF.skip (WF.seq (WF.rc (.inl O) D ?_))
      have c1:=a1.mono aj
      refine QF.fa O c1 MW Q5 O λf6 c2=>QF.ldl Ak D.1 O c2 GV O λf7 c3=>QF.mv O O (QF.addw O O O (QF.mv O O (QF.subw O O O ?_)))
      obtain⟨f8,bu,E⟩:=bd E
      refine Af O O O VL O (λh' o=>JU (St.all h') (c3.mono' (o.all D.1)) (Au _) bu) λc4=>?_
      have f9:=c4
      refine QF.mv O O (QF.ext O O O (QF.ext O O O (QF.as_ O O (Ai (kp [11] O) λga bv c5=>WF.seq (WF.rp (.inl O) (QF.mv O O (QF.as_ O O (AA (kp [4] O) (WF.ret (λaa ww hf hw=>?_))))))))))
      cases E
      have bw:=e5.trans (s.trans (t.trans (H.trans (U.trans (aj.trans c5)))))
      exact CS hf hw O O bw ⟨O,bv⟩
end Go.Proofs.YtibidnaedddfdaaGreat
