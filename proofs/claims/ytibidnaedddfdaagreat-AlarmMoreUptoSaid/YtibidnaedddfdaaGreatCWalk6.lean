import Derived.Test.YtibidnaedddfdaaGreatCWalk5
namespace Go.Proofs.YtibidnaedddfdaaGreat
open Go.RowKit
set_option linter.unusedVariables false
set_option linter.unusedSimpArgs false
set_option maxRecDepth 10000
set_option maxHeartbeats 2000000
variable {N:Nat}{S:Nat→Prop}{L:List HP}{h:AX}
theorem KL (hs:St S L h) {s:Value}{t:AJ}(C:Rd S h BV s t) {r:Bool}(E:E9 N t=some r):
 Bf Tryz.prog 44 #[s] S h (λv S' h'=>v= .bool r∧St S' (L) h'):=by
 refine Ab (l:=[s]) 80 Tryz.func44 O Tryz.ntmps44 O λB=>?_
 rw[E9] at E
 refine WF.seq (WF.rl (LF.boxp O C (λe=>by cases e) O hs λq1 S2 h3 Y e5 k6=>LF.q 1 (QF.as_ O O (AG (LF.nil (kp [1] O) (WF.seq (WF.seq (WF.rp (.inl O) (QF.fa O k6 If O4 O λq7 k8=>QF.ldl Af Y.1 O k8 TC O λv9 Z=>QF.len O Z Pd O λbq=>QF.mv O O ?_)))))))))
 refine AA (kp [8,7,6,1] O) (WF.blockJ (λa w=>IV B S2 h3 (80,[]) a w [] (L) λ_ _=>Dn N=some r) ?_ ?_)
 ·
  refine WF.loopF (λn1=>λa w=>∃(x:Int),IV B S2 h3 (80,[]) a w [(7,.int .i64 (↑t.Roads.length:Int)),(6,v9),(1,q1),(8,.int .i64 x)] (L) λ_ _=>AB x∧CW N t (Dn N) n1 x=some r) N ?_ ?_ ?_
  ·
   intro aa ww hf hw
   exact⟨0,_,_,hf.sub (kp [7,6,1,8] O),hw,Y,(Bc.refl S2 h3),(iq (n:=0) O),E⟩
  ·
   rintro aa ww ⟨_,_,_,_,_,_,_,_,E⟩
   rw[CW] at E;cases E
  ·
   rintro n1 aa ww ⟨x,br,bt,hf,hw,y,u,bu,E⟩
   refine WF.run ?_ hf hw
   clear hf hw ww aa
   rw[CW] at E
   refine WF.seq (WF.rp (.inl O) (QF.lss O O O (AA (kp [9,7,6,1,8] O) (WF.seq (WF.if_ O (λK=>?_) (λK=>?_))))))
   ·
    have E:=A0 K E
    refine WF.skip (WF.seq (WF.block (WF.seq (WF.rl (LF.q 2 ?_)))))
    have ay:=Z.mono' u
    obtain⟨b,ab,E⟩:=bd E
    refine QF.ixe O O ay Pd ab O λbv az=>QF.ld Af y.1 O az Oh (λe=>by cases e) O λbw a0=>AG (LF.al Su O y λbx bz ac z=>?_)
    have a1:=a0.mono z
    obtain⟨rfl,⟨b0,a2,a3,a4,a5,a6,a7⟩⟩:=Et.ex a1
    refine Ad (vs:=[.string b.Name,.int .i64 b.From,.int .i64 b.To,.int .i64 b.Hours,.int .i64 b.Flow,.int .i64 b.By,.int .i64 b.Limit]) O O O O Oh O ac .head O λb1 c D=>LF.nil (kp [4,7,6,1,8] O) (WF.seq (WF.seq (WF.rc (.inl O) c (QF.fao O P6 O (AI Ai c O mh O AL O ?_)))))
    have ad:=u.trans (z.trans D)
    have F:=k6.mono ad
    refine QF.fa O F FA JP O λb2 a8=>QF.ldl Ai c.1 O a8 NC O λb3 a9=>QF.len O a9 La O λba=>?_
    obtain⟨bb,ae,E⟩:=bd E
    refine Aa O O O Nl O (λh' o=>Ek (St.all h') a2 (Jk ba) ae) (QF.not O O (QF.mv O O ?_))
    obtain⟨G,d,E⟩:=bd E
    refine QF.cutv 12 31 (.bool G) ?_ ?_
    ·
     cases af:(!bb)
     ·
      have d:=A3 af d
      refine QF.gy O O O (QF.fao O P5 O (QF.gy O O O (AI Ai c O mh O AL O (QF.gy O O O (QF.fa O F FA JP O λb4 bc=>QF.gy O O O (QF.ldl Ai c.1 O bc NC O λb5 be=>QF.gy O O O (QF.len O be La O λb6=>QF.gy O O O (QF.fa O F GR M6 O λb7 bf=>QF.gy O O O (QF.ldl Ai c.1 O bf RI O λb8 bg=>?_)))))))))
      refine QF.gy O O O (QF.len O bg OF O λb9=>QF.gy O O O (QF.addw O O O (QF.gy O O O ?_)))
      obtain⟨ca,ag,d⟩:=bd d
      refine Aa O O O Nl O (λh' o=>Ek (St.all h') a3 (BA _) ag) (QF.gy O O O (QF.not O O (QF.pick O O O ?_)))
      cases d
      exact AH O
     ·
      have d:=A0 af d
      cases d
      exact AK O O
    refine QF.mv O O (QF.cutv 6 38 (.bool (G||(decide (b.From=b.To)))) ?_ ?_)
    ·
     cases cb:G
     ·exact QF.gy O O O (QF.fao O P6 O (QF.gy O O O (AI Ai c O mh O AL O (QF.gy O O O (QF.fao O P5 O (QF.gy O O O (AI Ai c O mh O AL O (QF.gy O O O (QF.eql O O O (QF.pick O O O (AH O)))))))))))
     ·exact AK O O
    refine QF.mv O O ?_
    obtain⟨ah,g,E⟩:=bd E
    refine QF.cutv 5 44 (.bool ah) ?_ ?_
    ·
     cases ai:(G||(decide (b.From=b.To)))
     ·
      have g:=A3 ai g
      refine QF.gy O O O (QF.fao O UC O (QF.gy O O O (AI Ai c O mh O AL O (QF.gy O O O ?_))))
      obtain⟨cc,aj,g⟩:=bd g
      refine Aa O O O Fx O (λh' o=>A8 (St.all h') a4 (iq (n:=1) O) (iq (n:=24) O) aj) (QF.gy O O O (QF.not O O (QF.pick O O O ?_)))
      cases g
      exact AH O
     ·
      have g:=A0 ai g
      cases g
      exact AK O O
    refine QF.mv O O ?_
    obtain⟨ak,i,E⟩:=bd E
    refine QF.cutv 5 50 (.bool ak) ?_ ?_
    ·
     cases am:ah
     ·
      have i:=A3 am i
      refine QF.gy O O O (QF.fao O UB O (QF.gy O O O (AI Ai c O mh O AL O (QF.gy O O O ?_))))
      obtain⟨cd,an,i⟩:=bd i
      refine Aa O O O Fx O (λh' o=>A8 (St.all h') a5 (iq (n:=0) O) (iq (n:=1073741824) O) an) (QF.gy O O O (QF.not O O (QF.pick O O O ?_)))
      cases i
      exact AH O
     ·
      have i:=A0 am i
      cases i
      exact AK O O
    refine QF.mv O O ?_
    obtain⟨bh,j,E⟩:=bd E
    refine QF.cutv 5 56 (.bool bh) ?_ ?_
    ·
     cases ao:ak
     ·
      have j:=A3 ao j
      refine QF.gy O O O (QF.fao O P4 O (QF.gy O O O (AI Ai c O mh O AL O (QF.gy O O O ?_))))
      obtain⟨ce,ap,j⟩:=bd j
      refine Aa O O O HS O (λh' o=>BF (St.all h') a7 ap) (QF.gy O O O (QF.not O O (QF.pick O O O ?_)))
      cases j
      exact AH O
     ·
      have j:=A0 ao j
      cases j
      exact AK O O
    refine Ak (kp [56,4,7,6,1,8] O) λcf p H=>WF.if_ O (λM=>?_) (λM=>?_)
    ·
     have E:=A0 M E
     refine WF.seq (WF.rp (.inl O) (QF.as_ O O (AA (kp [2] O) (WF.ret (λaa ww hf hw=>?_)))))
     have aq:=p.drop .head
     cases E
     have ar:=e5.trans (u.trans (z.trans (D.trans H)))
     exact DD hf hw O O ar ⟨O,aq⟩
    ·
     have E:=A3 M E
     refine WF.skip (WF.seq (WF.rc (.inl O) p (QF.fao O NZ O (AI Ai p O mh O AL O (QF.eql O O O (QF.mv O O (QF.cutv 4 64 (.bool ((decide (b.By=(-1)))&&(decide (b.Limit≠0)))) ?_ ?_)))))))
     ·
      cases cg:(decide (b.By=(-1)))
      ·exact AK O O
      ·exact QF.gy O O O (QF.fao O P4 O (QF.gy O O O (AI Ai p O mh O AL O (QF.gy O O O (QF.neq O O O (QF.pick O O O (AH O)))))))
     refine QF.mv O O ?_
     obtain⟨bi,k,E⟩:=bd E
     refine QF.cutv 13 78 (.bool bi) ?_ ?_
     ·
      cases au:((decide (b.By=(-1)))&&(decide (b.Limit≠0)))
      ·
       have k:=A3 au k
       refine QF.gy O O O (QF.fao O NZ O (QF.gy O O O (AI Ai p O mh O AL O (QF.gy O O O (QF.neq O O O (QF.gy O O O (QF.mv O O ?_)))))))
       obtain⟨bj,m,k⟩:=bd k
       refine QF.cutv 8 77 (.bool bj) ?_ ?_
       ·
        cases av:(decide (b.By≠(-1)))
        ·
         have m:=A3 av m
         cases m
         exact AK O O
        ·
         have m:=A0 av m
         refine QF.gy O O O (QF.fao O NZ O (QF.gy O O O (AI Ai p O mh O AL O (QF.gy O O O ?_))))
         have bk:=F.mono H
         refine QF.fa O bk A4 DW O λch bl=>QF.gy O O O (QF.ldl Ai p.1 O bl Ff O λci bm=>QF.gy O O O (QF.len O bm E5 O λbn=>QF.gy O O O ?_))
         obtain⟨cj,aw,m⟩:=bd m
         refine Aa O O O Nl O (λh' o=>Ek (St.all h') a6 (Jk bn) aw) (QF.gy O O O (QF.not O O (QF.gy O O O (QF.pick O O O ?_))))
         cases m
         exact AH O
       refine QF.pick O O O ?_
       cases k
       exact AH O
      ·
       have k:=A0 au k
       cases k
       exact AK O O
     refine Ak (kp [78,7,6,1,8] O) λck I J=>WF.if_ O (λA=>?_) (λA=>?_)
     ·
      have E:=A0 A E
      refine WF.seq (WF.rp (.inl O) (QF.as_ O O (AA (kp [2] O) (WF.ret (λaa ww hf hw=>?_)))))
      have Q:=I.drop .head
      cases E
      have U:=e5.trans (u.trans (z.trans (D.trans (H.trans J))))
      exact DD hf hw O O U ⟨O,Q⟩
     ·
      have E:=A3 A E
      refine WF.skip (Ap (WF.rp (.inl O) (QF.addw O O O (QF.mv O O (AA (kp [8,7,6,1] O) (WF.nil (λaa ww hf hw=>?_)))))))
      have V:=I.drop .head
      have W:=u.trans (z.trans (D.trans (H.trans J)))
      exact⟨(Aw (x+1)),_,_,hf.sub (kp [7,6,1,8] O),hw,V,W,(BA _),E⟩
   ·
    have E:=A3 K E
    refine WF.exit O (λaa ww hf hw=>?_)
    exact⟨_,_,hf.sub JH,hw,y,u,E⟩
 ·
  rintro aa ww ⟨bo,bp,hf,hw,X,ax,E⟩
  refine WF.run ?_ hf hw
  clear hf hw ww aa
  rw[Dn] at E
  refine WF.seq (WF.rp (.inl O) (QF.as_ O O (AA (kp [2] O) (WF.ret (λaa ww hf hw=>?_)))))
  cases E
  exact DD hf hw O O (e5.trans ax) ⟨O,X⟩
theorem Ms (hs:St S L h) {n:Value}{t:AJ}(p:Rd S h BV n t) {r:Bool}(E:FZ N t=some r):
 Bf Tryz.prog 10 #[n] S h (λv S' h'=>v= .bool r∧St S' (L) h'):=by
 refine Ab (l:=[n]) 37 Tryz.func10 O Tryz.ntmps10 O λB=>?_
 rw[FZ] at E
 refine WF.seq (WF.rl (LF.boxp O p (λe=>by cases e) O hs λq1 S2 h3 a e5 s=>LF.q 1 (QF.as_ O O (AG (LF.nil (kp [1] O) (WF.seq (WF.rc (.inl O) a (QF.ld Ai a.1 O s F7 (λe=>by cases e) O λv7 k8=>?_))))))))
 obtain⟨y9,ad,E⟩:=bd E
 refine Aa O O O Zf O (λh' o=>Ku (St.all h') (k8.mono (o.all a.1)) ad) (QF.mv O O ?_)
 obtain⟨u,b,E⟩:=bd E
 refine QF.cutv 3 8 (.bool u) ?_ ?_
 ·
  cases w:y9
  ·
   have b:=A3 w b
   cases b
   exact AK O O
  ·
   have b:=A0 w b
   refine QF.gy O O O (QF.ld Ai a.1 O s F7 (λe=>by cases e) O λap ae=>QF.gy O O O ?_)
   obtain⟨aq,x,b⟩:=bd b
   refine Aa O O O Ze O (λh' o=>KM (St.all h') (ae.mono (o.all a.1)) x) (QF.pick O O O ?_)
   cases b
   exact AH O
 refine QF.mv O O ?_
 obtain⟨y,c,E⟩:=bd E
 refine QF.cutv 3 12 (.bool y) ?_ ?_
 ·
  cases z:u
  ·
   have c:=A3 z c
   cases c
   exact AK O O
  ·
   have c:=A0 z c
   refine QF.gy O O O (QF.ld Ai a.1 O s F7 (λe=>by cases e) O λar af=>QF.gy O O O ?_)
   obtain⟨au,A,c⟩:=bd c
   refine Aa O O O Zd O (λh' o=>Ju (St.all h') (af.mono (o.all a.1)) A) (QF.pick O O O ?_)
   cases c
   exact AH O
 refine QF.mv O O ?_
 obtain⟨C,d,E⟩:=bd E
 refine QF.cutv 3 16 (.bool C) ?_ ?_
 ·
  cases D:y
  ·
   have d:=A3 D d
   cases d
   exact AK O O
  ·
   have d:=A0 D d
   refine QF.gy O O O (QF.ld Ai a.1 O s F7 (λe=>by cases e) O λav ag=>QF.gy O O O ?_)
   obtain⟨aw,F,d⟩:=bd d
   refine Aa O O O Zc O (λh' o=>KN (St.all h') (ag.mono (o.all a.1)) F) (QF.pick O O O ?_)
   cases d
   exact AH O
 refine QF.mv O O ?_
 obtain⟨G,g,E⟩:=bd E
 refine QF.cutv 3 20 (.bool G) ?_ ?_
 ·
  cases H:C
  ·
   have g:=A3 H g
   cases g
   exact AK O O
  ·
   have g:=A0 H g
   refine QF.gy O O O (QF.ld Ai a.1 O s F7 (λe=>by cases e) O λax ah=>QF.gy O O O ?_)
   obtain⟨ay,I,g⟩:=bd g
   refine Aa O O O Zb O (λh' o=>JT (St.all h') (ah.mono (o.all a.1)) I) (QF.pick O O O ?_)
   cases g
   exact AH O
 refine QF.mv O O ?_
 obtain⟨J,i,E⟩:=bd E
 refine QF.cutv 3 24 (.bool J) ?_ ?_
 ·
  cases K:G
  ·
   have i:=A3 K i
   cases i
   exact AK O O
  ·
   have i:=A0 K i
   refine QF.gy O O O (QF.ld Ai a.1 O s F7 (λe=>by cases e) O λaz ai=>QF.gy O O O ?_)
   obtain⟨a0,M,i⟩:=bd i
   refine Aa O O O Za O (λh' o=>Jt (St.all h') (ai.mono (o.all a.1)) M) (QF.pick O O O ?_)
   cases i
   exact AH O
 refine QF.mv O O ?_
 obtain⟨Q,j,E⟩:=bd E
 refine QF.cutv 3 28 (.bool Q) ?_ ?_
 ·
  cases U:J
  ·
   have j:=A3 U j
   cases j
   exact AK O O
  ·
   have j:=A0 U j
   refine QF.gy O O O (QF.ld Ai a.1 O s F7 (λe=>by cases e) O λa1 aj=>QF.gy O O O ?_)
   obtain⟨a2,V,j⟩:=bd j
   refine Aa O O O ZZ O (λh' o=>KK (St.all h') (aj.mono (o.all a.1)) V) (QF.pick O O O ?_)
   cases j
   exact AH O
 refine QF.mv O O ?_
 obtain⟨W,k,E⟩:=bd E
 refine QF.cutv 3 32 (.bool W) ?_ ?_
 ·
  cases X:Q
  ·
   have k:=A3 X k
   cases k
   exact AK O O
  ·
   have k:=A0 X k
   refine QF.gy O O O (QF.ld Ai a.1 O s F7 (λe=>by cases e) O λa3 ak=>QF.gy O O O ?_)
   obtain⟨a4,Y,k⟩:=bd k
   refine Aa O O O ZY O (λh' o=>Jv (St.all h') (ak.mono (o.all a.1)) Y) (QF.pick O O O ?_)
   cases k
   exact AH O
 refine QF.mv O O ?_
 obtain⟨am,m,E⟩:=bd E
 refine QF.cutv 3 36 (.bool am) ?_ ?_
 ·
  cases Z:W
  ·
   have m:=A3 Z m
   cases m
   exact AK O O
  ·
   have m:=A0 Z m
   refine QF.gy O O O (QF.ld Ai a.1 O s F7 (λe=>by cases e) O λa5 an=>QF.gy O O O ?_)
   obtain⟨a6,ab,m⟩:=bd m
   refine Aa O O O ZX O (λh' o=>KL (St.all h') (an.mono (o.all a.1)) ab) (QF.pick O O O ?_)
   cases m
   exact AH O
 refine QF.as_ O O (Ak (kp [2] O) λa7 ac ao=>WF.ret (λaa ww hf hw=>?_))
 cases E
 exact DD hf hw O O (e5.trans ao) ⟨O,ac⟩
theorem Ix (hs:St S L h) {c:Value}{a:AD}(i:Rd S h AF c a) {d:Value}{b:AD}(j:Rd S h AF d b) {r:AD}(E:GW N a b=some r):
 Bf Tryz.prog 54 #[c,d] S h (λv S' h'=>v= .agg #[.int .i64 r.Lo,.int .i64 r.Hi]∧AD.ok r∧St S' (L) h'):=by
 refine Ab (l:=[c,d]) 16 Tryz.func54 O Tryz.ntmps54 O λB=>?_
 rw[GW] at E
 refine WF.seq (WF.rl (LF.boxp O i (λe=>by cases e) O hs λq1 S2 h3 w J K=>?_))
 have M:=j.mono J
 refine LF.boxp O M (λe=>by cases e) O w λq8 S9 Q n o x=>LF.al Ee O n λU V g m=>LF.nil (kp [4,3,2] O) (WF.seq (WF.rl (LF.q 11 ?_)))
 have p:=K.mono (o.trans m)
 refine QF.fa O p AD.f_Lo DE O λW y=>QF.ldi Af g.1 O y AL O λz=>?_
 have s:=x.mono m
 refine QF.fa O s AD.f_Lo DE O λX A=>QF.ldi Af g.1 O A AL O λC=>QF.min O O O (QF.fa O p AD.f_Hi Cn O λY D=>QF.ldi Af g.1 O D AL O λF=>QF.fa O s AD.f_Hi Cn O λZ G=>QF.ldi Af g.1 O G AL O λH=>QF.max O O O (QF.bld (cs:=[.int .i64 (min a.Lo b.Lo),.int .i64 (max a.Hi b.Hi)]) HD O O O (AG (Ad (vs:=[.int .i64 (min a.Lo b.Lo),.int .i64 (max a.Hi b.Hi)]) O O O O Ag O g .head O λab k I=>LF.nil (kp [4] O) (WF.ret (λaa ww hf hw=>?_))))))
 have t:=k.drop .head
 cases E
 have u:=J.trans (o.trans (m.trans I))
 exact HQ hf O hw (Gk (LD hf hw k O mh Ag O) HC) O u ⟨O,⟨(Gg z C),(Fj F H)⟩,t⟩
theorem Hx (hs:St S L h) {b:Value}{i:AD}(d:Rd S h AF b i) {c:Value}{j:AD}(g:Rd S h AF c j) {r:Bool}(E:FY N i j=some r):
 Bf Tryz.prog 14 #[b,c] S h (λv S' h'=>v= .bool r∧St S' (L) h'):=by
 refine Ab (l:=[b,c]) 10 Tryz.func14 O Tryz.ntmps14 O λB=>?_
 rw[FY] at E
 refine WF.seq (WF.rl (LF.boxp O d (λe=>by cases e) O hs λX Y Z t C D=>?_))
 have F:=g.mono C
 refine LF.boxp O F (λe=>by cases e) O t λq8 S9 G a k m=>LF.q 1 (QF.as_ O O (AG (LF.nil (kp [3,2] O) (WF.seq (WF.rc (.inr ⟨mo,by kernel_rfl⟩) a ?_)))))
 have u:=D.mono k
 refine QF.ld Ai a.1 O u Ag (λe=>by cases e) O λH w=>QF.ld Ai a.1 O m Ag (λe=>by cases e) O λI x=>?_
 obtain⟨J,n,E⟩:=bd E
 refine Ao O O O Uc O (λh' o=>Ix (St.all h') (w.mono (o.all a.1)) (x.mono (o.all a.1)) n) λy=>?_
 obtain⟨K,M⟩:=y
 refine QF.ld Ai a.1 O m Ag (λe=>by cases e) O λQ z=>?_
 obtain⟨rfl,⟨U,V⟩⟩:=AF.ex z
 refine QF.eqs O O Px O O O O (QF.as_ O O (Ak (kp [4] O) λW p A=>WF.ret (λaa ww hf hw=>?_)))
 cases E
 have s:=C.trans (k.trans A)
 exact DD hf hw O O s ⟨O,p⟩
theorem GU (hs:St S L h) {b:Int}(d:AB b) {a:Int}(c:AB a) {r:Bool}(E:Ep N b a=some r):
 Bf Tryz.prog 45 #[.int .i64 b,.int .i64 a] S h (λv S' h'=>v= .bool r∧St S' (L) h'):=by
 refine Ab (l:=[.int .i64 b,.int .i64 a]) 12 Tryz.func45 O Tryz.ntmps45 O λB=>?_
 rw[Ep] at E
 refine WF.seq (WF.rp (.inl O) (QF.as_ O O (AA (kp [0,1] O) (WF.seq (WF.rp (.inl O) (QF.mv O O (QF.geq O O O (QF.mv O O (QF.cutv 4 11 (.bool ((decide (0≤b))&&(decide (b<a)))) ?_ ?_)))))))))
 ·
  cases g:(decide (0≤b))
  ·exact AK O O
  ·exact QF.gy O O O (QF.mv O O (QF.gy O O O (QF.mv O O (QF.gy O O O (QF.lss O O O (QF.pick O O O (AH O)))))))
 refine QF.as_ O O (AA (kp [4] O) (WF.ret (λaa ww hf hw=>?_)))
 cases E
 exact DD hf hw O O (Bc.refl S h) ⟨O,hs⟩
theorem Is (hs:St S L h) {a:Int}(b:AB a) {r:Bool}(E:GC N a=some r):
 Bf Tryz.prog 144 #[.int .i64 a] S h (λv S' h'=>v= .bool r∧St S' (L) h'):=by
 refine Ab (l:=[.int .i64 a]) 6 Tryz.func144 O Tryz.ntmps144 O λB=>?_
 rw[GC] at E
 refine WF.seq (WF.rp (.inl O) (QF.as_ O O (AA (kp [0] O) (WF.seq (WF.rp (.inl O) (QF.mv O O (QF.mv O O (QF.neq O O O (QF.as_ O O (AA (kp [2] O) (WF.ret (λaa ww hf hw=>?_))))))))))))
 cases E
 exact DD hf hw O O (Bc.refl S h) ⟨O,hs⟩
theorem IA (hs:St S L h) {a:Int}(g:AB a) {b:Int}(i:AB b) {r:Int}(E:Eg N a b=some r):
 Bf Tryz.prog 99 #[.int .i64 a,.int .i64 b] S h (λv S' h'=>v= .int .i64 r∧AB r∧St S' (L) h'):=by
 refine Ab (l:=[.int .i64 a,.int .i64 b]) 20 Tryz.func99 O Tryz.ntmps99 O λB=>?_
 rw[Eg] at E
 refine WF.seq (WF.rp (.inl O) (QF.as_ O O (AA (kp [0,1] O) (WF.seq (WF.rc (.inl O) hs (QF.mv O O ?_))))))
 obtain⟨x,t,E⟩:=bd E
 refine Aa O O O Uh O (λh' o=>Is (St.all h') g t) (QF.as_ O O (Ak (kp [5,0,1] O) λy u s=>WF.seq (WF.rc (.inl O) u (QF.mv O O ?_))))
 obtain⟨z,w,E⟩:=bd E
 refine Aa O O O Uh O (λh' o=>Is (St.all h') i w) (QF.as_ O O (Ak (kp [6,5,0,1] O) λA c d=>WF.seq (WF.seq (WF.rp (.inl O) (QF.mv O O (AA (kp [11,6,0,1] O) (WF.if_ O (λj=>?_) (λj=>?_))))))))
 ·
  have E:=A0 j E
  refine WF.seq (WF.seq (WF.rp (.inl O) (QF.mv O O (AA (kp [12] O) (WF.if_ O (λk=>?_) (λk=>?_))))))
  ·
   have E:=A0 k E
   refine WF.seq (WF.rp (.inl O) (QF.as_ O O (AA (kp [4] O) (WF.ret (λaa ww hf hw=>?_)))))
   cases E
   exact DD hf hw O O (s.trans d) ⟨O,(iq (n:=0) O),c⟩
  ·
   have E:=A3 k E
   refine WF.skip (WF.seq (WF.rp (.inl O) (QF.as_ O O (AA (kp [4] O) (WF.ret (λaa ww hf hw=>?_))))))
   cases E
   exact DD hf hw O O (s.trans d) ⟨O,(iq (n:=(-1)) O),c⟩
 ·
  have E:=A3 j E
  refine WF.skip (WF.seq (WF.seq (WF.rp (.inl O) (QF.mv O O (AA (kp [13,0,1] O) (WF.if_ O (λm=>?_) (λm=>?_)))))))
  ·
   have E:=A0 m E
   refine WF.seq (WF.rp (.inl O) (QF.as_ O O (AA (kp [4] O) (WF.ret (λaa ww hf hw=>?_)))))
   cases E
   exact DD hf hw O O (s.trans d) ⟨O,(iq (n:=1) O),c⟩
  ·
   have E:=A3 m E
   refine WF.skip (WF.seq (WF.seq (WF.rp (.inl O) (QF.mv O O (QF.mv O O (QF.lss O O O (AA (kp [16,0,1] O) (WF.if_ O (λp=>?_) (λp=>?_)))))))))
   ·
    have E:=A0 p E
    refine WF.seq (WF.rp (.inl O) (QF.as_ O O (AA (kp [4] O) (WF.ret (λaa ww hf hw=>?_)))))
    cases E
    exact DD hf hw O O (s.trans d) ⟨O,(iq (n:=(-1)) O),c⟩
   ·
    have E:=A3 p E
    refine WF.skip (WF.seq (WF.seq (WF.rp (.inl O) (QF.mv O O (QF.mv O O (QF.gtr O O O (AA (kp [19] O) (WF.if_ O (λq=>?_) (λq=>?_)))))))))
    ·
     have E:=A0 q E
     refine WF.seq (WF.rp (.inl O) (QF.as_ O O (AA (kp [4] O) (WF.ret (λaa ww hf hw=>?_)))))
     cases E
     exact DD hf hw O O (s.trans d) ⟨O,(iq (n:=1) O),c⟩
    ·
     have E:=A3 q E
     refine WF.skip (WF.seq (WF.rp (.inl O) (QF.as_ O O (AA (kp [4] O) (WF.ret (λaa ww hf hw=>?_))))))
     cases E
     exact DD hf hw O O (s.trans d) ⟨O,(iq (n:=0) O),c⟩
theorem Ni (hs:St S L h) {b:Value}{c:(List Int)}(d:Sl S h AV.int b c) {r:Int}(E:HK N c=some r):
 Bf Tryz.prog 98 #[b] S h (λv S' h'=>v= .int .i64 r∧AB r∧St S' (L) h'):=by
 refine Ab (l:=[b]) 18 Tryz.func98 O Tryz.ntmps98 O λB=>?_
 rw[HK] at E
 refine WF.seq (WF.rp (.inl O) (QF.as_ O O (AA (kp [0] O) (WF.seq (WF.rp (.inl O) (QF.as_ O O (AA (kp [3,0] O) (WF.seq (WF.seq (WF.rp (.inl O) (QF.mv O O (QF.len O d F9 O λD=>QF.mv O O ?_))))))))))))
 refine AA (kp [8,7,6,3] O) (WF.blockJ (λa w=>IV B S h (18,[]) a w [(3,.int .i64 0)] (L) λ_ _=>GD N=some r) ?_ ?_)
 ·
  refine WF.loopF (λx=>λa w=>∃(k:Int),IV B S h (18,[]) a w [(7,.int .i64 (↑c.length:Int)),(6,b),(3,.int .i64 0),(8,.int .i64 k)] (L) λ_ _=>AB k∧FI N c (GD N) x k=some r) N ?_ ?_ ?_
  ·
   intro aa ww hf hw
   exact⟨0,_,_,hf.sub (kp [7,6,3,8] O),hw,hs,(Bc.refl S h),(iq (n:=0) O),E⟩
  ·
   rintro aa ww ⟨_,_,_,_,_,_,_,_,E⟩
   rw[FI] at E;cases E
  ·
   rintro x aa ww ⟨k,F,G,hf,hw,g,p,H,E⟩
   refine WF.run ?_ hf hw
   clear hf hw ww aa
   rw[FI] at E
   refine WF.seq (WF.rp (.inl O) (QF.lss O O O (AA (kp [9,7,6,3,8] O) (WF.seq (WF.if_ O (λi=>?_) (λi=>?_))))))
   ·
    have E:=A0 i E
    refine WF.skip (WF.seq (WF.block (WF.seq (WF.rp (.inl O) ?_))))
    have q:=d.mono' p
    obtain⟨y,m,E⟩:=bd E
    refine QF.ixe O O q F9 m O λz s=>QF.ldi Af g.1 O s AL O λt=>QF.as_ O O (AA (kp [5,7,6,3,8] O) (WF.seq (WF.rp (.inl O) (QF.mv O O (QF.mv O O (QF.neq O O O (AA (kp [14,5,7,6,3,8] O) (WF.if_ O (λj=>?_) (λj=>?_)))))))))
    ·
     have E:=A0 j E
     refine WF.seq (WF.rp (.inl O) (QF.mv O O (QF.as_ O O (AA (kp [2] O) (WF.ret (λaa ww hf hw=>?_))))))
     cases E
     exact DD hf hw O O p ⟨O,t,g⟩
    ·
     have E:=A3 j E
     refine WF.skip (Ap (WF.rp (.inl O) (QF.addw O O O (QF.mv O O (AA (kp [8,7,6,3] O) (WF.nil (λaa ww hf hw=>?_)))))))
     exact⟨(Aw (k+1)),_,_,hf.sub (kp [7,6,3,8] O),hw,g,p,(BA _),E⟩
   ·
    have E:=A3 i E
    refine WF.exit O (λaa ww hf hw=>?_)
    exact⟨_,_,hf.sub (kp [3] O),hw,g,p,E⟩
 ·
  rintro aa ww ⟨A,C,hf,hw,o,u,E⟩
  refine WF.run ?_ hf hw
  clear hf hw ww aa
  rw[GD] at E
  refine WF.seq (WF.rp (.inl O) (QF.mv O O (QF.as_ O O (AA (kp [2] O) (WF.ret (λaa ww hf hw=>?_))))))
  cases E
  exact DD hf hw O O u ⟨O,(iq (n:=0) O),o⟩
theorem J7 (hs:St S L h) {g:Value}{c:Az}(u:Rd S h BS g c) {j:Value}{d:Az}(w:Rd S h BS j d) {r:Int}(E:DX N c d=some r):
 Bf Tryz.prog 46 #[g,j] S h (λv S' h'=>v= .int .i64 r∧AB r∧St S' (L) h'):=by
 refine Ab (l:=[g,j]) 17 Tryz.func46 O Tryz.ntmps46 O λB=>?_
 rw[DX] at E
 refine WF.seq (WF.rl (LF.boxp O u (λe=>by cases e) O hs λq1 S2 h3 aq e5 k6=>?_))
 have k7:=w.mono e5
 refine LF.boxp O k7 (λe=>by cases e) O aq λq8 Q ar a A U=>LF.q 1 (QF.as_ O O (AG (LF.nil (kp [3,2] O) (WF.seq ?_))))
 obtain⟨k,V,E⟩:=bd E
 obtain⟨n,W,E⟩:=bd E
 obtain⟨x,X,E⟩:=bd E
 refine QQ (m:=[(3,q8),(2,q1)]) 13 (λi v hh=>match i with|0=>Pt Q hh AV.int v c.At|1=>v= .int .i64 c.At∧AB c.At|2=>Pt Q hh AV.int v d.At|3=>v= .int .i64 d.At∧AB d.At|4=>v= .int .i64 k∧AB k|5=>Pt Q hh AV.int v c.To|6=>v= .int .i64 c.To∧AB c.To|7=>Pt Q hh AV.int v d.To|8=>v= .int .i64 d.To∧AB d.To|9=>v= .int .i64 n∧AB n|10=>Sl (SN Q ar hh) hh AV.int v ([k,n]:List Int)∧∃ad,v= .slice (some ad) 2 2|11=>v= .int .i64 x∧AB x|12=>v= .int .i64 x∧AB x|_=>False) [[],[(0,5)],[],[(2,7)],[(1,6),(3,8)],[],[(5,10)],[],[(7,12)],[(6,11),(8,13)],[(4,9),(9,14)],[(10,15)],[(11,16)]] [(12,4)] mo (by kernel_rfl) [3,2] O (by kernel_rfl) (by kernel_rfl) (by kernel_rfl) (kp [3,2] O) (λi v h1 h2 Y Z hr=>?_) ?_ ?_
 ·match i,hr with
   |0,hr=>exact K1.mono hr (Z.ext λb hb=>Nat.lt_of_lt_of_le (a.1 b hb) Y.siz)
   |1,hr=>exact hr
   |2,hr=>exact K1.mono hr (Z.ext λb hb=>Nat.lt_of_lt_of_le (a.1 b hb) Y.siz)
   |3,hr=>exact hr
   |4,hr=>exact hr
   |5,hr=>exact K1.mono hr (Z.ext λb hb=>Nat.lt_of_lt_of_le (a.1 b hb) Y.siz)
   |6,hr=>exact hr
   |7,hr=>exact K1.mono hr (Z.ext λb hb=>Nat.lt_of_lt_of_le (a.1 b hb) Y.siz)
   |8,hr=>exact hr
   |9,hr=>exact hr
   |10,hr=>exact⟨Sl.mono' hr.1 (SN.mono a.1 Y Z),hr.2⟩
   |11,hr=>exact hr
   |12,hr=>exact hr
   |_+13,hr=>exact hr.elim
 ·
  refine CG.cons O ?_ ?_
  ·
   intro mq hh o
   have hsN:=o.st a
   refine LF.q 1 ?_
   have au:=k6.mono (A.trans (o.ext a.1))
   exact QF.fa O au Ob M4 O λb6 av=>AG (AM (BX.refl _) av)
  refine CG.cons O ?_ ?_
  ·
   intro mq hh o
   intro aw C
   have hsN:=o.st a
   have C:Pt _ _ AV.int aw c.At:=C
   exact LF.q 1 (QF.ldi Af hsN.1 O C AL O λax=>AG (AM (BX.refl _) ⟨O,ax⟩))
  refine CG.cons O ?_ ?_
  ·
   intro mq hh o
   have hsN:=o.st a
   refine LF.q 1 ?_
   have ay:=U.mono (o.ext a.1)
   exact QF.fa O ay Ob M4 O λb7 az=>AG (AM (BX.refl _) az)
  refine CG.cons O ?_ ?_
  ·
   intro mq hh o
   intro a0 D
   have hsN:=o.st a
   have D:Pt _ _ AV.int a0 d.At:=D
   exact LF.q 1 (QF.ldi Af hsN.1 O D AL O λa1=>AG (AM (BX.refl _) ⟨O,a1⟩))
  refine CG.cons O ?_ ?_
  ·
   intro mq hh o
   intro b8 a2 b9 a3
   have hsN:=SN.st a o
   obtain⟨rfl,a4⟩:=a2
   obtain⟨rfl,a5⟩:=a3
   refine LF.callb O O O We O hsN (IA (St.all _) a4 a5 V) λca cb cc bp cd ab p=>?_
   obtain⟨rfl,a6,bq⟩:=p
   exact AM ⟨ab.siz,λb hb=>ab.same b hb⟩ ⟨O,a6⟩
  refine CG.cons O ?_ ?_
  ·
   intro mq hh o
   have hsN:=o.st a
   refine LF.q 1 ?_
   have a7:=k6.mono (A.trans (o.ext a.1))
   exact QF.fa O a7 Az.f_To Lr O λce a8=>AG (AM (BX.refl _) a8)
  refine CG.cons O ?_ ?_
  ·
   intro mq hh o
   intro a9 F
   have hsN:=o.st a
   have F:Pt _ _ AV.int a9 c.To:=F
   exact LF.q 1 (QF.ldi Af hsN.1 O F AL O λba=>AG (AM (BX.refl _) ⟨O,ba⟩))
  refine CG.cons O ?_ ?_
  ·
   intro mq hh o
   have hsN:=o.st a
   refine LF.q 1 ?_
   have bb:=U.mono (o.ext a.1)
   exact QF.fa O bb Az.f_To Lr O λcf bc=>AG (AM (BX.refl _) bc)
  refine CG.cons O ?_ ?_
  ·
   intro mq hh o
   intro be G
   have hsN:=o.st a
   have G:Pt _ _ AV.int be d.To:=G
   exact LF.q 1 (QF.ldi Af hsN.1 O G AL O λbf=>AG (AM (BX.refl _) ⟨O,bf⟩))
  refine CG.cons O ?_ ?_
  ·
   intro mq hh o
   intro cg bg ch bh
   have hsN:=SN.st a o
   obtain⟨rfl,bi⟩:=bg
   obtain⟨rfl,bj⟩:=bh
   refine LF.callb O O O We O hsN (IA (St.all _) bi bj W) λci cj ck br cl ac p=>?_
   obtain⟨rfl,bk,bt⟩:=p
   exact AM ⟨ac.siz,λb hb=>ac.same b hb⟩ ⟨O,bk⟩
  refine CG.cons O ?_ ?_
  ·
   intro mq hh o
   intro cm bl cn ae
   have hsN:=SN.st a o
   obtain⟨rfl,af⟩:=bl
   obtain⟨rfl,ag⟩:=ae
   have hsF:=hsN.fz
   refine Hd (cs:=[.int .i64 k,.int .i64 n]) US O O O O O O O hsF λbu bv H ah=>?_
   have I:=H.bxos (r:=AV.int) (l:=([k,n]:List Int)) .head ⟨_,_,O,⟨O,af⟩,⟨_,_,O,⟨O,ag⟩,O⟩⟩ (by simp [maxLen])
   obtain⟨bw,J,ai,aj⟩:=I.pubs .head
   have s:=Fz.done o (ah.trans ai) J
   exact AM s.1 ⟨Sl.mono' aj s.2,_,O⟩
  refine CG.cons O ?_ ?_
  ·
   intro mq hh o
   intro bx t
   have hsN:=SN.st a o
   obtain⟨t,bm,rfl⟩:=t
   refine LF.callb O O O ZH O hsN (Ni (St.all _) (t.mono (λb hb=>hsN.1 b hb) (λ_ _=>rfl)) X) λbz b0 b1 bn b2 y p=>?_
   obtain⟨rfl,ak,bo⟩:=p
   exact AM ⟨y.siz,λb hb=>y.same b hb⟩ ⟨O,ak⟩
  refine CG.cons O ?_ ?_
  ·
   intro mq hh o
   intro b3 am
   have hsN:=o.st a
   obtain⟨rfl,an⟩:=am
   exact LF.q 1 (QF.as_ O O (AG (AM (BX.refl _) ⟨O,an⟩)))
  exact trivial
 intro b4 z b5 ao
 have K:=SN.st a z
 obtain⟨rfl,ap⟩:=ao
 refine LF.nil (kp [4] O) (WF.ret (λaa ww hf hw=>?_))
 cases E
 have M:=e5.trans (A.trans (SN.ext a.1 z))
 exact DD hf hw O O M ⟨O,ap,K⟩
theorem JK (hs:St S L h) {b:Value}{c:AD}(d:Rd S h AF b c) {a:Int}(i:AB a) {r:Bool}(E:GX N c a=some r):
 Bf Tryz.prog 73 #[b,.int .i64 a] S h (λv S' h'=>v= .bool r∧St S' (L) h'):=by
 refine Ab (l:=[b,.int .i64 a]) 15 Tryz.func73 O Tryz.ntmps73 O λB=>?_
 rw[GX] at E
 refine WF.seq (WF.rl (LF.boxp O d (λe=>by cases e) O hs λt u w g m k=>LF.q 1 (QF.as_ O O (AG (LF.nil (kp [2,1] O) (WF.seq (WF.rp (.inl O) (QF.fa O k AD.f_Lo DE O λx n=>QF.ldi Af g.1 O n AL O λy=>QF.mv O O (QF.leq O O O (QF.mv O O ?_))))))))))
 refine QF.cutv 5 14 (.bool ((decide (c.Lo≤a))&&(decide (a≤c.Hi)))) ?_ ?_
 ·
  cases o:(decide (c.Lo≤a))
  ·exact AK O O
  ·exact QF.gy O O O (QF.mv O O (QF.gy O O O (QF.fa O k AD.f_Hi Cn O λp j=>QF.gy O O O (QF.ldi Af g.1 O j AL O λs=>QF.gy O O O (QF.leq O O O (QF.pick O O O (AH O)))))))
 refine QF.as_ O O (AA (kp [4] O) (WF.ret (λaa ww hf hw=>?_)))
 cases E
 exact DD hf hw O O m ⟨O,g⟩
theorem Ev (hs:St S L h) {a:Int}(b:AB a) {r:AD}(E:Dk N a=some r):
 Bf Tryz.prog 66 #[.int .i64 a] S h (λv S' h'=>v= .agg #[.int .i64 r.Lo,.int .i64 r.Hi]∧AD.ok r∧St S' (L) h'):=by
 refine Ab (l:=[.int .i64 a]) 6 Tryz.func66 O Tryz.ntmps66 O λB=>?_
 rw[Dk] at E
 refine WF.seq (WF.rl (LF.al Ee O hs λk m d i=>LF.nil (kp [2,0] O) (WF.seq (WF.rl (LF.q 3 (QF.mv O O (QF.mv O O (QF.bld (cs:=[.int .i64 a,.int .i64 a]) HD O O O (AG (Ad (vs:=[.int .i64 a,.int .i64 a]) O O O O Ag O d .head O λn c j=>LF.nil (kp [2] O) (WF.ret (λaa ww hf hw=>?_))))))))))))
 have g:=c.drop .head
 cases E
 exact HQ hf O hw (Gk (LD hf hw c O mh Ag O) HC) O (i.trans j) ⟨O,⟨b,b⟩,g⟩
theorem LJ (hs:St S L h) {m:Value}{b:AQ}(J:Rd S h A9 m b) {s:Value}{k:AT}(K:Rd S h AZ s k) {r:Bool}(E:Ez N b k=some r):
 Bf Tryz.prog 47 #[m,s] S h (λv S' h'=>v= .bool r∧St S' (L) h'):=by
 refine Ab (l:=[m,s]) 61 Tryz.func47 O Tryz.ntmps47 O λB=>?_
 rw[Ez] at E
 refine WF.seq (WF.rl (LF.boxp O J (λe=>by cases e) O hs λq1 S2 h3 bg e5 k6=>?_))
 have k7:=K.mono e5
 refine LF.boxp O k7 (λe=>by cases e) O bg λq8 S9 cm Q M bh=>LF.q 1 (QF.as_ O O (AG (LF.nil (kp [3,2] O) (WF.seq (WF.rl (LF.q 3 ?_))))))
 have ag:=k6.mono M
 refine QF.fa O ag B0 GA O λcn bi=>QF.ldi Af Q.1 O bi AL O λah=>QF.bld (cs:=[.int .i64 0,.int .i64 b.Positions]) HD O O O (AG (LF.al Ee O Q λco cp ai w=>Ad (vs:=[.int .i64 0,.int .i64 b.Positions]) O O O O Ag O ai .head O λcq d y=>LF.nil (kp [5,3,2] O) (WF.seq (WF.seq (WF.rc (.inl O) d ?_)))))
 have z:=bh.mono (w.trans y)
 refine QF.fa O z AT.f_Pos Hh O λcr bj=>QF.ld Ai d.1 O bj Ag (λe=>by cases e) O λct bk=>?_
 obtain⟨bl,aj,E⟩:=bd E
 refine Aa O O O OX O (λh' o=>Fg (St.all h') (bk.mono (o.all d.1)) aj) (QF.not O O (QF.mv O O ?_))
 obtain⟨ak,g,E⟩:=bd E
 refine QF.cutv 6 21 (.bool ak) ?_ ?_
 ·
  cases am:(!bl)
  ·
   have g:=A3 am g
   refine QF.gy O O O (QF.fa O z AT.f_Pos Hh O λcu bm=>QF.gy O O O (QF.ld Ai d.1 O bm Ag (λe=>by cases e) O λcv bn=>QF.gy O O O (QF.ldo (vs:=[.int .i64 0,.int .i64 b.Positions]) Ai d O mh O O Ag O O (QF.gy O O O ?_))))
   obtain⟨cw,an,g⟩:=bd g
   refine Aa O O O Ul O (λh' o=>Hx (St.all h') (bn.mono (o.all d.1)) (AF.mk (x:=(⟨0,b.Positions⟩:AD)) ⟨(iq (n:=0) O),ah⟩) an) (QF.gy O O O (QF.not O O (QF.pick O O O ?_)))
   cases g
   exact AH O
  ·
   have g:=A0 am g
   cases g
   exact AK O O
 refine QF.mv O O ?_
 obtain⟨bo,i,E⟩:=bd E
 refine QF.cutv 6 28 (.bool bo) ?_ ?_
 ·
  cases ao:ak
  ·
   have i:=A3 ao i
   refine QF.gy O O O (QF.ldo (vs:=[.int .i64 0,.int .i64 b.Positions]) Ai d O mh O O Ag O O (QF.gy O O O (QF.fa O z AT.f_Target M3 O λcx bp=>QF.gy O O O (QF.ldi Ai d.1 O bp AL O λbq=>QF.gy O O O ?_))))
   obtain⟨cy,ap,i⟩:=bd i
   refine Aa O O O Ub O (λh' o=>JK (St.all h') (AF.mk (x:=(⟨0,b.Positions⟩:AD)) ⟨(iq (n:=0) O),ah⟩) bq ap) (QF.gy O O O (QF.not O O (QF.pick O O O ?_)))
   cases i
   exact AH O
  ·
   have i:=A0 ao i
   cases i
   exact AK O O
 refine Ak (kp [28,3,2] O) λcz U u=>WF.if_ O (λW=>?_) (λW=>?_)
 ·
  have E:=A0 W E
  refine WF.seq (WF.rp (.inl O) (QF.as_ O O (AA (kp [4] O) (WF.ret (λaa ww hf hw=>?_)))))
  have aq:=U.drop .head
  cases E
  have ar:=e5.trans (M.trans (w.trans (y.trans u)))
  exact DD hf hw O O ar ⟨O,aq⟩
 ·
  have E:=A3 W E
  refine WF.skip (WF.seq (WF.rl ?_))
  obtain⟨j,au,E⟩:=bd E
  refine LF.callb O O O K0 O U (Ev (St.all _) (iq (n:=0) O) au) λc0 c1 c2 av A c3 p=>?_
  obtain⟨rfl,⟨br,bt⟩,b0⟩:=p
  obtain⟨t,aw,E⟩:=bd E
  refine LF.callb O O O K0 O av (Ev (St.all _) (iq (n:=1) O) aw) λc4 c5 c6 ax C c7 p=>?_
  obtain⟨rfl,⟨bu,bv⟩,b1⟩:=p
  refine LF.al Ee O ax λc8 c9 ay D=>LF.al Ee O ay λda db az F=>Ad (vs:=[.int .i64 j.Lo,.int .i64 j.Hi]) O O O O Ag O az (.tail .head) O λdc a0 G=>Ad (vs:=[.int .i64 t.Lo,.int .i64 t.Hi]) O O O O Ag O a0 .head O λdd a H=>LF.nil (kp [7,6,3,2] O) (WF.seq (WF.seq (WF.rp (.inl O) ?_)))
  have a1:=w.trans (y.trans (u.trans (A.trans (C.trans (D.trans (F.trans (G.trans H)))))))
  have a2:=ag.mono a1
  refine QF.fa O a2 AQ.f_Kind Do O λde bw=>QF.ldi Af a.1 O bw AL O λdf=>QF.neq O O O (QF.mv O O (QF.cutv 4 38 (.bool ((decide (b.Kind≠5))&&(decide (b.Kind≠3)))) ?_ ?_))
  ·
   cases dg:(decide (b.Kind≠5))
   ·exact AK O O
   ·exact QF.gy O O O (QF.fa O a2 AQ.f_Kind Do O λdh bx=>QF.gy O O O (QF.ldi Af a.1 O bx AL O λdi=>QF.gy O O O (QF.neq O O O (QF.pick O O O (AH O)))))
  refine AA (kp [38,7,6,3] O) (WF.if_ O (λX=>?_) (λX=>?_))
  ·
   have E:=A0 X E
   refine WF.seq (WF.rp (.inl O) ?_)
   have a3:=u.trans (A.trans (C.trans (D.trans (F.trans (G.trans H)))))
   have bz:=z.mono a3
   refine QF.fa O bz AT.f_Open Hg O λdj a4=>QF.ld Af a.1 O a4 Ag (λe=>by cases e) O λb2 a5=>QF.ldo (vs:=[.int .i64 j.Lo,.int .i64 j.Hi]) Af a O (mt mh) O O Ag O O ?_
   obtain⟨rfl,⟨b3,b4⟩⟩:=AF.ex a5
   refine QF.eqs O O Px O O O O (QF.as_ O O (AA (kp [4] O) (WF.ret (λaa ww hf hw=>?_))))
   have Y:=a.sel [] 3 O
   cases E
   have Z:=e5.trans (M.trans (w.trans (y.trans (u.trans (A.trans (C.trans (D.trans (F.trans (G.trans H)))))))))
   exact DD hf hw O O Z ⟨O,Y⟩
  ·
   have E:=A3 X E
   refine WF.skip (WF.seq (WF.rc (.inr ⟨mo,by kernel_rfl⟩) a ?_))
   have ab:=u.trans (A.trans (C.trans (D.trans (F.trans (G.trans H)))))
   have I:=z.mono ab
   refine QF.fa O I AT.f_Open Hg O λb5 a6=>QF.ld Ai a.1 O a6 Ag (λe=>by cases e) O λb6 a7=>QF.ldo (vs:=[.int .i64 j.Lo,.int .i64 j.Hi]) Ai a O (mt mh) O O Ag O O ?_
   obtain⟨rfl,⟨b7,b8⟩⟩:=AF.ex a7
   refine QF.eqs O O Px O O O O (QF.mv O O (QF.cutv 5 52 (.bool ((N0 k.Open.v j.v)||(N0 k.Open.v t.v))) ?_ ?_))
   ·
    cases b9:(N0 k.Open.v j.v)
    ·
     refine QF.gy O O O (QF.fa O I AT.f_Open Hg O λca a8=>QF.gy O O O (QF.ld Ai a.1 O a8 Ag (λe=>by cases e) O λcb a9=>QF.gy O O O (QF.ldo (vs:=[.int .i64 t.Lo,.int .i64 t.Hi]) Ai a O mh O O Ag O O (QF.gy O O O ?_))))
     obtain⟨rfl,⟨cc,cd⟩⟩:=AF.ex a9
     exact QF.eqs O O Px O O O O (QF.pick O O O (AH O))
    ·exact AK O O
   refine QF.mv O O ?_
   obtain⟨ba,c,E⟩:=bd E
   refine QF.cutv 7 60 (.bool ba) ?_ ?_
   ·
    cases V:((N0 k.Open.v j.v)||(N0 k.Open.v t.v))
    ·
     have c:=A3 V c
     refine QF.gy O O O (QF.fa O I AT.f_Open Hg O λce bb=>QF.gy O O O (QF.ld Ai a.1 O bb Ag (λe=>by cases e) O λcf bc=>QF.gy O O O (QF.ldo (vs:=[.int .i64 j.Lo,.int .i64 j.Hi]) Ai a O (mt mh) O O Ag O O (QF.gy O O O (QF.ldo (vs:=[.int .i64 t.Lo,.int .i64 t.Hi]) Ai a O mh O O Ag O O (QF.gy O O O ?_))))))
     obtain⟨cg,ac,c⟩:=bd c
     refine Ao O O O Uc O (λh' o=>Ix (St.all h') (AF.mk (x:=j) ⟨br,bt⟩) (AF.mk (x:=t) ⟨bu,bv⟩) ac) λbe=>?_
     obtain⟨ch,ci⟩:=be
     refine QF.gy O O O ?_
     obtain⟨rfl,⟨cj,ck⟩⟩:=AF.ex bc
     refine QF.eqs O O Px O O O O (QF.pick O O O ?_)
     cases c
     exact AH O
    ·
     have c:=A0 V c
     cases c
     exact AK O O
   refine QF.as_ O O (Ak (kp [4] O) λcl ad bf=>WF.ret (λaa ww hf hw=>?_))
   have ae:=ad.sel [] 3 O
   cases E
   have af:=e5.trans (M.trans (w.trans (y.trans (u.trans (A.trans (C.trans (D.trans (F.trans (G.trans (H.trans bf))))))))))
   exact DD hf hw O O af ⟨O,ae⟩
theorem NT (hs:St S L h) {H:Value}{i:AJ}(az:Rd S h BV H i) {I:Value}{b:BT}(a0:Rd S h DI I b) {r:Bool}(E:HH N i b=some r):
 Bf Tryz.prog 11 #[H,I] S h (λv S' h'=>v= .bool r∧St S' (L) h'):=by
 refine Ab (l:=[H,I]) 128 Tryz.func11 O Tryz.ntmps11 O λB=>?_
 rw[HH] at E
 refine WF.seq (WF.rl (LF.boxp O az (λe=>by cases e) O hs λq1 S2 h3 dz e5 k6=>?_))
 have k7:=a0.mono e5
 refine LF.boxp O k7 (λe=>by cases e) O dz λq8 S9 fx s C ae=>LF.q 1 (QF.as_ O O (AG (LF.nil (kp [3,2] O) (WF.seq (WF.seq (WF.rp (.inl O) (QF.fa O ae JY Iq O λfy d0=>QF.ldi Af s.1 O d0 AL O λfz=>QF.lss O O O (QF.mv O O (QF.cutv 4 19 (.bool ((decide (b.Hour<0))||(decide (16777216<b.Hour)))) ?_ ?_)))))))))
 ·
  cases f0:(decide (b.Hour<0))
  ·exact QF.gy O O O (QF.fa O ae JY Iq O λf1 d1=>QF.gy O O O (QF.ldi Af s.1 O d1 AL O λf2=>QF.gy O O O (QF.gtr O O O (QF.pick O O O (AH O)))))
  ·exact AK O O
 refine QF.mv O O (QF.cutv 8 28 (.bool (((decide (b.Hour<0))||(decide (16777216<b.Hour)))||(decide ((↑b.Vol.length:Int)≠(↑i.Places.length:Int))))) ?_ ?_)
 ·
  cases f3:((decide (b.Hour<0))||(decide (16777216<b.Hour)))
  ·
   refine QF.gy O O O (QF.fa O ae BT.f_Vol Kf O λf4 d2=>QF.gy O O O (QF.ldl Af s.1 O d2 Gn O λf5 d3=>QF.gy O O O (QF.len O d3 FM O λf6=>QF.gy O O O ?_)))
   have d4:=k6.mono C
   exact QF.fa O d4 A4 DW O λf7 d5=>QF.gy O O O (QF.ldl Af s.1 O d5 Ff O λf8 d6=>QF.gy O O O (QF.len O d6 E5 O λf9=>QF.gy O O O (QF.neq O O O (QF.pick O O O (AH O)))))
  ·exact AK O O
 refine QF.mv O O (QF.cutv 8 37 (.bool ((((decide (b.Hour<0))||(decide (16777216<b.Hour)))||(decide ((↑b.Vol.length:Int)≠(↑i.Places.length:Int))))||(decide ((↑b.Links.length:Int)≠(↑i.Links.length:Int))))) ?_ ?_)
 ·
  cases ga:(((decide (b.Hour<0))||(decide (16777216<b.Hour)))||(decide ((↑b.Vol.length:Int)≠(↑i.Places.length:Int))))
  ·
   refine QF.gy O O O (QF.fa O ae BT.f_Links Gv O λgb d7=>QF.gy O O O (QF.ldl Af s.1 O d7 JZ O λgc d8=>QF.gy O O O (QF.len O d8 J2 O λge=>QF.gy O O O ?_)))
   have d9:=k6.mono C
   exact QF.fa O d9 AJ.f_Links FP O λgf ea=>QF.gy O O O (QF.ldl Af s.1 O ea Ho O λgg eb=>QF.gy O O O (QF.len O eb GO O λgh=>QF.gy O O O (QF.neq O O O (QF.pick O O O (AH O)))))
  ·exact AK O O
 refine AA (kp [37,3,2] O) (WF.if_ O (λbc=>?_) (λbc=>?_))
 ·
  have E:=A0 bc E
  refine WF.seq (WF.rp (.inl O) (QF.as_ O O (AA (kp [4] O) (WF.ret (λaa ww hf hw=>?_)))))
  cases E
  exact DD hf hw O O (e5.trans C) ⟨O,s⟩
 ·
  have E:=A3 bc E
  refine WF.skip (WF.seq (WF.rl (LF.q 1 (QF.bld (cs:=[.int .i64 0,.int .i64 1125899906842624]) HD O O O (AG (LF.al Ee O s λad gi cd J=>Ad (vs:=[.int .i64 0,.int .i64 1125899906842624]) O O O O Ag O cd .head O λbe a2 K=>LF.nil (kp [5,3,2] O) (WF.seq (WF.seq (WF.rp (.inl O) ?_)))))))))
  have ce:=ae.mono (J.trans K)
  refine QF.fa O ce BT.f_Vol Kf O λgj ec=>QF.ldl Af a2.1 O ec Gn O λed cf=>QF.len O cf FM O λgk=>QF.mv O O (AA (kp [42,41,40,5,3,2] O) (WF.blockJ (λa w=>IV B S9 be (128,[]) a w [(5,.pointer (some ⟨ad,0,none⟩)),(3,q8),(2,q1)] (Bx ad 51 [.int .i64 0,.int .i64 1125899906842624]::L) λ_ _=>DN N i b=some r) ?_ ?_))
  ·
   refine WF.loopF (λn1=>λa w=>∃(af:Int),IV B S9 be (128,[]) a w [(41,.int .i64 (↑b.Vol.length:Int)),(40,ed),(5,.pointer (some ⟨ad,0,none⟩)),(3,q8),(2,q1),(42,.int .i64 af)] (Bx ad 51 [.int .i64 0,.int .i64 1125899906842624]::L) λ_ _=>AB af∧DL N b (DN N i b) n1 af=some r) N ?_ ?_ ?_
   ·
    intro aa ww hf hw
    exact⟨0,_,_,hf.sub (kp [41,40,5,3,2,42] O),hw,a2,(Bc.refl S9 be),(iq (n:=0) O),E⟩
   ·
    rintro aa ww ⟨_,_,_,_,_,_,_,_,E⟩
    rw[DL] at E;cases E
   ·
    rintro n1 aa ww ⟨af,gl,gm,hf,hw,ag,a1,gp,E⟩
    refine WF.run ?_ hf hw
    clear hf hw ww aa
    rw[DL] at E
    refine WF.seq (WF.rp (.inl O) (QF.lss O O O (AA (kp [43,41,40,5,3,2,42] O) (WF.seq (WF.if_ O (λbf=>?_) (λbf=>?_))))))
    ·
     have E:=A0 bf E
     refine WF.skip (WF.seq (WF.block (WF.seq (WF.rl (LF.q 2 ?_)))))
     have ee:=cf.mono' a1
     obtain⟨M,cg,E⟩:=bd E
     refine QF.ixe O O ee FM cg O λgq ef=>QF.ld Af ag.1 O ef Ag (λe=>by cases e) O λgr eg=>AG (LF.al Ee O ag λgs gu ch bg=>?_)
     have eh:=eg.mono bg
     obtain⟨rfl,⟨ci,cj⟩⟩:=AF.ex eh
     refine Ad (vs:=[.int .i64 M.Lo,.int .i64 M.Hi]) O O O O Ag O ch .head O λgv X ck=>LF.nil (kp [7,41,40,5,3,2,42] O) (WF.seq (WF.rc (.inl O) X (QF.ldo (vs:=[.int .i64 M.Lo,.int .i64 M.Hi]) Ai X O mh O O Ag O O ?_)))
     obtain⟨ei,cl,E⟩:=bd E
     refine Aa O O O OX O (λh' o=>Fg (St.all h') (AF.mk (x:=M) ⟨ci,cj⟩) cl) (QF.not O O (QF.mv O O ?_))
     obtain⟨ej,t,E⟩:=bd E
     refine QF.cutv 5 54 (.bool ej) ?_ ?_
     ·
      cases cm:(!ei)
      ·
       have t:=A3 cm t
       refine QF.gy O O O (QF.ldo (vs:=[.int .i64 M.Lo,.int .i64 M.Hi]) Ai X O mh O O Ag O O (QF.gy O O O (QF.ldo (vs:=[.int .i64 0,.int .i64 1125899906842624]) Ai X O (mt mh) O O Ag O O (QF.gy O O O ?_))))
       obtain⟨gw,cn,t⟩:=bd t
       refine Aa O O O Ul O (λh' o=>Hx (St.all h') (AF.mk (x:=M) ⟨ci,cj⟩) (AF.mk (x:=(⟨0,1125899906842624⟩:AD)) ⟨(iq (n:=0) O),(iq (n:=1125899906842624) O)⟩) cn) (QF.gy O O O (QF.not O O (QF.pick O O O ?_)))
       cases t
       exact AH O
      ·
       have t:=A0 cm t
       cases t
       exact AK O O
     refine Ak (kp [54,41,40,5,3,2,42] O) λgx a3 co=>WF.if_ O (λbh=>?_) (λbh=>?_)
     ·
      have E:=A0 bh E
      refine WF.seq (WF.rp (.inl O) (QF.as_ O O (AA (kp [4] O) (WF.ret (λaa ww hf hw=>?_)))))
      have cp:=a3.sel [] 2 O
      cases E
      have cq:=e5.trans (C.trans (J.trans (K.trans (a1.trans (bg.trans (ck.trans co))))))
      exact DD hf hw O O cq ⟨O,cp⟩
     ·
      have E:=A3 bh E
      refine WF.skip (Ap (WF.rp (.inl O) (QF.addw O O O (QF.mv O O (AA (kp [42,41,40,5,3,2] O) (WF.nil (λaa ww hf hw=>?_)))))))
      have cr:=a3.sel [1] 1 O
      have ct:=a1.trans (bg.trans (ck.trans co))
      exact⟨(Aw (af+1)),_,_,hf.sub (kp [41,40,5,3,2,42] O),hw,cr,ct,(BA _),E⟩
    ·
     have E:=A3 bf E
     refine WF.exit O (λaa ww hf hw=>?_)
     exact⟨_,_,hf.sub (kp [5,3,2] O),hw,ag,a1,E⟩
  ·
   rintro aa ww ⟨bi,ah,hf,hw,ai,y,E⟩
   refine WF.run ?_ hf hw
   clear hf hw ww aa
   rw[DN] at E
   refine WF.seq (WF.seq (WF.rp (.inl O) ?_))
   have Y:=ce.mono y
   refine QF.fa O Y K4 Ke O λek cu=>QF.ldl Af ai.1 O cu OE O λcv a4=>QF.len O a4 Fc O λel=>QF.mv O O (AA (kp [59,58,57,5,3,2] O) (WF.blockJ (λa w=>IV B bi ah (128,[]) a w [(3,q8),(2,q1)] (L) λ_ _=>DM N i b=some r) ?_ ?_))
   ·
    refine WF.loopF (λn3=>λa w=>∃(D:Int),IV B bi ah (128,[]) a w [(58,.int .i64 (↑b.Queue.length:Int)),(57,cv),(5,.pointer (some ⟨ad,0,none⟩)),(3,q8),(2,q1),(59,.int .i64 D)] (Bx ad 51 [.int .i64 0,.int .i64 1125899906842624]::L) λ_ _=>AB D∧DK N i b (DM N i b) n3 D=some r) N ?_ ?_ ?_
    ·
     intro aa ww hf hw
     exact⟨0,_,_,hf.sub (kp [58,57,5,3,2,59] O),hw,ai,(Bc.refl bi ah),(iq (n:=0) O),E⟩
    ·
     rintro aa ww ⟨_,_,_,_,_,_,_,_,E⟩
     rw[DK] at E;cases E
    ·
     rintro n3 aa ww ⟨D,em,en,hf,hw,V,u,eo,E⟩
     refine WF.run ?_ hf hw
     clear hf hw ww aa
     rw[DK] at E
     refine WF.seq (WF.rp (.inl O) (QF.lss O O O (AA (kp [60,58,57,5,3,2,59] O) (WF.seq (WF.if_ O (λaj=>?_) (λaj=>?_))))))
     ·
      have E:=A0 aj E
      refine WF.skip (WF.seq (WF.block (WF.seq (WF.rl (LF.q 3 (QF.mv O O ?_))))))
      have cw:=a4.mono' u
      obtain⟨c,bj,E⟩:=bd E
      refine QF.ixe O O cw Fc bj O λep cx=>QF.ld Af V.1 O cx Jz (λe=>by cases e) O λeq cy=>AG (LF.al WN O V λer es bk z=>LF.q 1 (QF.as_ O O (AG ?_)))
      have cz:=cy.mono z
      obtain⟨rfl,⟨c0,a5,ak,am⟩⟩:=BS.ex cz
      refine Ad (vs:=[.int .i64 c.At,.int .i64 c.To,.int .i64 c.Vol.Lo,.int .i64 c.Vol.Hi]) O O O O Jz O bk .head O λet g F=>LF.nil (kp [8,9,58,57,5,3,2,59] O) (WF.seq (WF.seq (WF.rc (.inl O) g (QF.fao O Kc O (QF.ldo (vs:=[.int .i64 c.Vol.Lo,.int .i64 c.Vol.Hi]) Ai g O mh O O Ag O O ?_)))))
      obtain⟨c1,bl,E⟩:=bd E
      refine Aa O O O OX O (λh' o=>Fg (St.all h') (AF.mk (x:=c.Vol) ⟨ak,am⟩) bl) (QF.not O O (QF.mv O O ?_))
      obtain⟨G,j,E⟩:=bd E
      refine QF.cutv 6 74 (.bool G) ?_ ?_
      ·
       cases a6:(!c1)
       ·
        have j:=A3 a6 j
        refine QF.gy O O O (QF.fao O Kc O (QF.gy O O O (QF.ldo (vs:=[.int .i64 c.Vol.Lo,.int .i64 c.Vol.Hi]) Ai g O mh O O Ag O O (QF.gy O O O (QF.ldo (vs:=[.int .i64 0,.int .i64 1125899906842624]) Ai g O (mt mh) O O Ag O O (QF.gy O O O ?_))))))
        obtain⟨eu,bm,j⟩:=bd j
        refine Aa O O O Ul O (λh' o=>Hx (St.all h') (AF.mk (x:=c.Vol) ⟨ak,am⟩) (AF.mk (x:=(⟨0,1125899906842624⟩:AD)) ⟨(iq (n:=0) O),(iq (n:=1125899906842624) O)⟩) bm) (QF.gy O O O (QF.not O O (QF.pick O O O ?_)))
        cases j
        exact AH O
       ·
        have j:=A0 a6 j
        cases j
        exact AK O O
      refine QF.mv O O (QF.cutv 5 80 (.bool (G||(decide (c.Vol.Hi≤0)))) ?_ ?_)
      ·
       cases ev:G
       ·exact QF.gy O O O (QF.fao O Kc O (QF.gy O O O (QF.fao O Cn O (QF.gy O O O (AI Ai g O mh O AL O (QF.gy O O O (QF.leq O O O (QF.pick O O O (AH O)))))))))
       ·exact AK O O
      refine QF.mv O O (QF.cutv 6 87 (.bool ((G||(decide (c.Vol.Hi≤0)))||(decide (c.At<b.Hour)))) ?_ ?_)
      ·
       cases ew:(G||(decide (c.Vol.Hi≤0)))
       ·
        refine QF.gy O O O (QF.fao O M4 O (QF.gy O O O (AI Ai g O mh O AL O (QF.gy O O O ?_))))
        have bn:=u.trans (z.trans F)
        have c2:=Y.mono bn
        exact QF.fa O c2 JY Iq O λey c3=>QF.gy O O O (QF.ldi Ai g.1 O c3 AL O λez=>QF.gy O O O (QF.lss O O O (QF.pick O O O (AH O))))
       ·exact AK O O
      refine QF.mv O O ?_
      obtain⟨c4,k,E⟩:=bd E
      refine QF.cutv 8 96 (.bool c4) ?_ ?_
      ·
       cases a7:((G||(decide (c.Vol.Hi≤0)))||(decide (c.At<b.Hour)))
       ·
        have k:=A3 a7 k
        refine QF.gy O O O (QF.fao O Lr O (QF.gy O O O (AI Ai g O mh O AL O (QF.gy O O O ?_))))
        have bo:=C.trans (J.trans (K.trans (y.trans (u.trans (z.trans F)))))
        have c5:=k6.mono bo
        refine QF.fa O c5 A4 DW O λe0 c6=>QF.gy O O O (QF.ldl Ai g.1 O c6 Ff O λe1 c7=>QF.gy O O O (QF.len O c7 E5 O λc8=>QF.gy O O O ?_))
        obtain⟨e2,bp,k⟩:=bd k
        refine Aa O O O QL O (λh' o=>GU (St.all h') a5 (Jk c8) bp) (QF.gy O O O (QF.not O O (QF.pick O O O ?_)))
        cases k
        exact AH O
       ·
        have k:=A0 a7 k
        cases k
        exact AK O O
      refine Ak (kp [96,8,9,58,57,5,3,2,59] O) λe3 p Z=>WF.if_ O (λan=>?_) (λan=>?_)
      ·
       have E:=A0 an E
       refine WF.seq (WF.rp (.inl O) (QF.as_ O O (AA (kp [4] O) (WF.ret (λaa ww hf hw=>?_)))))
       have bq:=p.sel [] 2 O
       cases E
       have br:=e5.trans (C.trans (J.trans (K.trans (y.trans (u.trans (z.trans (F.trans Z)))))))
       exact DD hf hw O O br ⟨O,bq⟩
      ·
       have E:=A3 an E
       refine WF.skip (WF.seq (WF.rc (.inr ⟨mo,by kernel_rfl⟩) p (QF.mv O O (QF.gtr O O O (QF.mv O O ?_)))))
       obtain⟨c9,d,E⟩:=bd E
       refine QF.cutv 10 109 (.bool c9) ?_ ?_
       ·
        cases a8:(decide (0<D))
        ·
         have d:=A3 a8 d
         cases d
         exact AK O O
        ·
         have d:=A0 a8 d
         refine QF.gy O O O ?_
         have bt:=u.trans (z.trans (F.trans Z))
         have da:=Y.mono bt
         refine QF.fa O da K4 Ke O λe4 db=>QF.gy O O O (QF.ldl Ai p.1 O db OE O λe6 dc=>QF.gy O O O (QF.mv O O (QF.gy O O O (QF.subw O O O (QF.gy O O O ?_)))))
         obtain⟨e7,bu,d⟩:=bd d
         refine QF.ixe O O dc Fc bu O λe8 dd=>QF.gy O O O (QF.ld Ai p.1 O dd Jz (λe=>by cases e) O λe9 de=>QF.gy O O O (QF.ldo (vs:=[.int .i64 c.At,.int .i64 c.To,.int .i64 c.Vol.Lo,.int .i64 c.Vol.Hi]) Ai p O mh O O Jz O O (QF.gy O O O ?_)))
         obtain⟨fb,bv,d⟩:=bd d
         refine Ao O O O Wh O (λh' o=>J7 (St.all h') (de.mono (o.all p.1)) (BS.mk (x:=c) ⟨c0,a5,ak,am⟩) bv) λdf=>?_
         have fc:=df
         refine QF.gy O O O (QF.geq O O O (QF.pick O O O ?_))
         cases d
         exact AH O
       refine Ak (kp [109,58,57,5,3,2,59] O) λfd ao a9=>WF.if_ O (λap=>?_) (λap=>?_)
       ·
        have E:=A0 ap E
        refine WF.seq (WF.rp (.inl O) (QF.as_ O O (AA (kp [4] O) (WF.ret (λaa ww hf hw=>?_)))))
        have bw:=ao.sel [] 2 O
        cases E
        have bx:=e5.trans (C.trans (J.trans (K.trans (y.trans (u.trans (z.trans (F.trans (Z.trans a9))))))))
        exact DD hf hw O O bx ⟨O,bw⟩
       ·
        have E:=A3 ap E
        refine WF.skip (Ap (WF.rp (.inl O) (QF.addw O O O (QF.mv O O (AA (kp [59,58,57,5,3,2] O) (WF.nil (λaa ww hf hw=>?_)))))))
        have bz:=ao.sel [1] 1 O
        have b0:=u.trans (z.trans (F.trans (Z.trans a9)))
        exact⟨(Aw (D+1)),_,_,hf.sub (kp [58,57,5,3,2,59] O),hw,bz,b0,(BA _),E⟩
     ·
      have E:=A3 aj E
      refine WF.exit O (λaa ww hf hw=>?_)
      have b1:=V.drop .head
      exact⟨_,_,hf.sub (kp [3,2] O),hw,b1,u,E⟩
   ·
    rintro aa ww ⟨aq,ar,hf,hw,au,ab,E⟩
    refine WF.run ?_ hf hw
    clear hf hw ww aa
    rw[DM] at E
    refine WF.seq (WF.seq (WF.rp (.inl O) ?_))
    have dg:=Y.mono ab
    refine QF.fa O dg BT.f_Links Gv O λfe dh=>QF.ldl Af au.1 O dh JZ O λdi ba=>QF.len O ba J2 O λff=>QF.mv O O (AA (kp [114,113,112,2] O) (WF.blockJ (λa w=>IV B aq ar (128,[]) a w [] (L) λ_ _=>Dq N=some r) ?_ ?_))
    ·
     refine WF.loopF (λn5=>λa w=>∃(Q:Int),IV B aq ar (128,[]) a w [(113,.int .i64 (↑b.Links.length:Int)),(112,di),(2,q1),(114,.int .i64 Q)] (L) λ_ _=>AB Q∧DJ N i b (Dq N) n5 Q=some r) N ?_ ?_ ?_
     ·
      intro aa ww hf hw
      exact⟨0,_,_,hf.sub (kp [113,112,2,114] O),hw,au,(Bc.refl aq ar),(iq (n:=0) O),E⟩
     ·
      rintro aa ww ⟨_,_,_,_,_,_,_,_,E⟩
      rw[DJ] at E;cases E
     ·
      rintro n5 aa ww ⟨Q,fg,fh,hf,hw,W,U,fi,E⟩
      refine WF.run ?_ hf hw
      clear hf hw ww aa
      rw[DJ] at E
      refine WF.seq (WF.rp (.inl O) (QF.lss O O O (AA (kp [115,113,112,2,114] O) (WF.seq (WF.if_ O (λav=>?_) (λav=>?_))))))
      ·
       have E:=A0 av E
       refine WF.skip (WF.seq (WF.block (WF.seq (WF.rl (LF.q 3 (QF.mv O O ?_))))))
       have dj:=ba.mono' U
       obtain⟨m,b2,E⟩:=bd E
       refine QF.ixe O O dj J2 b2 O λfj dk=>QF.ld Af W.1 O dk Gj (λe=>by cases e) O λfk dl=>AG (LF.al RE O W λfl fm b3 ac=>LF.q 1 (QF.as_ O O (AG ?_)))
       have dm:=dl.mono ac
       obtain⟨rfl,⟨dn,dp,dq,dr,ds⟩⟩:=AZ.ex dm
       refine Ad (vs:=[.int .i64 m.Pos.Lo,.int .i64 m.Pos.Hi,.int .i64 m.Target,.int .i64 m.Open.Lo,.int .i64 m.Open.Hi]) O O O O Gj O b3 .head O λfn A aw=>LF.nil (kp [10,11,113,112,2,114] O) (WF.seq (WF.rc (.inr ⟨mo,by kernel_rfl⟩) A ?_))
       have b4:=C.trans (J.trans (K.trans (y.trans (ab.trans (U.trans (ac.trans aw))))))
       have dt:=k6.mono b4
       refine QF.fa O dt AJ.f_Links FP O λfo du=>QF.ldl Ai A.1 O du Ho O λfp dv=>QF.mv O O ?_
       obtain⟨fq,b5,E⟩:=bd E
       refine QF.ixe O O dv GO b5 O λfr dw=>QF.ld Ai A.1 O dw Du (λe=>by cases e) O λfs dx=>QF.ldo (vs:=[.int .i64 m.Pos.Lo,.int .i64 m.Pos.Hi,.int .i64 m.Target,.int .i64 m.Open.Lo,.int .i64 m.Open.Hi]) Ai A O mh O O Gj O O ?_
       obtain⟨ft,b6,E⟩:=bd E
       refine Aa O O O ZW O (λh' o=>LJ (St.all h') (dx.mono (o.all A.1)) (AZ.mk (x:=m) ⟨dn,dp,dq,dr,ds⟩) b6) (QF.not O O (Ak (kp [126,113,112,2,114] O) λfu ax bb=>WF.if_ O (λay=>?_) (λay=>?_)))
       ·
        have E:=A0 ay E
        refine WF.seq (WF.rp (.inl O) (QF.as_ O O (AA (kp [4] O) (WF.ret (λaa ww hf hw=>?_)))))
        have b7:=ax.drop .head
        cases E
        have b8:=e5.trans (C.trans (J.trans (K.trans (y.trans (ab.trans (U.trans (ac.trans (aw.trans bb))))))))
        exact DD hf hw O O b8 ⟨O,b7⟩
       ·
        have E:=A3 ay E
        refine WF.skip (Ap (WF.rp (.inl O) (QF.addw O O O (QF.mv O O (AA (kp [114,113,112,2] O) (WF.nil (λaa ww hf hw=>?_)))))))
        have b9:=ax.drop .head
        have ca:=U.trans (ac.trans (aw.trans bb))
        exact⟨(Aw (Q+1)),_,_,hf.sub (kp [113,112,2,114] O),hw,b9,ca,(BA _),E⟩
      ·
       have E:=A3 av E
       refine WF.exit O (λaa ww hf hw=>?_)
       exact⟨_,_,hf.sub JH,hw,W,U,E⟩
    ·
     rintro aa ww ⟨fv,fw,hf,hw,cb,dy,E⟩
     refine WF.run ?_ hf hw
     clear hf hw ww aa
     rw[Dq] at E
     refine WF.seq (WF.rp (.inl O) (QF.as_ O O (AA (kp [4] O) (WF.ret (λaa ww hf hw=>?_)))))
     cases E
     have cc:=e5.trans (C.trans (J.trans (K.trans (y.trans (ab.trans dy)))))
     exact DD hf hw O O cc ⟨O,cb⟩
end Go.Proofs.YtibidnaedddfdaaGreat
