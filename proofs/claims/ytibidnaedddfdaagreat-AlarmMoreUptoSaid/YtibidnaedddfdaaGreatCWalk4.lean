import Derived.Test.YtibidnaedddfdaaGreatCWalk3
namespace Go.Proofs.YtibidnaedddfdaaGreat
open Go.RowKit
set_option linter.unusedVariables false
set_option linter.unusedSimpArgs false
set_option maxRecDepth 10000
set_option maxHeartbeats 2000000
variable {N:Nat}{S:Nat→Prop}{L:List HP}{h:AX}
theorem Js (hs:St S L h) {d:Value}{a:AQ}(g:Rd S h A9 d a) {r:Bool}(E:Dc N a=some r):
 Bf Tryz.prog 94 #[d] S h (λv S' h'=>v= .bool r∧St S' (L) h'):=by
 refine Ab (l:=[d]) 112 Tryz.func94 O Tryz.ntmps94 O λB=>?_
 rw[Dc] at E
 refine WF.seq (WF.rl (LF.boxp O g (λe=>by cases e) O hs λq1 S2 h3 b o c=>LF.q 1 (QF.as_ O O (AG (LF.nil (kp [1] O) (WF.seq (WF.rp (.inl O) (QF.fa O c AQ.f_Kind Do O λq7 Z=>QF.ldi Af b.1 O Z AL O λr9=>QF.eql O O O (QF.as_ O O (AA (kp [3,1] O) ?_))))))))))
 refine WF.seq (WF.seq (WF.rp (.inl O) (QF.mv O O (QF.not O O (QF.mv O O (QF.cutv 24 33 (.bool ((!(decide (a.Kind=0)))&&((((decide (0<(↑a.Rate.length:Int)))||(decide (0<(↑a.Band.Lo.length:Int))))||(decide (0<(↑a.Band.Hi.length:Int))))||(decide (a.Leak≠0))))) ?_ ?_))))))
 ·
  cases ab:(!(decide (a.Kind=0)))
  ·exact AK O O
  ·
   refine QF.gy O O O (QF.fa O c II KD O λac p=>QF.gy O O O (QF.ldl Af b.1 O p GN O λad s=>QF.gy O O O (QF.len O s F8 O λae=>QF.gy O O O (QF.gtr O O O (QF.gy O O O (QF.mv O O (QF.cutv 6 20 (.bool ((decide (0<(↑a.Rate.length:Int)))||(decide (0<(↑a.Band.Lo.length:Int))))) ?_ ?_)))))))
   ·
    cases af:(decide (0<(↑a.Rate.length:Int)))
    ·exact QF.gy O O O (QF.fa O c FX Gq O λag t=>QF.gy O O O (QF.fa O t Ih.f_Lo KF O λah u=>QF.gy O O O (QF.ldl Af b.1 O u GN O λai w=>QF.gy O O O (QF.len O w F8 O λaj=>QF.gy O O O (QF.gtr O O O (QF.gy O O O (QF.pick O O O (AH O))))))))
    ·exact AK O O
   refine QF.gy O O O (QF.mv O O (QF.cutv 6 27 (.bool (((decide (0<(↑a.Rate.length:Int)))||(decide (0<(↑a.Band.Lo.length:Int))))||(decide (0<(↑a.Band.Hi.length:Int))))) ?_ ?_))
   ·
    cases ak:((decide (0<(↑a.Rate.length:Int)))||(decide (0<(↑a.Band.Lo.length:Int))))
    ·exact QF.gy O O O (QF.fa O c FX Gq O λam x=>QF.gy O O O (QF.fa O x Ih.f_Hi KE O λan y=>QF.gy O O O (QF.ldl Af b.1 O y GN O λao z=>QF.gy O O O (QF.len O z F8 O λap=>QF.gy O O O (QF.gtr O O O (QF.gy O O O (QF.pick O O O (AH O))))))))
    ·exact AK O O
   refine QF.gy O O O (QF.mv O O (QF.cutv 4 32 (.bool ((((decide (0<(↑a.Rate.length:Int)))||(decide (0<(↑a.Band.Lo.length:Int))))||(decide (0<(↑a.Band.Hi.length:Int))))||(decide (a.Leak≠0)))) ?_ ?_))
   ·
    cases aq:(((decide (0<(↑a.Rate.length:Int)))||(decide (0<(↑a.Band.Lo.length:Int))))||(decide (0<(↑a.Band.Hi.length:Int))))
    ·exact QF.gy O O O (QF.fa O c JX Nd O λar A=>QF.gy O O O (QF.ldi Af b.1 O A AL O λau=>QF.gy O O O (QF.neq O O O (QF.gy O O O (QF.pick O O O (AH O))))))
    ·exact AK O O
   exact QF.pick O O O (AH O)
 refine AA (kp [33,3,1] O) (WF.if_ O (λi=>?_) (λi=>?_))
 ·
  have E:=A0 i E
  refine WF.seq (WF.rp (.inl O) (QF.as_ O O (AA (kp [2] O) (WF.ret (λaa ww hf hw=>?_)))))
  cases E
  exact DD hf hw O O o ⟨O,b⟩
 ·
  have E:=A3 i E
  refine WF.skip (WF.seq (WF.seq (WF.rp (.inl O) (QF.mv O O (QF.not O O (QF.mv O O (QF.cutv 4 40 (.bool ((!(decide (a.Kind=0)))&&(decide (a.Kind≠2)))) ?_ ?_)))))))
  ·
   cases av:(!(decide (a.Kind=0)))
   ·exact AK O O
   ·exact QF.gy O O O (QF.fa O c AQ.f_Kind Do O λaw C=>QF.gy O O O (QF.ldi Af b.1 O C AL O λax=>QF.gy O O O (QF.neq O O O (QF.pick O O O (AH O)))))
  refine QF.mv O O (QF.cutv 9 50 (.bool (((!(decide (a.Kind=0)))&&(decide (a.Kind≠2)))&&((decide (a.Positions≠0))||(decide (a.Speed≠0))))) ?_ ?_)
  ·
   cases ay:((!(decide (a.Kind=0)))&&(decide (a.Kind≠2)))
   ·exact AK O O
   ·
    refine QF.gy O O O (QF.fa O c B0 GA O λaz D=>QF.gy O O O (QF.ldi Af b.1 O D AL O λa0=>QF.gy O O O (QF.neq O O O (QF.gy O O O (QF.mv O O (QF.cutv 4 49 (.bool ((decide (a.Positions≠0))||(decide (a.Speed≠0)))) ?_ ?_))))))
    ·
     cases a1:(decide (a.Positions≠0))
     ·exact QF.gy O O O (QF.fa O c Fa IQ O λa2 F=>QF.gy O O O (QF.ldi Af b.1 O F AL O λa3=>QF.gy O O O (QF.neq O O O (QF.gy O O O (QF.pick O O O (AH O))))))
     ·exact AK O O
    exact QF.pick O O O (AH O)
  refine AA (kp [50,3,1] O) (WF.if_ O (λj=>?_) (λj=>?_))
  ·
   have E:=A0 j E
   refine WF.seq (WF.rp (.inl O) (QF.as_ O O (AA (kp [2] O) (WF.ret (λaa ww hf hw=>?_)))))
   cases E
   exact DD hf hw O O o ⟨O,b⟩
  ·
   have E:=A3 j E
   refine WF.skip (WF.seq (WF.seq (WF.rp (.inl O) (QF.fa O c AQ.f_Kind Do O λa4 G=>QF.ldi Af b.1 O G AL O λa5=>QF.neq O O O (QF.mv O O (QF.cutv 4 58 (.bool ((decide (a.Kind≠1))&&(decide (a.Kind≠5)))) ?_ ?_))))))
   ·
    cases a6:(decide (a.Kind≠1))
    ·exact AK O O
    ·exact QF.gy O O O (QF.fa O c AQ.f_Kind Do O λa7 H=>QF.gy O O O (QF.ldi Af b.1 O H AL O λa8=>QF.gy O O O (QF.neq O O O (QF.pick O O O (AH O)))))
   refine QF.mv O O (QF.cutv 4 63 (.bool (((decide (a.Kind≠1))&&(decide (a.Kind≠5)))&&(decide (a.Crest≠0)))) ?_ ?_)
   ·
    cases a9:((decide (a.Kind≠1))&&(decide (a.Kind≠5)))
    ·exact AK O O
    ·exact QF.gy O O O (QF.fa O c AQ.f_Crest Nc O λba I=>QF.gy O O O (QF.ldi Af b.1 O I AL O λbb=>QF.gy O O O (QF.neq O O O (QF.pick O O O (AH O)))))
   refine AA (kp [63,3,1] O) (WF.if_ O (λk=>?_) (λk=>?_))
   ·
    have E:=A0 k E
    refine WF.seq (WF.rp (.inl O) (QF.as_ O O (AA (kp [2] O) (WF.ret (λaa ww hf hw=>?_)))))
    cases E
    exact DD hf hw O O o ⟨O,b⟩
   ·
    have E:=A3 k E
    refine WF.skip (WF.seq (WF.seq (WF.rp (.inl O) (QF.mv O O (QF.mv O O (QF.cutv 4 69 (.bool ((decide (a.Kind=0))&&(decide (a.Num≠0)))) ?_ ?_))))))
    ·
     cases bc:(decide (a.Kind=0))
     ·exact AK O O
     ·exact QF.gy O O O (QF.fa O c AQ.f_Num Fm O λbe J=>QF.gy O O O (QF.ldi Af b.1 O J AL O λbf=>QF.gy O O O (QF.neq O O O (QF.pick O O O (AH O)))))
    refine QF.mv O O (QF.cutv 12 82 (.bool (((decide (a.Kind=0))&&(decide (a.Num≠0)))||(((decide (a.Kind=0))||(decide (a.Kind=2)))&&(decide (a.Den≠0))))) ?_ ?_)
    ·
     cases bg:((decide (a.Kind=0))&&(decide (a.Num≠0)))
     ·
      refine QF.gy O O O (QF.mv O O (QF.gy O O O (QF.mv O O (QF.cutv 4 76 (.bool ((decide (a.Kind=0))||(decide (a.Kind=2)))) ?_ ?_))))
      ·
       cases bh:(decide (a.Kind=0))
       ·exact QF.gy O O O (QF.fa O c AQ.f_Kind Do O λbi K=>QF.gy O O O (QF.ldi Af b.1 O K AL O λbj=>QF.gy O O O (QF.eql O O O (QF.gy O O O (QF.pick O O O (AH O))))))
       ·exact AK O O
      refine QF.gy O O O (QF.mv O O (QF.cutv 4 81 (.bool (((decide (a.Kind=0))||(decide (a.Kind=2)))&&(decide (a.Den≠0)))) ?_ ?_))
      ·
       cases bk:((decide (a.Kind=0))||(decide (a.Kind=2)))
       ·exact AK O O
       ·exact QF.gy O O O (QF.fa O c AQ.f_Den Gh O λbl M=>QF.gy O O O (QF.ldi Af b.1 O M AL O λbm=>QF.gy O O O (QF.neq O O O (QF.gy O O O (QF.pick O O O (AH O))))))
      exact QF.pick O O O (AH O)
     ·exact AK O O
    refine AA (kp [82,3,1] O) (WF.if_ O (λm=>?_) (λm=>?_))
    ·
     have E:=A0 m E
     refine WF.seq (WF.rp (.inl O) (QF.as_ O O (AA (kp [2] O) (WF.ret (λaa ww hf hw=>?_)))))
     cases E
     exact DD hf hw O O o ⟨O,b⟩
    ·
     have E:=A3 m E
     refine WF.skip (WF.seq (WF.seq (WF.rp (.inl O) (QF.fa O c AQ.f_Kind Do O λbn Q=>QF.ldi Af b.1 O Q AL O λbo=>QF.neq O O O (QF.mv O O (QF.cutv 9 95 (.bool ((decide (a.Kind≠3))&&((decide (a.Prime≠0))||(decide (a.Break≠0))))) ?_ ?_))))))
     ·
      cases bp:(decide (a.Kind≠3))
      ·exact AK O O
      ·
       refine QF.gy O O O (QF.fa O c Hm Kh O λbq U=>QF.gy O O O (QF.ldi Af b.1 O U AL O λbr=>QF.gy O O O (QF.neq O O O (QF.gy O O O (QF.mv O O (QF.cutv 4 94 (.bool ((decide (a.Prime≠0))||(decide (a.Break≠0)))) ?_ ?_))))))
       ·
        cases bt:(decide (a.Prime≠0))
        ·exact QF.gy O O O (QF.fa O c Fb HY O λbu V=>QF.gy O O O (QF.ldi Af b.1 O V AL O λbv=>QF.gy O O O (QF.neq O O O (QF.gy O O O (QF.pick O O O (AH O))))))
        ·exact AK O O
       exact QF.pick O O O (AH O)
     refine AA (kp [95,3,1] O) (WF.if_ O (λn=>?_) (λn=>?_))
     ·
      have E:=A0 n E
      refine WF.seq (WF.rp (.inl O) (QF.as_ O O (AA (kp [2] O) (WF.ret (λaa ww hf hw=>?_)))))
      cases E
      exact DD hf hw O O o ⟨O,b⟩
     ·
      have E:=A3 n E
      refine WF.skip (WF.seq (WF.rp (.inl O) (QF.mv O O (QF.mv O O (QF.cutv 4 101 (.bool ((decide (a.Kind=0))||(decide (a.Kind=4)))) ?_ ?_)))))
      ·
       cases bw:(decide (a.Kind=0))
       ·exact QF.gy O O O (QF.fa O c AQ.f_Kind Do O λbx W=>QF.gy O O O (QF.ldi Af b.1 O W AL O λbz=>QF.gy O O O (QF.eql O O O (QF.pick O O O (AH O)))))
       ·exact AK O O
      refine QF.mv O O (QF.cutv 9 111 (.bool (((decide (a.Kind=0))||(decide (a.Kind=4)))||((decide (a.BackNum=0))&&(decide (a.BackDen=0))))) ?_ ?_)
      ·
       cases b0:((decide (a.Kind=0))||(decide (a.Kind=4)))
       ·
        refine QF.gy O O O (QF.fa O c GH HX O λb1 X=>QF.gy O O O (QF.ldi Af b.1 O X AL O λb2=>QF.gy O O O (QF.eql O O O (QF.gy O O O (QF.mv O O (QF.cutv 4 110 (.bool ((decide (a.BackNum=0))&&(decide (a.BackDen=0)))) ?_ ?_))))))
        ·
         cases b3:(decide (a.BackNum=0))
         ·exact AK O O
         ·exact QF.gy O O O (QF.fa O c FL G9 O λb4 Y=>QF.gy O O O (QF.ldi Af b.1 O Y AL O λb5=>QF.gy O O O (QF.eql O O O (QF.gy O O O (QF.pick O O O (AH O))))))
        exact QF.pick O O O (AH O)
       ·exact AK O O
      refine QF.as_ O O (AA (kp [2] O) (WF.ret (λaa ww hf hw=>?_)))
      cases E
      exact DD hf hw O O o ⟨O,b⟩
theorem KN (hs:St S L h) {p:Value}{s:AJ}(A:Rd S h BV p s) {r:Bool}(E:DH N s=some r):
 Bf Tryz.prog 39 #[p] S h (λv S' h'=>v= .bool r∧St S' (L) h'):=by
 refine Ab (l:=[p]) 51 Tryz.func39 O Tryz.ntmps39 O λB=>?_
 rw[DH] at E
 refine WF.seq (WF.rl (LF.boxp O A (λe=>by cases e) O hs λq1 S2 h3 ad e5 k6=>LF.q 1 (QF.as_ O O (AG (LF.nil (kp [1] O) (WF.seq (WF.seq (WF.rp (.inl O) (QF.fa O k6 AJ.f_Links FP O λq7 k8=>QF.ldl Af ad.1 O k8 Ho O λv9 ae=>QF.len O ae GO O λb1=>QF.mv O O ?_)))))))))
 refine AA (kp [8,7,6,1] O) (WF.blockJ (λa w=>IV B S2 h3 (51,[]) a w [] (L) λ_ _=>CA N=some r) ?_ ?_)
 ·
  refine WF.loopF (λn1=>λa w=>∃(u:Int),IV B S2 h3 (51,[]) a w [(7,.int .i64 (↑s.Links.length:Int)),(6,v9),(1,q1),(8,.int .i64 u)] (L) λ_ _=>AB u∧BR N s (CA N) n1 u=some r) N ?_ ?_ ?_
  ·
   intro aa ww hf hw
   exact⟨0,_,_,hf.sub (kp [7,6,1,8] O),hw,ad,(Bc.refl S2 h3),(iq (n:=0) O),E⟩
  ·
   rintro aa ww ⟨_,_,_,_,_,_,_,_,E⟩
   rw[BR] at E;cases E
  ·
   rintro n1 aa ww ⟨u,b2,b3,hf,hw,y,t,b4,E⟩
   refine WF.run ?_ hf hw
   clear hf hw ww aa
   rw[BR] at E
   refine WF.seq (WF.rp (.inl O) (QF.lss O O O (AA (kp [9,7,6,1,8] O) (WF.seq (WF.if_ O (λI=>?_) (λI=>?_))))))
   ·
    have E:=A0 I E
    refine WF.skip (WF.seq (WF.block (WF.seq (WF.rl (LF.q 2 ?_)))))
    have bf:=ae.mono' t
    obtain⟨b,af,E⟩:=bd E
    refine QF.ixe O O bf GO af O λb5 bg=>QF.ld Af y.1 O bg Du (λe=>by cases e) O λb6 bh=>AG (LF.al K8 O y λb7 b8 ag z=>?_)
    have bi:=bh.mono z
    obtain⟨C,D,F,rfl,ah,J,G,K,M,Q,U,ai,aj,ak,am,an,ao,ap,aq,ar,au,V⟩:=A9.ex bi
    refine LF.st (vs:=[.string b.Name,.int .i64 b.Kind,.int .i64 b.From,.int .i64 b.To,C,D,F,.int .i64 b.Positions,.int .i64 b.Speed,.int .i64 b.Leak,.int .i64 b.Crest,.int .i64 b.Num,.int .i64 b.Den,.int .i64 b.Prime,.int .i64 b.Break,.int .i64 b.BackNum,.int .i64 b.BackDen,.int .i64 b.Delay]) (cs':=[.string b.Name,.int .i64 b.Kind,.int .i64 b.From,.int .i64 b.To,C,D,F,.int .i64 b.Positions,.int .i64 b.Speed,.int .i64 b.Leak,.int .i64 b.Crest,.int .i64 b.Num,.int .i64 b.Den,.int .i64 b.Prime,.int .i64 b.Break,.int .i64 b.BackNum,.int .i64 b.BackDen,.int .i64 b.Delay]) O O O (AC O (AC O (AC O (AC O (AC M.one (AC Q.one (AC U.one (AC O (AC O (AC O (AC O (AC O (AC O (AC O (AC O (AC O (AC O (AC O Eo)))))))))))))))))) Du O ag .head O O λb9 c m=>LF.nil (kp [4,7,6,1,8] O) (WF.seq (WF.rc (.inl O) c (QF.fao O Do O (AI Ai c O mh O AL O ?_))))
    obtain⟨bj,av,E⟩:=bd E
    refine Aa O O O Fx O (λh' o=>A8 (St.all h') J (iq (n:=0) O) (iq (n:=5) O) av) (QF.not O O (QF.mv O O ?_))
    obtain⟨aw,d,E⟩:=bd E
    refine QF.cutv 8 24 (.bool aw) ?_ ?_
    ·
     cases ax:(!bj)
     ·
      have d:=A3 ax d
      refine QF.gy O O O (QF.fao O GV O (QF.gy O O O (AI Ai c O mh O AL O (QF.gy O O O ?_))))
      have ay:=t.trans (z.trans m)
      have bk:=k6.mono ay
      refine QF.fa O bk A4 DW O λca bl=>QF.gy O O O (QF.ldl Ai c.1 O bl Ff O λcb bm=>QF.gy O O O (QF.len O bm E5 O λbn=>QF.gy O O O ?_))
      obtain⟨cc,az,d⟩:=bd d
      refine Aa O O O Nl O (λh' o=>Ek (St.all h') G (Jk bn) az) (QF.gy O O O (QF.not O O (QF.pick O O O ?_)))
      cases d
      exact AH O
     ·
      have d:=A0 ax d
      cases d
      exact AK O O
    refine QF.mv O O ?_
    obtain⟨a0,g,E⟩:=bd E
    refine QF.cutv 8 33 (.bool a0) ?_ ?_
    ·
     cases a1:aw
     ·
      have g:=A3 a1 g
      refine QF.gy O O O ?_
      have a2:=t.trans (z.trans m)
      have bo:=k6.mono a2
      refine QF.ld Ai c.1 O bo F7 (λe=>by cases e) O λcd bp=>QF.gy O O O (QF.fao O GV O (QF.gy O O O (AI Ai c O mh O AL O (QF.gy O O O (QF.fao O E6 O (QF.gy O O O (AI Ai c O mh O AL O (QF.gy O O O ?_))))))))
      obtain⟨ce,a3,g⟩:=bd g
      refine Aa O O O Wg O (λh' o=>JC (St.all h') (bp.mono (o.all c.1)) G K a3) (QF.gy O O O (QF.not O O (QF.pick O O O ?_)))
      cases g
      exact AH O
     ·
      have g:=A0 a1 g
      cases g
      exact AK O O
    refine QF.mv O O ?_
    obtain⟨a4,i,E⟩:=bd E
    refine QF.cutv 5 39 (.bool a4) ?_ ?_
    ·
     cases a5:a0
     ·
      have i:=A3 a5 i
      refine QF.gy O O O (QF.fao O Kg O (QF.gy O O O (AI Ai c O mh O AL O (QF.gy O O O ?_))))
      obtain⟨cf,a6,i⟩:=bd i
      refine Aa O O O Fx O (λh' o=>A8 (St.all h') V (iq (n:=0) O) (iq (n:=240) O) a6) (QF.gy O O O (QF.not O O (QF.pick O O O ?_)))
      cases i
      exact AH O
     ·
      have i:=A0 a5 i
      cases i
      exact AK O O
    refine QF.mv O O ?_
    obtain⟨a7,j,E⟩:=bd E
    refine QF.cutv 4 44 (.bool a7) ?_ ?_
    ·
     cases a8:a4
     ·
      have j:=A3 a8 j
      refine QF.gy O O O (QF.ldo (vs:=[.string b.Name,.int .i64 b.Kind,.int .i64 b.From,.int .i64 b.To,C,D,F,.int .i64 b.Positions,.int .i64 b.Speed,.int .i64 b.Leak,.int .i64 b.Crest,.int .i64 b.Num,.int .i64 b.Den,.int .i64 b.Prime,.int .i64 b.Break,.int .i64 b.BackNum,.int .i64 b.BackDen,.int .i64 b.Delay]) Ai c O mh O O Du O O (QF.gy O O O ?_))
      have bq:=M.mono' m
      have br:=Q.mono' m
      have bt:=U.mono' m
      obtain⟨cg,a9,j⟩:=bd j
      refine Aa O O O ZK O (λh' o=>Jw (St.all h') (A9.mk (x:=b) ah J G K (bq.mono' (o.all c.1)) (br.mono' (o.all c.1)) (bt.mono' (o.all c.1)) ai aj ak am an ao ap aq ar au V) a9) (QF.gy O O O (QF.not O O (QF.pick O O O ?_)))
      cases j
      exact AH O
     ·
      have j:=A0 a8 j
      cases j
      exact AK O O
    refine QF.mv O O ?_
    obtain⟨bu,k,E⟩:=bd E
    refine QF.cutv 4 49 (.bool bu) ?_ ?_
    ·
     cases ba:a7
     ·
      have k:=A3 ba k
      refine QF.gy O O O (QF.ldo (vs:=[.string b.Name,.int .i64 b.Kind,.int .i64 b.From,.int .i64 b.To,C,D,F,.int .i64 b.Positions,.int .i64 b.Speed,.int .i64 b.Leak,.int .i64 b.Crest,.int .i64 b.Num,.int .i64 b.Den,.int .i64 b.Prime,.int .i64 b.Break,.int .i64 b.BackNum,.int .i64 b.BackDen,.int .i64 b.Delay]) Ai c O mh O O Du O O (QF.gy O O O ?_))
      have bv:=M.mono' m
      have bw:=Q.mono' m
      have bx:=U.mono' m
      obtain⟨ch,bb,k⟩:=bd k
      refine Aa O O O ZJ O (λh' o=>Js (St.all h') (A9.mk (x:=b) ah J G K (bv.mono' (o.all c.1)) (bw.mono' (o.all c.1)) (bx.mono' (o.all c.1)) ai aj ak am an ao ap aq ar au V) bb) (QF.gy O O O (QF.not O O (QF.pick O O O ?_)))
      cases k
      exact AH O
     ·
      have k:=A0 ba k
      cases k
      exact AK O O
    refine Ak (kp [49,7,6,1,8] O) λci H bc=>WF.if_ O (λW=>?_) (λW=>?_)
    ·
     have E:=A0 W E
     refine WF.seq (WF.rp (.inl O) (QF.as_ O O (AA (kp [2] O) (WF.ret (λaa ww hf hw=>?_)))))
     have X:=H.drop .head
     cases E
     have Y:=e5.trans (t.trans (z.trans (m.trans bc)))
     exact DD hf hw O O Y ⟨O,X⟩
    ·
     have E:=A3 W E
     refine WF.skip (Ap (WF.rp (.inl O) (QF.addw O O O (QF.mv O O (AA (kp [8,7,6,1] O) (WF.nil (λaa ww hf hw=>?_)))))))
     have Z:=H.drop .head
     have ab:=t.trans (z.trans (m.trans bc))
     exact⟨(Aw (u+1)),_,_,hf.sub (kp [7,6,1,8] O),hw,Z,ab,(BA _),E⟩
   ·
    have E:=A3 I E
    refine WF.exit O (λaa ww hf hw=>?_)
    exact⟨_,_,hf.sub JH,hw,y,t,E⟩
 ·
  rintro aa ww ⟨bz,b0,hf,hw,ac,be,E⟩
  refine WF.run ?_ hf hw
  clear hf hw ww aa
  rw[CA] at E
  refine WF.seq (WF.rp (.inl O) (QF.as_ O O (AA (kp [2] O) (WF.ret (λaa ww hf hw=>?_)))))
  cases E
  exact DD hf hw O O (e5.trans be) ⟨O,ac⟩
theorem KO (hs:St S L h) {b:Value}{j:AJ}(d:Rd S h BV b j) {a:Int}(g:AB a) {c:Int}(m:AB c) {r:Bool}(E:Gi N j a c=some r):
 Bf Tryz.prog 95 #[b,.int .i64 a,.int .i64 c] S h (λv S' h'=>v= .bool r∧St S' (L) h'):=by
 refine Ab (l:=[b,.int .i64 a,.int .i64 c]) 27 Tryz.func95 O Tryz.ntmps95 O λB=>?_
 rw[Gi] at E
 refine WF.seq (WF.rl (LF.boxp O d (λe=>by cases e) O hs λF G H i u w=>LF.q 1 (QF.as_ O O (AG (LF.nil (kp [3,1,2] O) (WF.seq (WF.seq (WF.rp (.inl O) (QF.mv O O (QF.eql O O O (AA (kp [9,3,1,2] O) (WF.if_ O (λo=>?_) (λo=>?_)))))))))))))
 ·
  have E:=A0 o E
  refine WF.seq (WF.rp (.inl O) (QF.mv O O (QF.eql O O O (QF.as_ O O (AA (kp [6] O) (WF.ret (λaa ww hf hw=>?_)))))))
  cases E
  exact DD hf hw O O u ⟨O,i⟩
 ·
  have E:=A3 o E
  refine WF.skip (WF.seq (WF.rp (.inl O) (QF.fa O w A4 DW O λI x=>QF.ldl Af i.1 O x Ff O λy p=>QF.mv O O ?_)))
  obtain⟨k,n,E⟩:=bd E
  refine QF.ixe O O p E5 n O λz s=>QF.fa O s GG JO O λA t=>QF.ldi Af i.1 O t AL O λC=>QF.as_ O O (AA (kp [7,1] O) (WF.seq (WF.rp (.inl O) (QF.mv O O (QF.mv O O (QF.eql O O O (QF.mv O O (QF.cutv 5 26 (.bool ((decide (k.Office=a))||(decide (k.Office=(Aw (a+1)))))) ?_ ?_))))))))
  ·
   cases D:(decide (k.Office=a))
   ·exact QF.gy O O O (QF.mv O O (QF.gy O O O (QF.mv O O (QF.gy O O O (QF.addw O O O (QF.gy O O O (QF.eql O O O (QF.pick O O O (AH O)))))))))
   ·exact AK O O
  refine QF.as_ O O (AA (kp [6] O) (WF.ret (λaa ww hf hw=>?_)))
  cases E
  exact DD hf hw O O u ⟨O,i⟩
theorem JT (hs:St S L h) {k:Value}{j:AJ}(F:Rd S h BV k j) {r:Bool}(E:Ec N j=some r):
 Bf Tryz.prog 40 #[k] S h (λv S' h'=>v= .bool r∧St S' (L) h'):=by
 refine Ab (l:=[k]) 60 Tryz.func40 O Tryz.ntmps40 O λB=>?_
 rw[Ec] at E
 refine WF.seq (WF.rl (LF.boxp O F (λe=>by cases e) O hs λq1 S2 h3 aq e5 k6=>LF.q 1 (QF.as_ O O (AG (LF.nil (kp [1] O) (WF.seq (WF.seq (WF.rp (.inl O) (QF.fa O k6 A4 DW O λq7 k8=>QF.ldl Af aq.1 O k8 Ff O λv9 ar=>QF.len O ar E5 O λc3=>QF.mv O O ?_)))))))))
 refine AA (kp [11,10,9,1] O) (WF.blockJ (λa w=>IV B S2 h3 (60,[]) a w [(1,q1)] (L) λ_ _=>CE N j=some r) ?_ ?_)
 ·
  refine WF.loopF (λn1=>λa w=>∃(p:Int),IV B S2 h3 (60,[]) a w [(10,.int .i64 (↑j.Places.length:Int)),(9,v9),(1,q1),(11,.int .i64 p)] (L) λ_ _=>AB p∧CD N j (CE N j) n1 p=some r) N ?_ ?_ ?_
  ·
   intro aa ww hf hw
   exact⟨0,_,_,hf.sub (kp [10,9,1,11] O),hw,aq,(Bc.refl S2 h3),(iq (n:=0) O),E⟩
  ·
   rintro aa ww ⟨_,_,_,_,_,_,_,_,E⟩
   rw[CD] at E;cases E
  ·
   rintro n1 aa ww ⟨p,c4,c5,hf,hw,s,t,c6,E⟩
   refine WF.run ?_ hf hw
   clear hf hw ww aa
   rw[CD] at E
   refine WF.seq (WF.rp (.inl O) (QF.lss O O O (AA (kp [12,10,9,1,11] O) (WF.seq (WF.if_ O (λX=>?_) (λX=>?_))))))
   ·
    have E:=A0 X E
    refine WF.skip (WF.seq (WF.block (WF.seq (WF.rl (LF.q 2 ?_)))))
    have bt:=ar.mono' t
    obtain⟨d,au,E⟩:=bd E
    refine QF.ixe O O bt E5 au O λc7 bu=>QF.ld Af s.1 O bu Im (λe=>by cases e) O λc8 bv=>AG (LF.al OB O s λc9 da av G=>?_)
    have bw:=bv.mono G
    obtain⟨aw,ax,ay,rfl,db,dc,bx,dd,bz,b0,de,df,b1,dg,dh,b2⟩:=BO.ex bw
    refine LF.st (vs:=[.string d.Name,.int .i64 d.Kind,.int .i64 d.Office,.int .i64 d.Cap,aw,ax,.int .i64 d.Num,.int .i64 d.Den,.int .i64 d.Down,.int .i64 d.Delay,.int .i64 d.Floor,ay]) (cs':=[.string d.Name,.int .i64 d.Kind,.int .i64 d.Office,.int .i64 d.Cap,aw,ax,.int .i64 d.Num,.int .i64 d.Den,.int .i64 d.Down,.int .i64 d.Delay,.int .i64 d.Floor,ay]) O O O (AC O (AC O (AC O (AC O (AC bz.one (AC b0.one (AC O (AC O (AC O (AC O (AC O (AC b2.one Eo)))))))))))) Im O av .head O O λdi m Y=>LF.nil (kp [4,10,9,1,11] O) (WF.seq (WF.rc (.inl O) m ?_))
    have az:=t.trans (G.trans Y)
    have b3:=k6.mono az
    refine QF.ld Ai m.1 O b3 F7 (λe=>by cases e) O λdj b4=>QF.fao O JO O (AI Ai m O mh O AL O (QF.fao O M5 O (AI Ai m O mh O AL O ?_)))
    obtain⟨dk,a0,E⟩:=bd E
    refine Aa O O O Wf O (λh' o=>KO (St.all h') (b4.mono (o.all m.1)) bx b1 a0) (QF.not O O (Ak (kp [21,10,9,1,11] O) λdl I a1=>WF.if_ O (λZ=>?_) (λZ=>?_)))
    ·
     have E:=A0 Z E
     refine WF.seq (WF.rp (.inl O) (QF.as_ O O (AA (kp [2] O) (WF.ret (λaa ww hf hw=>?_)))))
     have a2:=I.drop .head
     cases E
     have a3:=e5.trans (t.trans (G.trans (Y.trans a1)))
     exact DD hf hw O O a3 ⟨O,a2⟩
    ·
     have E:=A3 Z E
     refine WF.skip (Ap (WF.rp (.inl O) (QF.addw O O O (QF.mv O O (AA (kp [11,10,9,1] O) (WF.nil (λaa ww hf hw=>?_)))))))
     have a4:=I.drop .head
     have a5:=t.trans (G.trans (Y.trans a1))
     exact⟨(Aw (p+1)),_,_,hf.sub (kp [10,9,1,11] O),hw,a4,a5,(BA _),E⟩
   ·
    have E:=A3 X E
    refine WF.exit O (λaa ww hf hw=>?_)
    exact⟨_,_,hf.sub (kp [1] O),hw,s,t,E⟩
 ·
  rintro aa ww ⟨ab,ac,hf,hw,J,ad,E⟩
  refine WF.run ?_ hf hw
  clear hf hw ww aa
  rw[CE] at E
  refine WF.seq (WF.seq (WF.rp (.inl O) ?_))
  have a6:=k6.mono ad
  refine QF.fa O a6 AJ.f_Links FP O λdm b5=>QF.ldl Af J.1 O b5 Ho O λb6 a7=>QF.len O a7 GO O λdn=>QF.mv O O (AA (kp [26,25,24,1] O) (WF.blockJ (λa w=>IV B ab ac (60,[]) a w [] (L) λ_ _=>DC N=some r) ?_ ?_))
  ·
   refine WF.loopF (λn3=>λa w=>∃(u:Int),IV B ab ac (60,[]) a w [(25,.int .i64 (↑j.Links.length:Int)),(24,b6),(1,q1),(26,.int .i64 u)] (L) λ_ _=>AB u∧CC N j (DC N) n3 u=some r) N ?_ ?_ ?_
   ·
    intro aa ww hf hw
    exact⟨0,_,_,hf.sub (kp [25,24,1,26] O),hw,J,(Bc.refl ab ac),(iq (n:=0) O),E⟩
   ·
    rintro aa ww ⟨_,_,_,_,_,_,_,_,E⟩
    rw[CC] at E;cases E
   ·
    rintro n3 aa ww ⟨u,dp,dq,hf,hw,x,y,dr,E⟩
    refine WF.run ?_ hf hw
    clear hf hw ww aa
    rw[CC] at E
    refine WF.seq (WF.rp (.inl O) (QF.lss O O O (AA (kp [27,25,24,1,26] O) (WF.seq (WF.if_ O (λae=>?_) (λae=>?_))))))
    ·
     have E:=A0 ae E
     refine WF.skip (WF.seq (WF.block (WF.seq (WF.rl (LF.q 2 ?_)))))
     have b7:=a7.mono' y
     obtain⟨b,a8,E⟩:=bd E
     refine QF.ixe O O b7 GO a8 O λds b8=>QF.ld Af x.1 O b8 Du (λe=>by cases e) O λdt b9=>AG (LF.al K8 O x λdu dv a9 H=>?_)
     have ca:=b9.mono H
     obtain⟨K,M,Q,rfl,dw,dx,dy,cb,ba,bb,bc,cc,cd,ce,cf,cg,ch,ci,cj,ck,cl,cm⟩:=A9.ex ca
     refine LF.st (vs:=[.string b.Name,.int .i64 b.Kind,.int .i64 b.From,.int .i64 b.To,K,M,Q,.int .i64 b.Positions,.int .i64 b.Speed,.int .i64 b.Leak,.int .i64 b.Crest,.int .i64 b.Num,.int .i64 b.Den,.int .i64 b.Prime,.int .i64 b.Break,.int .i64 b.BackNum,.int .i64 b.BackDen,.int .i64 b.Delay]) (cs':=[.string b.Name,.int .i64 b.Kind,.int .i64 b.From,.int .i64 b.To,K,M,Q,.int .i64 b.Positions,.int .i64 b.Speed,.int .i64 b.Leak,.int .i64 b.Crest,.int .i64 b.Num,.int .i64 b.Den,.int .i64 b.Prime,.int .i64 b.Break,.int .i64 b.BackNum,.int .i64 b.BackDen,.int .i64 b.Delay]) O O O (AC O (AC O (AC O (AC O (AC ba.one (AC bb.one (AC bc.one (AC O (AC O (AC O (AC O (AC O (AC O (AC O (AC O (AC O (AC O (AC O Eo)))))))))))))))))) Du O a9 .head O O λcn c z=>LF.nil (kp [6,25,24,1,26] O) (WF.seq (WF.rp (.inl O) ?_))
     have af:=y.trans (H.trans z)
     have A:=a6.mono af
     refine QF.fa O A A4 DW O λco be=>QF.ldl Af c.1 O be Ff O λcp bf=>QF.fao O GV O (AI Af c O mh O AL O ?_)
     obtain⟨cq,ag,E⟩:=bd E
     refine QF.ixe O O bf E5 ag O λcr bg=>QF.fa O bg GG JO O λcs bh=>QF.ldi Af c.1 O bh AL O λbi=>QF.as_ O O (AA (kp [7,6,25,24,1,26] O) (WF.seq (WF.rc (.inl O) c (QF.ld Ai c.1 O A F7 (λe=>by cases e) O λct bj=>QF.mv O O (QF.fao O E6 O (AI Ai c O mh O AL O ?_))))))
     obtain⟨bk,ah,E⟩:=bd E
     refine Aa O O O Wf O (λh' o=>KO (St.all h') (bj.mono (o.all c.1)) bi cb ah) (QF.not O O (QF.mv O O ?_))
     obtain⟨bl,g,E⟩:=bd E
     refine QF.cutv 15 58 (.bool bl) ?_ ?_
     ·
      cases U:(!bk)
      ·
       have g:=A3 U g
       refine QF.gy O O O (QF.fao O Do O (QF.gy O O O (AI Ai c O mh O AL O (QF.gy O O O (QF.eql O O O (QF.gy O O O (QF.mv O O ?_)))))))
       obtain⟨bm,i,g⟩:=bd g
       refine QF.cutv 10 57 (.bool bm) ?_ ?_
       ·
        cases V:(decide (b.Kind=4))
        ·
         have i:=A3 V i
         cases i
         exact AK O O
        ·
         have i:=A0 V i
         refine QF.gy O O O (QF.fa O A A4 DW O λcu bn=>QF.gy O O O (QF.ldl Ai c.1 O bn Ff O λcv bo=>QF.gy O O O (QF.fao O E6 O (QF.gy O O O (AI Ai c O mh O AL O (QF.gy O O O ?_))))))
         obtain⟨cw,ai,i⟩:=bd i
         refine QF.ixe O O bo E5 ai O λcx bp=>QF.gy O O O (QF.fa O bp GG JO O λcy bq=>QF.gy O O O (QF.ldi Ai c.1 O bq AL O λcz=>QF.gy O O O (QF.mv O O (QF.gy O O O (QF.neq O O O (QF.gy O O O (QF.pick O O O ?_)))))))
         cases i
         exact AH O
       refine QF.pick O O O ?_
       cases g
       exact AH O
      ·
       have g:=A0 U g
       cases g
       exact AK O O
     refine Ak (kp [58,25,24,1,26] O) λc0 C W=>WF.if_ O (λD=>?_) (λD=>?_)
     ·
      have E:=A0 D E
      refine WF.seq (WF.rp (.inl O) (QF.as_ O O (AA (kp [2] O) (WF.ret (λaa ww hf hw=>?_)))))
      have aj:=C.drop .head
      cases E
      have ak:=e5.trans (ad.trans (y.trans (H.trans (z.trans W))))
      exact DD hf hw O O ak ⟨O,aj⟩
     ·
      have E:=A3 D E
      refine WF.skip (Ap (WF.rp (.inl O) (QF.addw O O O (QF.mv O O (AA (kp [26,25,24,1] O) (WF.nil (λaa ww hf hw=>?_)))))))
      have am:=C.drop .head
      have an:=y.trans (H.trans (z.trans W))
      exact⟨(Aw (u+1)),_,_,hf.sub (kp [25,24,1,26] O),hw,am,an,(BA _),E⟩
    ·
     have E:=A3 ae E
     refine WF.exit O (λaa ww hf hw=>?_)
     exact⟨_,_,hf.sub JH,hw,x,y,E⟩
  ·
   rintro aa ww ⟨c1,c2,hf,hw,ao,br,E⟩
   refine WF.run ?_ hf hw
   clear hf hw ww aa
   rw[DC] at E
   refine WF.seq (WF.rp (.inl O) (QF.as_ O O (AA (kp [2] O) (WF.ret (λaa ww hf hw=>?_)))))
   cases E
   have ap:=e5.trans (ad.trans br)
   exact DD hf hw O O ap ⟨O,ao⟩
theorem FK (hs:St S L h) {b:Int}(m:AB b) {c:Int}(q:AB c) {r:Int}(E:Cd N b c=some r):
 Bf Tryz.prog 96 #[.int .i64 b,.int .i64 c] S h (λv S' h'=>v= .int .i64 r∧AB r∧St S' (L) h'):=by
 refine Ab (l:=[.int .i64 b,.int .i64 c]) 34 Tryz.func96 O Tryz.ntmps96 O λB=>?_
 rw[Cd] at E
 refine WF.seq (WF.rp (.inl O) (QF.as_ O O (AA (kp [0,1] O) (WF.seq (WF.seq (WF.rp (.inl O) (QF.mv O O (QF.eql O O O (AA (kp [10,0,1] O) (WF.if_ O (λy=>?_) (λy=>?_)))))))))))
 ·
  have E:=A0 y E
  refine WF.seq (WF.rp (.inl O) (QF.as_ O O (AA (kp [4] O) (WF.ret (λaa ww hf hw=>?_)))))
  cases E
  exact DD hf hw O O (Bc.refl S h) ⟨O,(iq (n:=0) O),hs⟩
 ·
  have E:=A3 y E
  refine WF.skip (WF.seq (WF.seq (WF.rp (.inl O) (QF.mv O O (QF.mv O O (QF.gtr O O O (AA (kp [13,0,1] O) (WF.if_ O (λz=>?_) (λz=>?_)))))))))
  ·
   have E:=A0 z E
   refine WF.seq (WF.rp (.inl O) (QF.as_ O O (AA (kp [4] O) (WF.ret (λaa ww hf hw=>?_)))))
   cases E
   exact DD hf hw O O (Bc.refl S h) ⟨O,(iq (n:=1099511627777) O),hs⟩
  ·
   have E:=A3 z E
   refine WF.skip (WF.seq (WF.rc (.inl O) hs (QF.mv O O (QF.convk O LA Iv O ?_))))
   obtain⟨x,A,E⟩:=bd E
   refine GE (v:= .tuple #[.int .u64 x.1,.int .u64 x.2]) (Ψ:=IntKind.has .u64 x.1∧IntKind.has .u64 x.2) O O O Uj O (λh' o=>(H8 (St.all h') (C8 _ _) (show IntKind.has .u64 1099511627776 by first|assumption|exact⟨by decide,by decide⟩) A).mono λ_ _ _ _ p=>⟨p.1,⟨p.2.1,p.2.2.1⟩⟩) λI=>?_
   obtain⟨J,K⟩:=I
   refine QF.mv O O (QF.ext O O O (QF.ext O O O (QF.as_ O O (QF.as_ O O (Ak (kp [6,5,1] O) λX C M=>WF.seq (WF.rc (.inl O) C (QF.mv O O (QF.mv O O (QF.mv O O (QF.convk O LA Iv O ?_))))))))))
   obtain⟨d,s,E⟩:=bd E
   refine GE (v:= .tuple #[.int .u64 d.1,.int .u64 d.2]) (Ψ:=IntKind.has .u64 d.1∧IntKind.has .u64 d.2) O O O Ui O (λh' o=>(H9 (St.all h') J K (C8 _ _) s).mono λ_ _ _ _ p=>⟨p.1,⟨p.2.1,p.2.2.1⟩⟩) λD=>?_
   obtain⟨F,Q⟩:=D
   refine QF.mv O O (QF.ext O O O (QF.ext O O O (QF.as_ O O (QF.as_ O O (Ak (kp [8,7] O) λj i G=>WF.seq (WF.seq (WF.rp (.inl O) (QF.mv O O (QF.neq O O O (AA (kp [29,7] O) (WF.cut (λa w=>∃(g:Int),IV B S j (34,[]) a w [(7,.int .u64 g)] (L) λ_ _=>IntKind.has .u64 g∧E2 N g=some r) ?_ ?_)))))))))))
   ·
    refine WF.if_ O (λk=>?_) (λk=>?_)
    ·
     have E:=A0 k E
     refine WF.rp (.inl O) (QF.mv O O (QF.addk O O O (QF.as_ O O (AA (kp [7] O) (WF.nil (λaa ww hf hw=>?_))))))
     exact⟨(IntKind.wrap .u64 (d.1+1)),_,_,hf.sub (kp [7] O),hw,i,(Bc.refl S j),(C8 _ _),E⟩
    ·
     have E:=A3 k E
     refine WF.skip (WF.nil (λaa ww hf hw=>?_))
     exact⟨d.1,_,_,hf.sub (kp [7] O),hw,i,(Bc.refl S j),F,E⟩
   ·
    rintro aa ww ⟨g,U,V,hf,hw,t,H,W,E⟩
    refine WF.run ?_ hf hw
    clear hf hw ww aa
    rw[E2] at E
    refine WF.seq (WF.rp (.inl O) (QF.mv O O (QF.convk O Iv LA O (QF.as_ O O (AA (kp [4] O) (WF.ret (λaa ww hf hw=>?_)))))))
    cases E
    have u:=M.trans (G.trans H)
    exact DD hf hw O O u ⟨O,(BA _),t⟩
theorem LP (hs:St S L h) {c:Value}{b:(List (List AU))}(d:Sl S h (AV.sl BB) c b) {r:Int}(E:DZ N b=some r):
 Bf Tryz.prog 97 #[c] S h (λv S' h'=>v= .int .i64 r∧AB r∧St S' (L) h'):=by
 refine Ab (l:=[c]) 48 Tryz.func97 O Tryz.ntmps97 O λB=>?_
 rw[DZ] at E
 refine WF.seq (WF.rp (.inl O) (QF.as_ O O (AA (kp [0] O) (WF.seq (WF.rp (.inl O) (QF.as_ O O (AA (kp [3,0] O) (WF.seq (WF.seq (WF.rp (.inl O) (QF.mv O O (QF.len O d TT O λb1=>QF.mv O O ?_))))))))))))
 refine AA (kp [9,8,7,3] O) (WF.blockJ (λa w=>∃(U:Int),IV B S h (48,[]) a w [(3,.int .i64 U)] (L) λ_ _=>AB U∧BD N U=some r) ?_ ?_)
 ·
  refine WF.loopF (λV=>λa w=>∃(A:Int) (i:Int),IV B S h (48,[]) a w [(8,.int .i64 (↑b.length:Int)),(7,c),(3,.int .i64 A),(9,.int .i64 i)] (L) λ_ _=>AB A∧AB i∧Ay N b (BD N) V A i=some r) N ?_ ?_ ?_
  ·
   intro aa ww hf hw
   exact⟨0,0,_,_,hf.sub (kp [8,7,3,9] O),hw,hs,(Bc.refl S h),(iq (n:=0) O),(iq (n:=0) O),E⟩
  ·
   rintro aa ww ⟨_,_,_,_,_,_,_,_,_,_,E⟩
   rw[Ay] at E;cases E
  ·
   rintro V aa ww ⟨A,i,t,u,hf,hw,m,x,r9,ay,E⟩
   refine WF.run ?_ hf hw
   clear hf hw ww aa
   rw[Ay] at E
   refine WF.seq (WF.rp (.inl O) (QF.lss O O O (AA (kp [10,8,7,3,9] O) (WF.seq (WF.if_ O (λy=>?_) (λy=>?_))))))
   ·
    have E:=A0 y E
    refine WF.skip (WF.seq (WF.blockJ (λa w=>∃(p:Int),IV B t u (48,[]) a w [(8,.int .i64 (↑b.length:Int)),(7,c),(9,.int .i64 i),(3,.int .i64 p)] (L) λ_ _=>AB p∧BW N i (Ay N b (BD N) V) p=some r) ?_ ?_))
    ·
     refine WF.seq (WF.rp (.inl O) ?_)
     have W:=d.mono' x
     obtain⟨X,C,E⟩:=bd E
     refine QF.ixe O O W TT C O λaz Y=>QF.ldl Af m.1 O Y GN O λZ q=>QF.as_ O O (AA (kp [5,8,7,3,9] O) (WF.seq (WF.rp (.inl O) (QF.as_ O O (AA (kp [6,5,8,7,3,9] O) (WF.block (WF.loopF (λn3=>λa w=>∃(k:Int) (s:Int),IV B t u (48,[]) a w [(5,Z),(8,.int .i64 (↑b.length:Int)),(7,c),(9,.int .i64 i),(3,.int .i64 k),(6,.int .i64 s)] (L) λ_ _=>AB k∧AB s∧BC N X (BW N i (Ay N b (BD N) V)) n3 k s=some r) N ?_ ?_ ?_)))))))
     ·
      intro aa ww hf hw
      exact⟨A,1,_,_,hf.sub (kp [5,8,7,9,3,6] O),hw,m,(Bc.refl t u),r9,(iq (n:=1) O),E⟩
     ·
      rintro aa ww ⟨_,_,_,_,_,_,_,_,_,_,E⟩
      rw[BC] at E;cases E
     ·
      rintro n3 aa ww ⟨k,s,a0,a1,hf,hw,g,j,D,a2,E⟩
      refine WF.run ?_ hf hw
      clear hf hw ww aa
      rw[BC] at E
      refine WF.seq (WF.seq (WF.rp (.inl O) (QF.mv O O (QF.mv O O ?_))))
      have ab:=q.mono' j
      refine QF.len O ab F8 O λa3=>QF.lss O O O (AA (kp [16,5,8,7,9,3,6] O) (WF.if_ O (λz=>?_) (λz=>?_)))
      ·
       have E:=A0 z E
       refine WF.skip (WF.seq (WF.block (WF.rc (.inr ⟨mo,by kernel_rfl⟩) g (QF.mv O O (QF.mv O O (QF.mv O O ?_))))))
       have ac:=q.mono' j
       obtain⟨a4,F,E⟩:=bd E
       refine QF.ixe O O ac F8 F O λa5 ad=>QF.fa O ad Ic GP O λa6 ae=>QF.ldi Ai g.1 O ae AL O λa7=>QF.mv O O (QF.mv O O (QF.subw O O O ?_))
       have af:=q.mono' j
       obtain⟨a8,G,E⟩:=bd E
       refine QF.ixe O O af F8 G O λa9 ag=>QF.fa O ag Ic GP O λba ah=>QF.ldi Ai g.1 O ah AL O λbb=>QF.subw O O O (QF.mv O O (QF.mv O O ?_))
       have ai:=q.mono' j
       obtain⟨bc,H,E⟩:=bd E
       refine QF.ixe O O ai F8 H O λbe aj=>QF.fa O aj Ie Gu O λbf ak=>QF.ldi Ai g.1 O ak AL O λbg=>QF.mv O O (QF.mv O O (QF.subw O O O ?_))
       have am:=q.mono' j
       obtain⟨bh,I,E⟩:=bd E
       refine QF.ixe O O am F8 I O λbi an=>QF.fa O an Ie Gu O λbj ao=>QF.ldi Ai g.1 O ao AL O λbk=>QF.subw O O O ?_
       obtain⟨ap,J,E⟩:=bd E
       refine Ao O O O OW O (λh' o=>FK (St.all h') (BA _) (BA _) J) λaq=>?_
       have ar:=aq
       refine QF.max O O O (QF.as_ O O (Ak (kp [3,5,8,7,9,6] O) λbl K au=>Ap (WF.rp (.inl O) (QF.mv O O (QF.addw O O O (QF.as_ O O (AA (kp [6,3,5,8,7,9] O) (WF.nil (λaa ww hf hw=>?_)))))))))
       exact⟨(max k ap),(Aw (s+1)),_,_,hf.sub (kp [5,8,7,9,3,6] O),hw,K,(j.trans au),(Fj D ar),(BA _),E⟩
      ·
       have E:=A3 z E
       refine Hu O (WF.nil (λaa ww hf hw=>?_))
       exact⟨k,_,_,hf.sub (kp [8,7,9,3] O),hw,g,j,D,E⟩
    ·
     rintro aa ww ⟨p,bm,bn,hf,hw,M,av,aw,E⟩
     refine WF.run ?_ hf hw
     clear hf hw ww aa
     rw[BW] at E
     refine WF.rp (.inl O) (QF.addw O O O (QF.mv O O (AA (kp [9,8,7,3] O) (WF.nil (λaa ww hf hw=>?_)))))
     exact⟨p,(Aw (i+1)),_,_,hf.sub (kp [8,7,3,9] O),hw,M,(x.trans av),aw,(BA _),E⟩
   ·
    have E:=A3 y E
    refine WF.exit O (λaa ww hf hw=>?_)
    exact⟨A,_,_,hf.sub (kp [3] O),hw,m,x,r9,E⟩
 ·
  rintro aa ww ⟨U,bo,bp,hf,hw,Q,ax,r3,E⟩
  refine WF.run ?_ hf hw
  clear hf hw ww aa
  rw[BD] at E
  refine WF.seq (WF.rp (.inl O) (QF.mv O O (QF.as_ O O (AA (kp [2] O) (WF.ret (λaa ww hf hw=>?_))))))
  cases E
  exact DD hf hw O O ax ⟨O,r3,Q⟩
end Go.Proofs.YtibidnaedddfdaaGreat
