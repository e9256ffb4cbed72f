import Derived.Test.YtibidnaedddfdaaGreatAWalk9
namespace Go.Proofs.YtibidnaedddfdaaGreat
open Go.RowKit
set_option linter.unusedVariables false
set_option linter.unusedSimpArgs false
set_option maxRecDepth 10000
set_option maxHeartbeats 2000000
variable {N:Nat}{S:Nat→Prop}{L:List HP}{h:Ad}
theorem KQ (hs:St S L h) {d:Value}{a:AX}(g:Rd S h A0 d a) {r:Bool}(E:Eo N a=some r):
 BP Tryz.prog 94 #[d] S h (λv S' h'=>v= .bool r∧St S' (L) h'):=by
 refine Ac (l:=[d]) 112 Tryz.func94 O Tryz.ntmps94 O λB=>?_
 rw[Eo] at E
 refine WF.seq (WF.rl (LF.boxp O g (λe=>by cases e) O hs λq1 S2 h3 b o c=>LF.q 1 (QF.as_ O O (AE (LF.nil (kp [1] O) (WF.seq (WF.rp (.inl O) (QF.fa O c AX.f_Kind Ck O λq7 Z=>QF.ldi Aa b.1 O Z AN O λr9=>QF.eql O O O (QF.as_ O O (AA (kp [3,1] O) ?_))))))))))
 refine WF.seq (WF.seq (WF.rp (.inl O) (QF.mv O O (QF.not O O (QF.mv O O (QF.cutv 24 33 (.bool ((!(decide (a.Kind=0)))&&((((decide (0<(↑a.Rate.length:Int)))||(decide (0<(↑a.Band.Lo.length:Int))))||(decide (0<(↑a.Band.Hi.length:Int))))||(decide (a.Leak≠0))))) ?_ ?_))))))
 ·
  cases ab:(!(decide (a.Kind=0)))
  ·exact AL O O
  ·
   refine QF.gy O O O (QF.fa O c If Kt O λac p=>QF.gy O O O (QF.ldl Aa b.1 O p GU O λad s=>QF.gy O O O (QF.len O s GG O λae=>QF.gy O O O (QF.gtr O O O (QF.gy O O O (QF.mv O O (QF.cutv 6 20 (.bool ((decide (0<(↑a.Rate.length:Int)))||(decide (0<(↑a.Band.Lo.length:Int))))) ?_ ?_)))))))
   ·
    cases af:(decide (0<(↑a.Rate.length:Int)))
    ·exact QF.gy O O O (QF.fa O c Fg HA O λag t=>QF.gy O O O (QF.fa O t I4.f_Lo Kv O λah u=>QF.gy O O O (QF.ldl Aa b.1 O u GU O λai w=>QF.gy O O O (QF.len O w GG O λaj=>QF.gy O O O (QF.gtr O O O (QF.gy O O O (QF.pick O O O (AH O))))))))
    ·exact AL O O
   refine QF.gy O O O (QF.mv O O (QF.cutv 6 27 (.bool (((decide (0<(↑a.Rate.length:Int)))||(decide (0<(↑a.Band.Lo.length:Int))))||(decide (0<(↑a.Band.Hi.length:Int))))) ?_ ?_))
   ·
    cases ak:((decide (0<(↑a.Rate.length:Int)))||(decide (0<(↑a.Band.Lo.length:Int))))
    ·exact QF.gy O O O (QF.fa O c Fg HA O λam x=>QF.gy O O O (QF.fa O x I4.f_Hi Ku O λan y=>QF.gy O O O (QF.ldl Aa b.1 O y GU O λao z=>QF.gy O O O (QF.len O z GG O λap=>QF.gy O O O (QF.gtr O O O (QF.gy O O O (QF.pick O O O (AH O))))))))
    ·exact AL O O
   refine QF.gy O O O (QF.mv O O (QF.cutv 4 32 (.bool ((((decide (0<(↑a.Rate.length:Int)))||(decide (0<(↑a.Band.Lo.length:Int))))||(decide (0<(↑a.Band.Hi.length:Int))))||(decide (a.Leak≠0)))) ?_ ?_))
   ·
    cases aq:(((decide (0<(↑a.Rate.length:Int)))||(decide (0<(↑a.Band.Lo.length:Int))))||(decide (0<(↑a.Band.Hi.length:Int))))
    ·exact QF.gy O O O (QF.fa O c J2 Nk O λar A=>QF.gy O O O (QF.ldi Aa b.1 O A AN O λau=>QF.gy O O O (QF.neq O O O (QF.gy O O O (QF.pick O O O (AH O))))))
    ·exact AL O O
   exact QF.pick O O O (AH O)
 refine AA (kp [33,3,1] O) (WF.if_ O (λi=>?_) (λi=>?_))
 ·
  have E:=Av i E
  refine WF.seq (WF.rp (.inl O) (QF.as_ O O (AA (kp [2] O) (WF.ret (λaa ww hf hw=>?_)))))
  cases E
  exact CS hf hw O O o ⟨O,b⟩
 ·
  have E:=Aw i E
  refine WF.skip (WF.seq (WF.seq (WF.rp (.inl O) (QF.mv O O (QF.not O O (QF.mv O O (QF.cutv 4 40 (.bool ((!(decide (a.Kind=0)))&&(decide (a.Kind≠2)))) ?_ ?_)))))))
  ·
   cases av:(!(decide (a.Kind=0)))
   ·exact AL O O
   ·exact QF.gy O O O (QF.fa O c AX.f_Kind Ck O λaw C=>QF.gy O O O (QF.ldi Aa b.1 O C AN O λax=>QF.gy O O O (QF.neq O O O (QF.pick O O O (AH O)))))
  refine QF.mv O O (QF.cutv 9 50 (.bool (((!(decide (a.Kind=0)))&&(decide (a.Kind≠2)))&&((decide (a.Positions≠0))||(decide (a.Speed≠0))))) ?_ ?_)
  ·
   cases ay:((!(decide (a.Kind=0)))&&(decide (a.Kind≠2)))
   ·exact AL O O
   ·
    refine QF.gy O O O (QF.fa O c BZ FW O λaz D=>QF.gy O O O (QF.ldi Aa b.1 O D AN O λa0=>QF.gy O O O (QF.neq O O O (QF.gy O O O (QF.mv O O (QF.cutv 4 49 (.bool ((decide (a.Positions≠0))||(decide (a.Speed≠0)))) ?_ ?_))))))
    ·
     cases a1:(decide (a.Positions≠0))
     ·exact QF.gy O O O (QF.fa O c Fk Iq O λa2 F=>QF.gy O O O (QF.ldi Aa b.1 O F AN O λa3=>QF.gy O O O (QF.neq O O O (QF.gy O O O (QF.pick O O O (AH O))))))
     ·exact AL O O
    exact QF.pick O O O (AH O)
  refine AA (kp [50,3,1] O) (WF.if_ O (λj=>?_) (λj=>?_))
  ·
   have E:=Av j E
   refine WF.seq (WF.rp (.inl O) (QF.as_ O O (AA (kp [2] O) (WF.ret (λaa ww hf hw=>?_)))))
   cases E
   exact CS hf hw O O o ⟨O,b⟩
  ·
   have E:=Aw j E
   refine WF.skip (WF.seq (WF.seq (WF.rp (.inl O) (QF.fa O c AX.f_Kind Ck O λa4 G=>QF.ldi Aa b.1 O G AN O λa5=>QF.neq O O O (QF.mv O O (QF.cutv 4 58 (.bool ((decide (a.Kind≠1))&&(decide (a.Kind≠5)))) ?_ ?_))))))
   ·
    cases a6:(decide (a.Kind≠1))
    ·exact AL O O
    ·exact QF.gy O O O (QF.fa O c AX.f_Kind Ck O λa7 H=>QF.gy O O O (QF.ldi Aa b.1 O H AN O λa8=>QF.gy O O O (QF.neq O O O (QF.pick O O O (AH O)))))
   refine QF.mv O O (QF.cutv 4 63 (.bool (((decide (a.Kind≠1))&&(decide (a.Kind≠5)))&&(decide (a.Crest≠0)))) ?_ ?_)
   ·
    cases a9:((decide (a.Kind≠1))&&(decide (a.Kind≠5)))
    ·exact AL O O
    ·exact QF.gy O O O (QF.fa O c JS Nj O λba I=>QF.gy O O O (QF.ldi Aa b.1 O I AN O λbb=>QF.gy O O O (QF.neq O O O (QF.pick O O O (AH O)))))
   refine AA (kp [63,3,1] O) (WF.if_ O (λk=>?_) (λk=>?_))
   ·
    have E:=Av k E
    refine WF.seq (WF.rp (.inl O) (QF.as_ O O (AA (kp [2] O) (WF.ret (λaa ww hf hw=>?_)))))
    cases E
    exact CS hf hw O O o ⟨O,b⟩
   ·
    have E:=Aw k E
    refine WF.skip (WF.seq (WF.seq (WF.rp (.inl O) (QF.mv O O (QF.mv O O (QF.cutv 4 69 (.bool ((decide (a.Kind=0))&&(decide (a.Num≠0)))) ?_ ?_))))))
    ·
     cases bc:(decide (a.Kind=0))
     ·exact AL O O
     ·exact QF.gy O O O (QF.fa O c AX.f_Num Fw O λbe J=>QF.gy O O O (QF.ldi Aa b.1 O J AN O λbf=>QF.gy O O O (QF.neq O O O (QF.pick O O O (AH O)))))
    refine QF.mv O O (QF.cutv 12 82 (.bool (((decide (a.Kind=0))&&(decide (a.Num≠0)))||(((decide (a.Kind=0))||(decide (a.Kind=2)))&&(decide (a.Den≠0))))) ?_ ?_)
    ·
     cases bg:((decide (a.Kind=0))&&(decide (a.Num≠0)))
     ·
      refine QF.gy O O O (QF.mv O O (QF.gy O O O (QF.mv O O (QF.cutv 4 76 (.bool ((decide (a.Kind=0))||(decide (a.Kind=2)))) ?_ ?_))))
      ·
       cases bh:(decide (a.Kind=0))
       ·exact QF.gy O O O (QF.fa O c AX.f_Kind Ck O λbi K=>QF.gy O O O (QF.ldi Aa b.1 O K AN O λbj=>QF.gy O O O (QF.eql O O O (QF.gy O O O (QF.pick O O O (AH O))))))
       ·exact AL O O
      refine QF.gy O O O (QF.mv O O (QF.cutv 4 81 (.bool (((decide (a.Kind=0))||(decide (a.Kind=2)))&&(decide (a.Den≠0)))) ?_ ?_))
      ·
       cases bk:((decide (a.Kind=0))||(decide (a.Kind=2)))
       ·exact AL O O
       ·exact QF.gy O O O (QF.fa O c AX.f_Den Gs O λbl M=>QF.gy O O O (QF.ldi Aa b.1 O M AN O λbm=>QF.gy O O O (QF.neq O O O (QF.gy O O O (QF.pick O O O (AH O))))))
      exact QF.pick O O O (AH O)
     ·exact AL O O
    refine AA (kp [82,3,1] O) (WF.if_ O (λm=>?_) (λm=>?_))
    ·
     have E:=Av m E
     refine WF.seq (WF.rp (.inl O) (QF.as_ O O (AA (kp [2] O) (WF.ret (λaa ww hf hw=>?_)))))
     cases E
     exact CS hf hw O O o ⟨O,b⟩
    ·
     have E:=Aw m E
     refine WF.skip (WF.seq (WF.seq (WF.rp (.inl O) (QF.fa O c AX.f_Kind Ck O λbn Q=>QF.ldi Aa b.1 O Q AN O λbo=>QF.neq O O O (QF.mv O O (QF.cutv 9 95 (.bool ((decide (a.Kind≠3))&&((decide (a.Prime≠0))||(decide (a.Break≠0))))) ?_ ?_))))))
     ·
      cases bp:(decide (a.Kind≠3))
      ·exact AL O O
      ·
       refine QF.gy O O O (QF.fa O c H8 LI O λbq U=>QF.gy O O O (QF.ldi Aa b.1 O U AN O λbr=>QF.gy O O O (QF.neq O O O (QF.gy O O O (QF.mv O O (QF.cutv 4 94 (.bool ((decide (a.Prime≠0))||(decide (a.Break≠0)))) ?_ ?_))))))
       ·
        cases bt:(decide (a.Prime≠0))
        ·exact QF.gy O O O (QF.fa O c Fl Hx O λbu V=>QF.gy O O O (QF.ldi Aa b.1 O V AN O λbv=>QF.gy O O O (QF.neq O O O (QF.gy O O O (QF.pick O O O (AH O))))))
        ·exact AL O O
       exact QF.pick O O O (AH O)
     refine AA (kp [95,3,1] O) (WF.if_ O (λn=>?_) (λn=>?_))
     ·
      have E:=Av n E
      refine WF.seq (WF.rp (.inl O) (QF.as_ O O (AA (kp [2] O) (WF.ret (λaa ww hf hw=>?_)))))
      cases E
      exact CS hf hw O O o ⟨O,b⟩
     ·
      have E:=Aw n E
      refine WF.skip (WF.seq (WF.rp (.inl O) (QF.mv O O (QF.mv O O (QF.cutv 4 101 (.bool ((decide (a.Kind=0))||(decide (a.Kind=4)))) ?_ ?_)))))
      ·
       cases bw:(decide (a.Kind=0))
       ·exact QF.gy O O O (QF.fa O c AX.f_Kind Ck O λbx W=>QF.gy O O O (QF.ldi Aa b.1 O W AN O λbz=>QF.gy O O O (QF.eql O O O (QF.pick O O O (AH O)))))
       ·exact AL O O
      refine QF.mv O O (QF.cutv 9 111 (.bool (((decide (a.Kind=0))||(decide (a.Kind=4)))||((decide (a.BackNum=0))&&(decide (a.BackDen=0))))) ?_ ?_)
      ·
       cases b0:((decide (a.Kind=0))||(decide (a.Kind=4)))
       ·
        refine QF.gy O O O (QF.fa O c GO Hw O λb1 X=>QF.gy O O O (QF.ldi Aa b.1 O X AN O λb2=>QF.gy O O O (QF.eql O O O (QF.gy O O O (QF.mv O O (QF.cutv 4 110 (.bool ((decide (a.BackNum=0))&&(decide (a.BackDen=0)))) ?_ ?_))))))
        ·
         cases b3:(decide (a.BackNum=0))
         ·exact AL O O
         ·exact QF.gy O O O (QF.fa O c FQ HZ O λb4 Y=>QF.gy O O O (QF.ldi Aa b.1 O Y AN O λb5=>QF.gy O O O (QF.eql O O O (QF.gy O O O (QF.pick O O O (AH O))))))
        exact QF.pick O O O (AH O)
       ·exact AL O O
      refine QF.as_ O O (AA (kp [2] O) (WF.ret (λaa ww hf hw=>?_)))
      cases E
      exact CS hf hw O O o ⟨O,b⟩
theorem K3 (hs:St S L h) {p:Value}{s:AJ}(A:Rd S h A3 p s) {r:Bool}(E:FC N s=some r):
 BP Tryz.prog 39 #[p] S h (λv S' h'=>v= .bool r∧St S' (L) h'):=by
 refine Ac (l:=[p]) 51 Tryz.func39 O Tryz.ntmps39 O λB=>?_
 rw[FC] at E
 refine WF.seq (WF.rl (LF.boxp O A (λe=>by cases e) O hs λq1 S2 h3 ad e5 k6=>LF.q 1 (QF.as_ O O (AE (LF.nil (kp [1] O) (WF.seq (WF.seq (WF.rp (.inl O) (QF.fa O k6 AJ.f_Links EE O λq7 k8=>QF.ldl Aa ad.1 O k8 G7 O λv9 ae=>QF.len O ae FT O λb1=>QF.mv O O ?_)))))))))
 refine AA (kp [8,7,6,1] O) (WF.blockJ (λa w=>IV B S2 h3 (51,[]) a w [] (L) λ_ _=>DC N=some r) ?_ ?_)
 ·
  refine WF.loopF (λn1=>λa w=>∃(u:Int),IV B S2 h3 (51,[]) a w [(7,.int .i64 (↑s.Links.length:Int)),(6,v9),(1,q1),(8,.int .i64 u)] (L) λ_ _=>AB u∧B0 N s (DC N) n1 u=some r) N ?_ ?_ ?_
  ·
   intro aa ww hf hw
   exact⟨0,_,_,hf.sub (kp [7,6,1,8] O),hw,ad,(BO.refl S2 h3),(iq (n:=0) O),E⟩
  ·
   rintro aa ww ⟨_,_,_,_,_,_,_,_,E⟩
   rw[B0] at E;cases E
  ·
   rintro n1 aa ww ⟨u,b2,b3,hf,hw,y,t,b4,E⟩
   refine WF.run ?_ hf hw
   clear hf hw ww aa
   rw[B0] at E
   refine WF.seq (WF.rp (.inl O) (QF.lss O O O (AA (kp [9,7,6,1,8] O) (WF.seq (WF.if_ O (λI=>?_) (λI=>?_))))))
   ·
    have E:=Av I E
    refine WF.skip (WF.seq (WF.block (WF.seq (WF.rl (LF.q 2 ?_)))))
    have bf:=ae.mono' t
    obtain⟨b,af,E⟩:=bd E
    refine QF.ixe O O bf FT af O λb5 bg=>QF.ld Aa y.1 O bg C3 (λe=>by cases e) O λb6 bh=>AE (LF.al KX O y λb7 b8 ag z=>?_)
    have bi:=bh.mono z
    obtain⟨C,D,F,rfl,ah,J,G,K,M,Q,U,ai,aj,ak,am,an,ao,ap,aq,ar,au,V⟩:=A0.ex bi
    refine LF.st (vs:=[.string b.Name,.int .i64 b.Kind,.int .i64 b.From,.int .i64 b.To,C,D,F,.int .i64 b.Positions,.int .i64 b.Speed,.int .i64 b.Leak,.int .i64 b.Crest,.int .i64 b.Num,.int .i64 b.Den,.int .i64 b.Prime,.int .i64 b.Break,.int .i64 b.BackNum,.int .i64 b.BackDen,.int .i64 b.Delay]) (cs':=[.string b.Name,.int .i64 b.Kind,.int .i64 b.From,.int .i64 b.To,C,D,F,.int .i64 b.Positions,.int .i64 b.Speed,.int .i64 b.Leak,.int .i64 b.Crest,.int .i64 b.Num,.int .i64 b.Den,.int .i64 b.Prime,.int .i64 b.Break,.int .i64 b.BackNum,.int .i64 b.BackDen,.int .i64 b.Delay]) O O O (AC O (AC O (AC O (AC O (AC M.one (AC Q.one (AC U.one (AC O (AC O (AC O (AC O (AC O (AC O (AC O (AC O (AC O (AC O (AC O C6)))))))))))))))))) C3 O ag .head O O λb9 c m=>LF.nil (kp [4,7,6,1,8] O) (WF.seq (WF.rc (.inl O) c (QF.fao O Ck O (AI Ak c O mh O AN O ?_))))
    obtain⟨bj,av,E⟩:=bd E
    refine AZ O O O F7 O (λh' o=>A6 (St.all h') J (iq (n:=0) O) (iq (n:=5) O) av) (QF.not O O (QF.mv O O ?_))
    obtain⟨aw,d,E⟩:=bd E
    refine QF.cutv 8 24 (.bool aw) ?_ ?_
    ·
     cases ax:(!bj)
     ·
      have d:=Aw ax d
      refine QF.gy O O O (QF.fao O Gd O (QF.gy O O O (AI Ak c O mh O AN O (QF.gy O O O ?_))))
      have ay:=t.trans (z.trans m)
      have bk:=k6.mono ay
      refine QF.fa O bk Ah Bs O λca bl=>QF.gy O O O (QF.ldl Ak c.1 O bl EY O λcb bm=>QF.gy O O O (QF.len O bm Dk O λbn=>QF.gy O O O ?_))
      obtain⟨cc,az,d⟩:=bd d
      refine AZ O O O Nr O (λh' o=>Em (St.all h') G (IJ bn) az) (QF.gy O O O (QF.not O O (QF.pick O O O ?_)))
      cases d
      exact AH O
     ·
      have d:=Av ax d
      cases d
      exact AL O O
    refine QF.mv O O ?_
    obtain⟨a0,g,E⟩:=bd E
    refine QF.cutv 8 33 (.bool a0) ?_ ?_
    ·
     cases a1:aw
     ·
      have g:=Aw a1 g
      refine QF.gy O O O ?_
      have a2:=t.trans (z.trans m)
      have bo:=k6.mono a2
      refine QF.ld Ak c.1 O bo D1 (λe=>by cases e) O λcd bp=>QF.gy O O O (QF.fao O Gd O (QF.gy O O O (AI Ak c O mh O AN O (QF.gy O O O (QF.fao O E8 O (QF.gy O O O (AI Ak c O mh O AN O (QF.gy O O O ?_))))))))
      obtain⟨ce,a3,g⟩:=bd g
      refine AZ O O O VI O (λh' o=>JX (St.all h') (bp.mono (o.all c.1)) G K a3) (QF.gy O O O (QF.not O O (QF.pick O O O ?_)))
      cases g
      exact AH O
     ·
      have g:=Av a1 g
      cases g
      exact AL O O
    refine QF.mv O O ?_
    obtain⟨a4,i,E⟩:=bd E
    refine QF.cutv 5 39 (.bool a4) ?_ ?_
    ·
     cases a5:a0
     ·
      have i:=Aw a5 i
      refine QF.gy O O O (QF.fao O LH O (QF.gy O O O (AI Ak c O mh O AN O (QF.gy O O O ?_))))
      obtain⟨cf,a6,i⟩:=bd i
      refine AZ O O O F7 O (λh' o=>A6 (St.all h') V (iq (n:=0) O) (iq (n:=240) O) a6) (QF.gy O O O (QF.not O O (QF.pick O O O ?_)))
      cases i
      exact AH O
     ·
      have i:=Av a5 i
      cases i
      exact AL O O
    refine QF.mv O O ?_
    obtain⟨a7,j,E⟩:=bd E
    refine QF.cutv 4 44 (.bool a7) ?_ ?_
    ·
     cases a8:a4
     ·
      have j:=Aw a8 j
      refine QF.gy O O O (QF.ldo (vs:=[.string b.Name,.int .i64 b.Kind,.int .i64 b.From,.int .i64 b.To,C,D,F,.int .i64 b.Positions,.int .i64 b.Speed,.int .i64 b.Leak,.int .i64 b.Crest,.int .i64 b.Num,.int .i64 b.Den,.int .i64 b.Prime,.int .i64 b.Break,.int .i64 b.BackNum,.int .i64 b.BackDen,.int .i64 b.Delay]) Ak c O mh O O C3 O O (QF.gy O O O ?_))
      have bq:=M.mono' m
      have br:=Q.mono' m
      have bt:=U.mono' m
      obtain⟨cg,a9,j⟩:=bd j
      refine AZ O O O Xy O (λh' o=>KV (St.all h') (A0.mk (x:=b) ah J G K (bq.mono' (o.all c.1)) (br.mono' (o.all c.1)) (bt.mono' (o.all c.1)) ai aj ak am an ao ap aq ar au V) a9) (QF.gy O O O (QF.not O O (QF.pick O O O ?_)))
      cases j
      exact AH O
     ·
      have j:=Av a8 j
      cases j
      exact AL O O
    refine QF.mv O O ?_
    obtain⟨bu,k,E⟩:=bd E
    refine QF.cutv 4 49 (.bool bu) ?_ ?_
    ·
     cases ba:a7
     ·
      have k:=Aw ba k
      refine QF.gy O O O (QF.ldo (vs:=[.string b.Name,.int .i64 b.Kind,.int .i64 b.From,.int .i64 b.To,C,D,F,.int .i64 b.Positions,.int .i64 b.Speed,.int .i64 b.Leak,.int .i64 b.Crest,.int .i64 b.Num,.int .i64 b.Den,.int .i64 b.Prime,.int .i64 b.Break,.int .i64 b.BackNum,.int .i64 b.BackDen,.int .i64 b.Delay]) Ak c O mh O O C3 O O (QF.gy O O O ?_))
      have bv:=M.mono' m
      have bw:=Q.mono' m
      have bx:=U.mono' m
      obtain⟨ch,bb,k⟩:=bd k
      refine AZ O O O Xx O (λh' o=>KQ (St.all h') (A0.mk (x:=b) ah J G K (bv.mono' (o.all c.1)) (bw.mono' (o.all c.1)) (bx.mono' (o.all c.1)) ai aj ak am an ao ap aq ar au V) bb) (QF.gy O O O (QF.not O O (QF.pick O O O ?_)))
      cases k
      exact AH O
     ·
      have k:=Av ba k
      cases k
      exact AL O O
    refine Ai (kp [49,7,6,1,8] O) λci H bc=>WF.if_ O (λW=>?_) (λW=>?_)
    ·
     have E:=Av W E
     refine WF.seq (WF.rp (.inl O) (QF.as_ O O (AA (kp [2] O) (WF.ret (λaa ww hf hw=>?_)))))
     have X:=H.drop .head
     cases E
     have Y:=e5.trans (t.trans (z.trans (m.trans bc)))
     exact CS hf hw O O Y ⟨O,X⟩
    ·
     have E:=Aw W E
     refine WF.skip (Al (WF.rp (.inl O) (QF.addw O O O (QF.mv O O (AA (kp [8,7,6,1] O) (WF.nil (λaa ww hf hw=>?_)))))))
     have Z:=H.drop .head
     have ab:=t.trans (z.trans (m.trans bc))
     exact⟨(Ar (u+1)),_,_,hf.sub (kp [7,6,1,8] O),hw,Z,ab,(Au _),E⟩
   ·
    have E:=Aw I E
    refine WF.exit O (λaa ww hf hw=>?_)
    exact⟨_,_,hf.sub KI,hw,y,t,E⟩
 ·
  rintro aa ww ⟨bz,b0,hf,hw,ac,be,E⟩
  refine WF.run ?_ hf hw
  clear hf hw ww aa
  rw[DC] at E
  refine WF.seq (WF.rp (.inl O) (QF.as_ O O (AA (kp [2] O) (WF.ret (λaa ww hf hw=>?_)))))
  cases E
  exact CS hf hw O O (e5.trans be) ⟨O,ac⟩
theorem K4 (hs:St S L h) {b:Value}{j:AJ}(d:Rd S h A3 b j) {a:Int}(g:AB a) {c:Int}(m:AB c) {r:Bool}(E:G0 N j a c=some r):
 BP Tryz.prog 95 #[b,.int .i64 a,.int .i64 c] S h (λv S' h'=>v= .bool r∧St S' (L) h'):=by
 refine Ac (l:=[b,.int .i64 a,.int .i64 c]) 27 Tryz.func95 O Tryz.ntmps95 O λB=>?_
 rw[G0] at E
 refine WF.seq (WF.rl (LF.boxp O d (λe=>by cases e) O hs λF G H i u w=>LF.q 1 (QF.as_ O O (AE (LF.nil (kp [3,1,2] O) (WF.seq (WF.seq (WF.rp (.inl O) (QF.mv O O (QF.eql O O O (AA (kp [9,3,1,2] O) (WF.if_ O (λo=>?_) (λo=>?_)))))))))))))
 ·
  have E:=Av o E
  refine WF.seq (WF.rp (.inl O) (QF.mv O O (QF.eql O O O (QF.as_ O O (AA (kp [6] O) (WF.ret (λaa ww hf hw=>?_)))))))
  cases E
  exact CS hf hw O O u ⟨O,i⟩
 ·
  have E:=Aw o E
  refine WF.skip (WF.seq (WF.rp (.inl O) (QF.fa O w Ah Bs O λI x=>QF.ldl Aa i.1 O x EY O λy p=>QF.mv O O ?_)))
  obtain⟨k,n,E⟩:=bd E
  refine QF.ixe O O p Dk n O λz s=>QF.fa O s GN Jn O λA t=>QF.ldi Aa i.1 O t AN O λC=>QF.as_ O O (AA (kp [7,1] O) (WF.seq (WF.rp (.inl O) (QF.mv O O (QF.mv O O (QF.eql O O O (QF.mv O O (QF.cutv 5 26 (.bool ((decide (k.Office=a))||(decide (k.Office=(Ar (a+1)))))) ?_ ?_))))))))
  ·
   cases D:(decide (k.Office=a))
   ·exact QF.gy O O O (QF.mv O O (QF.gy O O O (QF.mv O O (QF.gy O O O (QF.addw O O O (QF.gy O O O (QF.eql O O O (QF.pick O O O (AH O)))))))))
   ·exact AL O O
  refine QF.as_ O O (AA (kp [6] O) (WF.ret (λaa ww hf hw=>?_)))
  cases E
  exact CS hf hw O O u ⟨O,i⟩
theorem Ju (hs:St S L h) {k:Value}{j:AJ}(F:Rd S h A3 k j) {r:Bool}(E:EX N j=some r):
 BP Tryz.prog 40 #[k] S h (λv S' h'=>v= .bool r∧St S' (L) h'):=by
 refine Ac (l:=[k]) 60 Tryz.func40 O Tryz.ntmps40 O λB=>?_
 rw[EX] at E
 refine WF.seq (WF.rl (LF.boxp O F (λe=>by cases e) O hs λq1 S2 h3 aq e5 k6=>LF.q 1 (QF.as_ O O (AE (LF.nil (kp [1] O) (WF.seq (WF.seq (WF.rp (.inl O) (QF.fa O k6 Ah Bs O λq7 k8=>QF.ldl Aa aq.1 O k8 EY O λv9 ar=>QF.len O ar Dk O λc3=>QF.mv O O ?_)))))))))
 refine AA (kp [11,10,9,1] O) (WF.blockJ (λa w=>IV B S2 h3 (60,[]) a w [(1,q1)] (L) λ_ _=>Bi N j=some r) ?_ ?_)
 ·
  refine WF.loopF (λn1=>λa w=>∃(p:Int),IV B S2 h3 (60,[]) a w [(10,.int .i64 (↑j.Places.length:Int)),(9,v9),(1,q1),(11,.int .i64 p)] (L) λ_ _=>AB p∧Bh N j (Bi N j) n1 p=some r) N ?_ ?_ ?_
  ·
   intro aa ww hf hw
   exact⟨0,_,_,hf.sub (kp [10,9,1,11] O),hw,aq,(BO.refl S2 h3),(iq (n:=0) O),E⟩
  ·
   rintro aa ww ⟨_,_,_,_,_,_,_,_,E⟩
   rw[Bh] at E;cases E
  ·
   rintro n1 aa ww ⟨p,c4,c5,hf,hw,s,t,c6,E⟩
   refine WF.run ?_ hf hw
   clear hf hw ww aa
   rw[Bh] at E
   refine WF.seq (WF.rp (.inl O) (QF.lss O O O (AA (kp [12,10,9,1,11] O) (WF.seq (WF.if_ O (λX=>?_) (λX=>?_))))))
   ·
    have E:=Av X E
    refine WF.skip (WF.seq (WF.block (WF.seq (WF.rl (LF.q 2 ?_)))))
    have bt:=ar.mono' t
    obtain⟨d,au,E⟩:=bd E
    refine QF.ixe O O bt Dk au O λc7 bu=>QF.ld Aa s.1 O bu HV (λe=>by cases e) O λc8 bv=>AE (LF.al Lw O s λc9 da av G=>?_)
    have bw:=bv.mono G
    obtain⟨aw,ax,ay,rfl,db,dc,bx,dd,bz,b0,de,df,b1,dg,dh,b2⟩:=A7.ex bw
    refine LF.st (vs:=[.string d.Name,.int .i64 d.Kind,.int .i64 d.Office,.int .i64 d.Cap,aw,ax,.int .i64 d.Num,.int .i64 d.Den,.int .i64 d.Down,.int .i64 d.Delay,.int .i64 d.Floor,ay]) (cs':=[.string d.Name,.int .i64 d.Kind,.int .i64 d.Office,.int .i64 d.Cap,aw,ax,.int .i64 d.Num,.int .i64 d.Den,.int .i64 d.Down,.int .i64 d.Delay,.int .i64 d.Floor,ay]) O O O (AC O (AC O (AC O (AC O (AC bz.one (AC b0.one (AC O (AC O (AC O (AC O (AC O (AC b2.one C6)))))))))))) HV O av .head O O λdi m Y=>LF.nil (kp [4,10,9,1,11] O) (WF.seq (WF.rc (.inl O) m ?_))
    have az:=t.trans (G.trans Y)
    have b3:=k6.mono az
    refine QF.ld Ak m.1 O b3 D1 (λe=>by cases e) O λdj b4=>QF.fao O Jn O (AI Ak m O mh O AN O (QF.fao O NL O (AI Ak m O mh O AN O ?_)))
    obtain⟨dk,a0,E⟩:=bd E
    refine AZ O O O VH O (λh' o=>K4 (St.all h') (b4.mono (o.all m.1)) bx b1 a0) (QF.not O O (Ai (kp [21,10,9,1,11] O) λdl I a1=>WF.if_ O (λZ=>?_) (λZ=>?_)))
    ·
     have E:=Av Z E
     refine WF.seq (WF.rp (.inl O) (QF.as_ O O (AA (kp [2] O) (WF.ret (λaa ww hf hw=>?_)))))
     have a2:=I.drop .head
     cases E
     have a3:=e5.trans (t.trans (G.trans (Y.trans a1)))
     exact CS hf hw O O a3 ⟨O,a2⟩
    ·
     have E:=Aw Z E
     refine WF.skip (Al (WF.rp (.inl O) (QF.addw O O O (QF.mv O O (AA (kp [11,10,9,1] O) (WF.nil (λaa ww hf hw=>?_)))))))
     have a4:=I.drop .head
     have a5:=t.trans (G.trans (Y.trans a1))
     exact⟨(Ar (p+1)),_,_,hf.sub (kp [10,9,1,11] O),hw,a4,a5,(Au _),E⟩
   ·
    have E:=Aw X E
    refine WF.exit O (λaa ww hf hw=>?_)
    exact⟨_,_,hf.sub (kp [1] O),hw,s,t,E⟩
 ·
  rintro aa ww ⟨ab,ac,hf,hw,J,ad,E⟩
  refine WF.run ?_ hf hw
  clear hf hw ww aa
  rw[Bi] at E
  refine WF.seq (WF.seq (WF.rp (.inl O) ?_))
  have a6:=k6.mono ad
  refine QF.fa O a6 AJ.f_Links EE O λdm b5=>QF.ldl Aa J.1 O b5 G7 O λb6 a7=>QF.len O a7 FT O λdn=>QF.mv O O (AA (kp [26,25,24,1] O) (WF.blockJ (λa w=>IV B ab ac (60,[]) a w [] (L) λ_ _=>Ch N=some r) ?_ ?_))
  ·
   refine WF.loopF (λn3=>λa w=>∃(u:Int),IV B ab ac (60,[]) a w [(25,.int .i64 (↑j.Links.length:Int)),(24,b6),(1,q1),(26,.int .i64 u)] (L) λ_ _=>AB u∧Bg N j (Ch N) n3 u=some r) N ?_ ?_ ?_
   ·
    intro aa ww hf hw
    exact⟨0,_,_,hf.sub (kp [25,24,1,26] O),hw,J,(BO.refl ab ac),(iq (n:=0) O),E⟩
   ·
    rintro aa ww ⟨_,_,_,_,_,_,_,_,E⟩
    rw[Bg] at E;cases E
   ·
    rintro n3 aa ww ⟨u,dp,dq,hf,hw,x,y,dr,E⟩
    refine WF.run ?_ hf hw
    clear hf hw ww aa
    rw[Bg] at E
    refine WF.seq (WF.rp (.inl O) (QF.lss O O O (AA (kp [27,25,24,1,26] O) (WF.seq (WF.if_ O (λae=>?_) (λae=>?_))))))
    ·
     have E:=Av ae E
     refine WF.skip (WF.seq (WF.block (WF.seq (WF.rl (LF.q 2 ?_)))))
     have b7:=a7.mono' y
     obtain⟨b,a8,E⟩:=bd E
     refine QF.ixe O O b7 FT a8 O λds b8=>QF.ld Aa x.1 O b8 C3 (λe=>by cases e) O λdt b9=>AE (LF.al KX O x λdu dv a9 H=>?_)
     have ca:=b9.mono H
     obtain⟨K,M,Q,rfl,dw,dx,dy,cb,ba,bb,bc,cc,cd,ce,cf,cg,ch,ci,cj,ck,cl,cm⟩:=A0.ex ca
     refine LF.st (vs:=[.string b.Name,.int .i64 b.Kind,.int .i64 b.From,.int .i64 b.To,K,M,Q,.int .i64 b.Positions,.int .i64 b.Speed,.int .i64 b.Leak,.int .i64 b.Crest,.int .i64 b.Num,.int .i64 b.Den,.int .i64 b.Prime,.int .i64 b.Break,.int .i64 b.BackNum,.int .i64 b.BackDen,.int .i64 b.Delay]) (cs':=[.string b.Name,.int .i64 b.Kind,.int .i64 b.From,.int .i64 b.To,K,M,Q,.int .i64 b.Positions,.int .i64 b.Speed,.int .i64 b.Leak,.int .i64 b.Crest,.int .i64 b.Num,.int .i64 b.Den,.int .i64 b.Prime,.int .i64 b.Break,.int .i64 b.BackNum,.int .i64 b.BackDen,.int .i64 b.Delay]) O O O (AC O (AC O (AC O (AC O (AC ba.one (AC bb.one (AC bc.one (AC O (AC O (AC O (AC O (AC O (AC O (AC O (AC O (AC O (AC O (AC O C6)))))))))))))))))) C3 O a9 .head O O λcn c z=>LF.nil (kp [6,25,24,1,26] O) (WF.seq (WF.rp (.inl O) ?_))
     have af:=y.trans (H.trans z)
     have A:=a6.mono af
     refine QF.fa O A Ah Bs O λco be=>QF.ldl Aa c.1 O be EY O λcp bf=>QF.fao O Gd O (AI Aa c O mh O AN O ?_)
     obtain⟨cq,ag,E⟩:=bd E
     refine QF.ixe O O bf Dk ag O λcr bg=>QF.fa O bg GN Jn O λcs bh=>QF.ldi Aa c.1 O bh AN O λbi=>QF.as_ O O (AA (kp [7,6,25,24,1,26] O) (WF.seq (WF.rc (.inl O) c (QF.ld Ak c.1 O A D1 (λe=>by cases e) O λct bj=>QF.mv O O (QF.fao O E8 O (AI Ak c O mh O AN O ?_))))))
     obtain⟨bk,ah,E⟩:=bd E
     refine AZ O O O VH O (λh' o=>K4 (St.all h') (bj.mono (o.all c.1)) bi cb ah) (QF.not O O (QF.mv O O ?_))
     obtain⟨bl,g,E⟩:=bd E
     refine QF.cutv 15 58 (.bool bl) ?_ ?_
     ·
      cases U:(!bk)
      ·
       have g:=Aw U g
       refine QF.gy O O O (QF.fao O Ck O (QF.gy O O O (AI Ak c O mh O AN O (QF.gy O O O (QF.eql O O O (QF.gy O O O (QF.mv O O ?_)))))))
       obtain⟨bm,i,g⟩:=bd g
       refine QF.cutv 10 57 (.bool bm) ?_ ?_
       ·
        cases V:(decide (b.Kind=4))
        ·
         have i:=Aw V i
         cases i
         exact AL O O
        ·
         have i:=Av V i
         refine QF.gy O O O (QF.fa O A Ah Bs O λcu bn=>QF.gy O O O (QF.ldl Ak c.1 O bn EY O λcv bo=>QF.gy O O O (QF.fao O E8 O (QF.gy O O O (AI Ak c O mh O AN O (QF.gy O O O ?_))))))
         obtain⟨cw,ai,i⟩:=bd i
         refine QF.ixe O O bo Dk ai O λcx bp=>QF.gy O O O (QF.fa O bp GN Jn O λcy bq=>QF.gy O O O (QF.ldi Ak c.1 O bq AN O λcz=>QF.gy O O O (QF.mv O O (QF.gy O O O (QF.neq O O O (QF.gy O O O (QF.pick O O O ?_)))))))
         cases i
         exact AH O
       refine QF.pick O O O ?_
       cases g
       exact AH O
      ·
       have g:=Av U g
       cases g
       exact AL O O
     refine Ai (kp [58,25,24,1,26] O) λc0 C W=>WF.if_ O (λD=>?_) (λD=>?_)
     ·
      have E:=Av D E
      refine WF.seq (WF.rp (.inl O) (QF.as_ O O (AA (kp [2] O) (WF.ret (λaa ww hf hw=>?_)))))
      have aj:=C.drop .head
      cases E
      have ak:=e5.trans (ad.trans (y.trans (H.trans (z.trans W))))
      exact CS hf hw O O ak ⟨O,aj⟩
     ·
      have E:=Aw D E
      refine WF.skip (Al (WF.rp (.inl O) (QF.addw O O O (QF.mv O O (AA (kp [26,25,24,1] O) (WF.nil (λaa ww hf hw=>?_)))))))
      have am:=C.drop .head
      have an:=y.trans (H.trans (z.trans W))
      exact⟨(Ar (u+1)),_,_,hf.sub (kp [25,24,1,26] O),hw,am,an,(Au _),E⟩
    ·
     have E:=Aw ae E
     refine WF.exit O (λaa ww hf hw=>?_)
     exact⟨_,_,hf.sub KI,hw,x,y,E⟩
  ·
   rintro aa ww ⟨c1,c2,hf,hw,ao,br,E⟩
   refine WF.run ?_ hf hw
   clear hf hw ww aa
   rw[Ch] at E
   refine WF.seq (WF.rp (.inl O) (QF.as_ O O (AA (kp [2] O) (WF.ret (λaa ww hf hw=>?_)))))
   cases E
   have ap:=e5.trans (ad.trans br)
   exact CS hf hw O O ap ⟨O,ao⟩
theorem FP (hs:St S L h) {b:Int}(m:AB b) {c:Int}(q:AB c) {r:Int}(E:Dm N b c=some r):
 BP Tryz.prog 96 #[.int .i64 b,.int .i64 c] S h (λv S' h'=>v= .int .i64 r∧AB r∧St S' (L) h'):=by
 refine Ac (l:=[.int .i64 b,.int .i64 c]) 34 Tryz.func96 O Tryz.ntmps96 O λB=>?_
 rw[Dm] at E
 refine WF.seq (WF.rp (.inl O) (QF.as_ O O (AA (kp [0,1] O) (WF.seq (WF.seq (WF.rp (.inl O) (QF.mv O O (QF.eql O O O (AA (kp [10,0,1] O) (WF.if_ O (λy=>?_) (λy=>?_)))))))))))
 ·
  have E:=Av y E
  refine WF.seq (WF.rp (.inl O) (QF.as_ O O (AA (kp [4] O) (WF.ret (λaa ww hf hw=>?_)))))
  cases E
  exact CS hf hw O O (BO.refl S h) ⟨O,(iq (n:=0) O),hs⟩
 ·
  have E:=Aw y E
  refine WF.skip (WF.seq (WF.seq (WF.rp (.inl O) (QF.mv O O (QF.mv O O (QF.gtr O O O (AA (kp [13,0,1] O) (WF.if_ O (λz=>?_) (λz=>?_)))))))))
  ·
   have E:=Av z E
   refine WF.seq (WF.rp (.inl O) (QF.as_ O O (AA (kp [4] O) (WF.ret (λaa ww hf hw=>?_)))))
   cases E
   exact CS hf hw O O (BO.refl S h) ⟨O,(iq (n:=1099511627777) O),hs⟩
  ·
   have E:=Aw z E
   refine WF.skip (WF.seq (WF.rc (.inl O) hs (QF.mv O O (QF.convk O Lh JH O ?_))))
   obtain⟨x,A,E⟩:=bd E
   refine GL (v:= .tuple #[.int .u64 x.1,.int .u64 x.2]) (Ψ:=IntKind.has .u64 x.1∧IntKind.has .u64 x.2) O O O Ts O (λh' o=>(IP (St.all h') (Cf _ _) (show IntKind.has .u64 1099511627776 by first|assumption|exact⟨by decide,by decide⟩) A).mono λ_ _ _ _ p=>⟨p.1,⟨p.2.1,p.2.2.1⟩⟩) λI=>?_
   obtain⟨J,K⟩:=I
   refine QF.mv O O (QF.ext O O O (QF.ext O O O (QF.as_ O O (QF.as_ O O (Ai (kp [6,5,1] O) λX C M=>WF.seq (WF.rc (.inl O) C (QF.mv O O (QF.mv O O (QF.mv O O (QF.convk O Lh JH O ?_))))))))))
   obtain⟨d,s,E⟩:=bd E
   refine GL (v:= .tuple #[.int .u64 d.1,.int .u64 d.2]) (Ψ:=IntKind.has .u64 d.1∧IntKind.has .u64 d.2) O O O Tr O (λh' o=>(IQ (St.all h') J K (Cf _ _) s).mono λ_ _ _ _ p=>⟨p.1,⟨p.2.1,p.2.2.1⟩⟩) λD=>?_
   obtain⟨F,Q⟩:=D
   refine QF.mv O O (QF.ext O O O (QF.ext O O O (QF.as_ O O (QF.as_ O O (Ai (kp [8,7] O) λj i G=>WF.seq (WF.seq (WF.rp (.inl O) (QF.mv O O (QF.neq O O O (AA (kp [29,7] O) (WF.cut (λa w=>∃(g:Int),IV B S j (34,[]) a w [(7,.int .u64 g)] (L) λ_ _=>IntKind.has .u64 g∧Gz N g=some r) ?_ ?_)))))))))))
   ·
    refine WF.if_ O (λk=>?_) (λk=>?_)
    ·
     have E:=Av k E
     refine WF.rp (.inl O) (QF.mv O O (QF.addk O O O (QF.as_ O O (AA (kp [7] O) (WF.nil (λaa ww hf hw=>?_))))))
     exact⟨(IntKind.wrap .u64 (d.1+1)),_,_,hf.sub (kp [7] O),hw,i,(BO.refl S j),(Cf _ _),E⟩
    ·
     have E:=Aw k E
     refine WF.skip (WF.nil (λaa ww hf hw=>?_))
     exact⟨d.1,_,_,hf.sub (kp [7] O),hw,i,(BO.refl S j),F,E⟩
   ·
    rintro aa ww ⟨g,U,V,hf,hw,t,H,W,E⟩
    refine WF.run ?_ hf hw
    clear hf hw ww aa
    rw[Gz] at E
    refine WF.seq (WF.rp (.inl O) (QF.mv O O (QF.convk O JH Lh O (QF.as_ O O (AA (kp [4] O) (WF.ret (λaa ww hf hw=>?_)))))))
    cases E
    have u:=M.trans (G.trans H)
    exact CS hf hw O O u ⟨O,(Au _),t⟩
theorem Lu (hs:St S L h) {c:Value}{b:(List (List BA))}(d:Sl S h (AW.sl A8) c b) {r:Int}(E:F6 N b=some r):
 BP Tryz.prog 97 #[c] S h (λv S' h'=>v= .int .i64 r∧AB r∧St S' (L) h'):=by
 refine Ac (l:=[c]) 48 Tryz.func97 O Tryz.ntmps97 O λB=>?_
 rw[F6] at E
 refine WF.seq (WF.rp (.inl O) (QF.as_ O O (AA (kp [0] O) (WF.seq (WF.rp (.inl O) (QF.as_ O O (AA (kp [3,0] O) (WF.seq (WF.seq (WF.rp (.inl O) (QF.mv O O (QF.len O d SX O λb1=>QF.mv O O ?_))))))))))))
 refine AA (kp [9,8,7,3] O) (WF.blockJ (λa w=>∃(U:Int),IV B S h (48,[]) a w [(3,.int .i64 U)] (L) λ_ _=>AB U∧B1 N U=some r) ?_ ?_)
 ·
  refine WF.loopF (λV=>λa w=>∃(A:Int) (i:Int),IV B S h (48,[]) a w [(8,.int .i64 (↑b.length:Int)),(7,c),(3,.int .i64 A),(9,.int .i64 i)] (L) λ_ _=>AB A∧AB i∧BS N b (B1 N) V A i=some r) N ?_ ?_ ?_
  ·
   intro aa ww hf hw
   exact⟨0,0,_,_,hf.sub (kp [8,7,3,9] O),hw,hs,(BO.refl S h),(iq (n:=0) O),(iq (n:=0) O),E⟩
  ·
   rintro aa ww ⟨_,_,_,_,_,_,_,_,_,_,E⟩
   rw[BS] at E;cases E
  ·
   rintro V aa ww ⟨A,i,t,u,hf,hw,m,x,r9,ay,E⟩
   refine WF.run ?_ hf hw
   clear hf hw ww aa
   rw[BS] at E
   refine WF.seq (WF.rp (.inl O) (QF.lss O O O (AA (kp [10,8,7,3,9] O) (WF.seq (WF.if_ O (λy=>?_) (λy=>?_))))))
   ·
    have E:=Av y E
    refine WF.skip (WF.seq (WF.blockJ (λa w=>∃(p:Int),IV B t u (48,[]) a w [(8,.int .i64 (↑b.length:Int)),(7,c),(9,.int .i64 i),(3,.int .i64 p)] (L) λ_ _=>AB p∧C4 N i (BS N b (B1 N) V) p=some r) ?_ ?_))
    ·
     refine WF.seq (WF.rp (.inl O) ?_)
     have W:=d.mono' x
     obtain⟨X,C,E⟩:=bd E
     refine QF.ixe O O W SX C O λaz Y=>QF.ldl Aa m.1 O Y GU O λZ q=>QF.as_ O O (AA (kp [5,8,7,3,9] O) (WF.seq (WF.rp (.inl O) (QF.as_ O O (AA (kp [6,5,8,7,3,9] O) (WF.block (WF.loopF (λn3=>λa w=>∃(k:Int) (s:Int),IV B t u (48,[]) a w [(5,Z),(8,.int .i64 (↑b.length:Int)),(7,c),(9,.int .i64 i),(3,.int .i64 k),(6,.int .i64 s)] (L) λ_ _=>AB k∧AB s∧CX N X (C4 N i (BS N b (B1 N) V)) n3 k s=some r) N ?_ ?_ ?_)))))))
     ·
      intro aa ww hf hw
      exact⟨A,1,_,_,hf.sub (kp [5,8,7,9,3,6] O),hw,m,(BO.refl t u),r9,(iq (n:=1) O),E⟩
     ·
      rintro aa ww ⟨_,_,_,_,_,_,_,_,_,_,E⟩
      rw[CX] at E;cases E
     ·
      rintro n3 aa ww ⟨k,s,a0,a1,hf,hw,g,j,D,a2,E⟩
      refine WF.run ?_ hf hw
      clear hf hw ww aa
      rw[CX] at E
      refine WF.seq (WF.seq (WF.rp (.inl O) (QF.mv O O (QF.mv O O ?_))))
      have ab:=q.mono' j
      refine QF.len O ab GG O λa3=>QF.lss O O O (AA (kp [16,5,8,7,9,3,6] O) (WF.if_ O (λz=>?_) (λz=>?_)))
      ·
       have E:=Av z E
       refine WF.skip (WF.seq (WF.block (WF.rc (.inr ⟨mo,by kernel_rfl⟩) g (QF.mv O O (QF.mv O O (QF.mv O O ?_))))))
       have ac:=q.mono' j
       obtain⟨a4,F,E⟩:=bd E
       refine QF.ixe O O ac GG F O λa5 ad=>QF.fa O ad Iz GW O λa6 ae=>QF.ldi Ak g.1 O ae AN O λa7=>QF.mv O O (QF.mv O O (QF.subw O O O ?_))
       have af:=q.mono' j
       obtain⟨a8,G,E⟩:=bd E
       refine QF.ixe O O af GG G O λa9 ag=>QF.fa O ag Iz GW O λba ah=>QF.ldi Ak g.1 O ah AN O λbb=>QF.subw O O O (QF.mv O O (QF.mv O O ?_))
       have ai:=q.mono' j
       obtain⟨bc,H,E⟩:=bd E
       refine QF.ixe O O ai GG H O λbe aj=>QF.fa O aj I0 HF O λbf ak=>QF.ldi Ak g.1 O ak AN O λbg=>QF.mv O O (QF.mv O O (QF.subw O O O ?_))
       have am:=q.mono' j
       obtain⟨bh,I,E⟩:=bd E
       refine QF.ixe O O am GG I O λbi an=>QF.fa O an I0 HF O λbj ao=>QF.ldi Ak g.1 O ao AN O λbk=>QF.subw O O O ?_
       obtain⟨ap,J,E⟩:=bd E
       refine Af O O O OQ O (λh' o=>FP (St.all h') (Au _) (Au _) J) λaq=>?_
       have ar:=aq
       refine QF.max O O O (QF.as_ O O (Ai (kp [3,5,8,7,9,6] O) λbl K au=>Al (WF.rp (.inl O) (QF.mv O O (QF.addw O O O (QF.as_ O O (AA (kp [6,3,5,8,7,9] O) (WF.nil (λaa ww hf hw=>?_)))))))))
       exact⟨(max k ap),(Ar (s+1)),_,_,hf.sub (kp [5,8,7,9,3,6] O),hw,K,(j.trans au),(GQ D ar),(Au _),E⟩
      ·
       have E:=Aw z E
       refine Ja O (WF.nil (λaa ww hf hw=>?_))
       exact⟨k,_,_,hf.sub (kp [8,7,9,3] O),hw,g,j,D,E⟩
    ·
     rintro aa ww ⟨p,bm,bn,hf,hw,M,av,aw,E⟩
     refine WF.run ?_ hf hw
     clear hf hw ww aa
     rw[C4] at E
     refine WF.rp (.inl O) (QF.addw O O O (QF.mv O O (AA (kp [9,8,7,3] O) (WF.nil (λaa ww hf hw=>?_)))))
     exact⟨p,(Ar (i+1)),_,_,hf.sub (kp [8,7,3,9] O),hw,M,(x.trans av),aw,(Au _),E⟩
   ·
    have E:=Aw y E
    refine WF.exit O (λaa ww hf hw=>?_)
    exact⟨A,_,_,hf.sub (kp [3] O),hw,m,x,r9,E⟩
 ·
  rintro aa ww ⟨U,bo,bp,hf,hw,Q,ax,r3,E⟩
  refine WF.run ?_ hf hw
  clear hf hw ww aa
  rw[B1] at E
  refine WF.seq (WF.rp (.inl O) (QF.mv O O (QF.as_ O O (AA (kp [2] O) (WF.ret (λaa ww hf hw=>?_))))))
  cases E
  exact CS hf hw O O ax ⟨O,r3,Q⟩
end Go.Proofs.YtibidnaedddfdaaGreat
