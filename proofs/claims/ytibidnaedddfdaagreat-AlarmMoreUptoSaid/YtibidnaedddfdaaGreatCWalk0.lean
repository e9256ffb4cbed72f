import Derived.Test.YtibidnaedddfdaaGreatCFacts
import Derived.Test.YtibidnaedddfdaaGreatCForms
import Derived.Test.YtibidnaedddfdaaGreatCInsert
namespace Go.Proofs.YtibidnaedddfdaaGreat
open Go.RowKit
set_option linter.unusedVariables false
set_option linter.unusedSimpArgs false
set_option maxRecDepth 10000
set_option maxHeartbeats 2000000
variable {N:Nat}{S:Nat→Prop}{L:List HP}{h:AX}
theorem MS (hs:St S L h) {c:Value}{g:EM}(k:Rd S h EK c g) {d:Value}{b:B4}(m:Rd S h G2 d b) {r:Int}(E:IU N g b=some r):
 Bf Tryz.prog 153 #[c,d] S h (λv S' h'=>v= .int .i64 r∧AB r∧St S' (L) h'):=by
 refine Ab (l:=[c,d]) 38 Tryz.func153 O Tryz.ntmps153 O λB=>?_
 rw[IU] at E
 refine WF.seq (WF.rl (LF.boxp O k (λe=>by cases e) O hs λq1 S2 h3 u t I=>?_))
 have J:=m.mono t
 refine LF.boxp O J (λe=>by cases e) O u λq8 S9 K a i j=>LF.q 1 (QF.as_ O O (AG (LF.nil (kp [3,2] O) (WF.seq (WF.block (WF.seq (WF.rp (.inl O) (QF.fa O j B4.f_Crest Kd O λM w=>QF.ldi Af a.1 O w AL O λQ=>QF.geq O O O (QF.mv O O (QF.cutv 7 16 (.bool ((decide (0≤b.Crest))&&(decide (b.Crest≤(Aw (g.Lead+1)))))) ?_ ?_))))))))))
 ·
  cases U:(decide (0≤b.Crest))
  ·exact AK O O
  ·
   refine QF.gy O O O (QF.fa O j B4.f_Crest Kd O λV x=>QF.gy O O O (QF.ldi Af a.1 O x AL O λW=>QF.gy O O O ?_))
   have y:=I.mono i
   exact QF.fa O y L8 Nb O λX z=>QF.gy O O O (QF.ldi Af a.1 O z AL O λY=>QF.gy O O O (QF.addw O O O (QF.gy O O O (QF.leq O O O (QF.pick O O O (AH O))))))
 refine QF.as_ O O (AA (kp [5,3,2] O) (WF.if_ O (λo=>?_) (λo=>?_)))
 ·
  have E:=A0 o E
  refine WF.seq (WF.rp (.inl O) (QF.as_ O O (AA (kp [4] O) (WF.ret (λaa ww hf hw=>?_)))))
  cases E
  exact DD hf hw O O (t.trans i) ⟨O,(iq (n:=3) O),a⟩
 ·
  have E:=A3 o E
  refine WF.seq (WF.rp (.inl O) (QF.fa O j B4.f_Crest Kd O λZ A=>QF.ldi Af a.1 O A AL O λab=>QF.geq O O O (QF.mv O O (QF.cutv 8 29 (.bool ((decide (0≤b.Crest))&&(decide (b.Crest≤(Aw ((Aw (2*g.Lead))+2)))))) ?_ ?_))))
  ·
   cases ac:(decide (0≤b.Crest))
   ·exact AK O O
   ·
    refine QF.gy O O O (QF.fa O j B4.f_Crest Kd O λad C=>QF.gy O O O (QF.ldi Af a.1 O C AL O λae=>QF.gy O O O ?_))
    have D:=I.mono i
    exact QF.fa O D L8 Nb O λaf F=>QF.gy O O O (QF.ldi Af a.1 O F AL O λag=>QF.gy O O O (QF.mulw O O O (QF.gy O O O (QF.addw O O O (QF.gy O O O (QF.leq O O O (QF.pick O O O (AH O))))))))
  refine QF.as_ O O (AA (kp [17,3] O) (WF.if_ O (λp=>?_) (λp=>?_)))
  ·
   have E:=A0 p E
   refine WF.seq (WF.rp (.inl O) (QF.as_ O O (AA (kp [4] O) (WF.ret (λaa ww hf hw=>?_)))))
   cases E
   exact DD hf hw O O (t.trans i) ⟨O,(iq (n:=2) O),a⟩
  ·
   have E:=A3 p E
   refine WF.seq (WF.rp (.inl O) (QF.fa O j B4.f_Crest Kd O λah G=>QF.ldi Af a.1 O G AL O λai=>QF.geq O O O (QF.mv O O (QF.cutv 3 37 (.bool ((decide (0≤b.Crest))||b.Quorum)) ?_ ?_))))
   ·
    cases aj:(decide (0≤b.Crest))
    ·exact QF.gy O O O (QF.fa O j B4.f_Quorum Vs O λak H=>QF.gy O O O (QF.ldb Af a.1 O H ME O (QF.pick O O O (AH O))))
    ·exact AK O O
   refine QF.as_ O O (AA (kp [30] O) (WF.if_ O (λs=>?_) (λs=>?_)))
   ·
    have E:=A0 s E
    refine WF.seq (WF.rp (.inl O) (QF.as_ O O (AA (kp [4] O) (WF.ret (λaa ww hf hw=>?_)))))
    cases E
    exact DD hf hw O O (t.trans i) ⟨O,(iq (n:=1) O),a⟩
   ·
    have E:=A3 s E
    refine WF.skip (Ap (WF.seq (WF.rp (.inl O) (QF.as_ O O (AA (kp [4] O) (WF.ret (λaa ww hf hw=>?_)))))))
    cases E
    exact DD hf hw O O (t.trans i) ⟨O,(iq (n:=0) O),a⟩
theorem Nq (hs:St S L h) {d:Value}{F:EM}(z:Rd S h EK d F) {g:Value}{b:Bj}(A:Rd S h Fe g b) {i:Value}{y:B4}(C:Rd S h G2 i y) {r:Bj}(E:JR N F b y=some r):
 Bf Tryz.prog 118 #[d,g,i] S h (λv S' h'=>v= .agg #[.int .i64 r.Level,.int .i64 r.Calm,.int .i64 r.Then]∧Bj.ok r∧St S' (L) h'):=by
 refine Ab (l:=[d,g,i]) 49 Tryz.func118 O Tryz.ntmps118 O λB=>?_
 rw[JR] at E
 refine WF.seq (WF.rl (LF.boxp O z (λe=>by cases e) O hs λq1 S2 h3 au e5 k6=>?_))
 have k7:=A.mono e5
 refine LF.boxp O k7 (λe=>by cases e) O au λq8 S9 bk ab s av=>?_
 have aw:=C.mono (e5.trans s)
 refine LF.boxp O aw (λe=>by cases e) O ab λbl K bm ac t ax=>LF.al Sx O ac λad bn j p=>LF.nil (kp [6,5,4,3] O) (WF.seq (WF.rc (.inl O) j ?_))
 have ae:=s.trans (t.trans p)
 have ay:=k6.mono ae
 refine QF.ld Ai j.1 O ay Iw (λe=>by cases e) O λbo az=>?_
 have af:=ax.mono p
 refine QF.ld Ai j.1 O af MW (λe=>by cases e) O λbp a0=>?_
 obtain⟨D,ag,E⟩:=bd E
 refine Ao O O O Xh O (λh' o=>MS (St.all h') (az.mono (o.all j.1)) (a0.mono (o.all j.1)) ag) λa1=>?_
 have M:=a1
 refine QF.as_ O O (Ak (kp [7,6,5,4] O) λQ c u=>WF.seq (WF.seq (WF.rp (.inl O) (QF.mv O O ?_))))
 have ah:=t.trans (p.trans u)
 have x:=av.mono ah
 refine QF.fa O x Bj.f_Level KC O λbq a2=>QF.ldi Af c.1 O a2 AL O λbr=>QF.geq O O O (AA (kp [15,7,6,5,4] O) (WF.if_ O (λU=>?_) (λU=>?_)))
 ·
  have E:=A0 U E
  refine WF.seq (WF.rl (LF.q 2 (QF.mv O O (QF.bld (cs:=[.int .i64 D,.int .i64 0,.int .i64 0]) NG O O O (AG (Ad (vs:=[.int .i64 D,.int .i64 0,.int .i64 0]) O O O O Hw O c .head O λbt G a3=>LF.nil (kp [6] O) (WF.ret (λaa ww hf hw=>?_))))))))
  have ai:=G.drop .head
  cases E
  have aj:=e5.trans (s.trans (t.trans (p.trans (u.trans a3))))
  exact HQ hf O hw (Gk (LD hf hw G O mh Hw O) HC) O aj ⟨O,⟨M,(iq (n:=0) O),(iq (n:=0) O)⟩,ai⟩
 ·
  have E:=A3 U E
  refine WF.skip (WF.seq (WF.seq (WF.rp (.inl O) (QF.fa O x Bj.f_Level KC O λbu a4=>QF.ldi Af c.1 O a4 AL O λbv=>QF.geq O O O (QF.mv O O (QF.cutv 4 25 (.bool ((decide (3≤b.Level))&&(decide (0≤y.Crest)))) ?_ ?_))))))
  ·
   cases bw:(decide (3≤b.Level))
   ·exact AK O O
   ·
    refine QF.gy O O O ?_
    have a5:=af.mono u
    exact QF.fa O a5 B4.f_Crest Kd O λbx a6=>QF.gy O O O (QF.ldi Af c.1 O a6 AL O λbz=>QF.gy O O O (QF.geq O O O (QF.pick O O O (AH O))))
  refine AA (kp [25,7,6,4] O) (WF.if_ O (λV=>?_) (λV=>?_))
  ·
   have E:=A0 V E
   refine WF.seq (WF.rl (LF.q 3 (QF.fa O x Bj.f_Level KC O λb0 a7=>QF.ldi Af c.1 O a7 AL O λa8=>QF.bld (cs:=[.int .i64 b.Level,.int .i64 0,.int .i64 0]) NG O O O (AG (Ad (vs:=[.int .i64 b.Level,.int .i64 0,.int .i64 0]) O O O O Hw O c .head O λb1 H a9=>LF.nil (kp [6] O) (WF.ret (λaa ww hf hw=>?_)))))))
   have ak:=H.drop .head
   cases E
   have am:=e5.trans (s.trans (t.trans (p.trans (u.trans a9))))
   exact HQ hf O hw (Gk (LD hf hw H O mh Hw O) HC) O am ⟨O,⟨a8,(iq (n:=0) O),(iq (n:=0) O)⟩,ak⟩
  ·
   have E:=A3 V E
   refine WF.skip (WF.seq (WF.rp (.inl O) (QF.mv O O (QF.as_ O O (AA (kp [8,7,6,4] O) (WF.seq (WF.seq (WF.rp (.inl O) (QF.fa O x I1 Na O λb2 ba=>QF.ldi Af c.1 O ba AL O λb3=>QF.neq O O O (AA (kp [32,8,7,6,4] O) (WF.cut (λa w=>∃(k:Int),IV B K Q (49,[]) a w [(6,.pointer (some ⟨ad,0,none⟩)),(4,q8),(8,.int .i64 k)] (Bx ad 119 [.int .i64 0,.int .i64 0,.int .i64 0]::L) λ_ _=>AB k∧Gy N b k=some r) ?_ ?_)))))))))))
   ·
    refine WF.if_ O (λW=>?_) (λW=>?_)
    ·
     have E:=A0 W E
     refine WF.rp (.inl O) (QF.mv O O (QF.fa O x N9 UK O λb4 bb=>QF.ldi Af c.1 O bb AL O λbc=>QF.max O O O (QF.as_ O O (AA (kp [8,6,4] O) (WF.nil (λaa ww hf hw=>?_))))))
     exact⟨(max D b.Then),_,_,hf.sub (kp [6,4,8] O),hw,c,(Bc.refl K Q),(Fj M bc),E⟩
    ·
     have E:=A3 W E
     refine WF.skip (WF.nil (λaa ww hf hw=>?_))
     exact⟨D,_,_,hf.sub (kp [6,4,8] O),hw,c,(Bc.refl K Q),M,E⟩
   ·
    rintro aa ww ⟨k,b5,b6,hf,hw,m,X,an,E⟩
    refine WF.run ?_ hf hw
    clear hf hw ww aa
    rw[Gy] at E
    refine WF.seq (WF.seq (WF.rp (.inl O) ?_))
    have Y:=x.mono X
    refine QF.fa O Y I1 Na O λb7 be=>QF.ldi Af m.1 O be AL O λb8=>QF.geq O O O (AA (kp [39,6,4,8] O) (WF.if_ O (λZ=>?_) (λZ=>?_)))
    ·
     have E:=A0 Z E
     refine WF.seq (WF.rl (LF.q 2 (QF.mv O O (QF.bld (cs:=[.int .i64 k,.int .i64 0,.int .i64 0]) NG O O O (AG (Ad (vs:=[.int .i64 k,.int .i64 0,.int .i64 0]) O O O O Hw O m .head O λb9 I bf=>LF.nil (kp [6] O) (WF.ret (λaa ww hf hw=>?_))))))))
     have ao:=I.drop .head
     cases E
     have ap:=e5.trans (s.trans (t.trans (p.trans (u.trans (X.trans bf)))))
     exact HQ hf O hw (Gk (LD hf hw I O mh Hw O) HC) O ap ⟨O,⟨an,(iq (n:=0) O),(iq (n:=0) O)⟩,ao⟩
    ·
     have E:=A3 Z E
     refine WF.skip (WF.seq (WF.rl (LF.q 7 (QF.fa O Y Bj.f_Level KC O λca bg=>QF.ldi Af m.1 O bg AL O λbh=>QF.fa O Y I1 Na O λcb bi=>QF.ldi Af m.1 O bi AL O λcc=>QF.addw O O O (QF.mv O O (QF.bld (cs:=[.int .i64 b.Level,.int .i64 (Aw (b.Calm+1)),.int .i64 k]) NG O O O (AG (Ad (vs:=[.int .i64 b.Level,.int .i64 (Aw (b.Calm+1)),.int .i64 k]) O O O O Hw O m .head O λcd J bj=>LF.nil (kp [6] O) ?_))))))))
     refine WF.ret (λaa ww hf hw=>?_)
     have aq:=J.drop .head
     cases E
     have ar:=e5.trans (s.trans (t.trans (p.trans (u.trans (X.trans bj)))))
     exact HQ hf O hw (Gk (LD hf hw J O mh Hw O) HC) O ar ⟨O,⟨bh,(BA _),an⟩,aq⟩
theorem N8 (hs:St S L h) {j:Value}{u:EM}(C:Rd S h EK j u) {c:Value}{d:(List B4)}(g:Sl S h G2 c d) {r:(List Bj)}(E:KG N u d=some r):
 Bf Tryz.prog 55 #[j,c] S h (λv S' h'=>St S' (OS Fe 119 v r::L) h'):=by
 refine Ab (l:=[j,c]) 29 Tryz.func55 O Tryz.ntmps55 O λB=>?_
 rw[KG] at E
 refine WF.seq (WF.rl (LF.boxp O C (λe=>by cases e) O hs λq1 S2 h3 a0 e5 k6=>LF.q 1 (QF.as_ O O (AG (LF.nil (kp [2,1] O) (WF.seq (WF.rl (LF.q 2 (QF.mv O O ?_)))))))))
 have k7:=g.mono' e5
 refine QF.len O k7 Qg O λb8=>AG ?_
 obtain⟨a1,E⟩:=Q0 E
 refine LF.mke (r:=Fe) (zx:=(⟨0,0,0⟩:Bj)) Qv O ⟨O,by unfold Bj.ok AB;simp [IntKind.has,IntKind.min,IntKind.max,IntKind.bits,IntKind.signed]⟩ O O a1 O O a0 λa2 bl Y H=>LF.q 1 (QF.as_ O O (AG (LF.nil (kp [5,2,1] O) (WF.seq (WF.rl (LF.q 1 (QF.bld (cs:=[.int .i64 0,.int .i64 0,.int .i64 0]) NG O O O (AG (LF.al Sx O Y λZ bm ab I=>Ad (vs:=[.int .i64 0,.int .i64 0,.int .i64 0]) O O O O Hw O ab .head O λJ ac K=>LF.nil (kp [6,5,2,1] O) (WF.seq ?_))))))))))
 refine WF.seq (WF.rp (.inl O) (QF.mv O O ?_))
 have ad:=e5.trans (H.trans (I.trans K))
 have ae:=g.mono' ad
 refine QF.len O ae Qg O λbn=>QF.mv O O (AA (kp [15,14,13,6,5,2] O) (WF.blockJ (λa w=>∃(M:Value) (Q:List Bj),IV B S2 J (29,[]) a w [(5,M)] (OS Fe 119 M Q::L) λ_ _=>HN N Q=some r) ?_ ?_))
 ·
  refine WF.loopF (λn1=>λa w=>∃(D:Value) (m:List Bj) (y:Int) (o:Int) (s:Int) (t:Int),IV B S2 J (29,[]) a w [(14,.int .i64 (↑d.length:Int)),(13,c),(6,.pointer (some ⟨Z,0,none⟩)),(2,q1),(5,D),(15,.int .i64 y)] (OS Fe 119 D m::Bx Z 119 [.int .i64 o,.int .i64 s,.int .i64 t]::L) λ_ _=>AB y∧AB o∧AB s∧AB t∧Gd N u d (HN N) n1 m y o s t=some r) N ?_ ?_ ?_
  ·
   intro aa ww hf hw
   have af:=ac.sel [1,0] 0 O
   exact⟨a2,(List.replicate (0:Int).toNat (⟨0,0,0⟩:Bj)),0,0,0,0,_,_,hf.sub (kp [14,13,6,2,5,15] O),hw,af,(Bc.refl S2 J),(iq (n:=0) O),(iq (n:=0) O),(iq (n:=0) O),(iq (n:=0) O),E⟩
  ·
   rintro aa ww ⟨_,_,_,_,_,_,_,_,_,_,_,_,_,_,_,_,E⟩
   rw[Gd] at E;cases E
  ·
   rintro n1 aa ww ⟨D,m,y,o,s,t,bo,bp,hf,hw,z,F,bq,a3,a4,a5,E⟩
   refine WF.run ?_ hf hw
   clear hf hw ww aa
   rw[Gd] at E
   refine WF.seq (WF.rp (.inl O) (QF.lss O O O (AA (kp [16,14,13,6,2,5,15] O) (WF.seq (WF.if_ O (λU=>?_) (λU=>?_))))))
   ·
    have E:=A0 U E
    refine WF.skip (WF.seq (WF.block (WF.seq (WF.rl (LF.q 2 ?_)))))
    have a6:=ae.mono' F
    obtain⟨A,ag,E⟩:=bd E
    refine QF.ixe O O a6 Qg ag O λbr a7=>QF.ld Af z.1 O a7 MW (λe=>by cases e) O λbt a8=>AG (LF.al WO O z λbu bv ah V=>?_)
    have a9:=a8.mono V
    obtain⟨rfl,ba⟩:=G2.ex a9
    refine Ad (vs:=[.int .i64 A.Crest,.bool A.Quorum]) O O O O MW O ah .head O λbw k ai=>LF.nil (kp [8,14,13,6,2,5,15] O) (WF.seq (WF.rl (LF.q 3 ?_)))
    have aj:=H.trans (I.trans (K.trans (F.trans (V.trans ai))))
    have bb:=k6.mono aj
    refine QF.ld Af k.1 O bb Iw (λe=>by cases e) O λbx bc=>QF.ldo (vs:=[.int .i64 o,.int .i64 s,.int .i64 t]) Af k O (mt (mt mh)) O O Hw O O (QF.ldo (vs:=[.int .i64 A.Crest,.bool A.Quorum]) Af k O mh O O MW O O (AG ?_))
    obtain⟨i,ak,E⟩:=bd E
    refine LF.callb O O O Xq O k (Nq (St.all _) (bc.mono ⟨λb hb=>k.1 b hb,λ_ _=>rfl,Nat.le_refl _⟩) (Fe.mk (x:=(⟨o,s,t⟩:Bj)) ⟨a3,a4,a5⟩) (G2.mk (x:=A) ba) ak) λbz b0 b1 am be b2 p=>?_
    obtain⟨rfl,⟨an,ao,ap⟩,bj⟩:=p
    refine Ad (vs:=[.int .i64 i.Level,.int .i64 i.Calm,.int .i64 i.Then]) O O O O Hw O am (.tail (.tail .head)) O λb3 G bf=>LF.nil (kp [14,13,6,2,5,15] O) (WF.rl (LF.q 2 (QF.mv O O (QF.ldo (vs:=[.int .i64 i.Level,.int .i64 i.Calm,.int .i64 i.Then]) Af G O (mt (mt mh)) O O Hw O O (AG (Hd (cs:=[.int .i64 i.Level,.int .i64 i.Calm,.int .i64 i.Then]) Qv O O O O O O O G λb4 b5 aq bg=>?_))))))
    obtain⟨ar,E⟩:=Q0 E
    refine LF.app2 (r:=Fe) (l:=m) (xs:=([i]:List Bj)) O O Qv O mh ⟨_,_,O,⟨O,⟨an,ao,ap⟩⟩,O⟩ O O ar O aq (λ_=>(.tail (.tail .head))) λbh b6 au bi=>?_
    have av:=au.drop .head
    refine LF.q 1 (QF.as_ O O (AG (LF.nil (kp [5,14,13,6,2,15] O) (Ap (WF.rp (.inl O) (QF.addw O O O (QF.mv O O (AA (kp [15,5,14,13,6,2] O) (WF.nil (λaa ww hf hw=>?_))))))))))
    have aw:=av.sel [1,1] 1 O
    have ax:=F.trans (V.trans (ai.trans (be.trans (bf.trans (bg.trans bi)))))
    exact⟨bh,(m++([i]:List Bj)),(Aw (y+1)),i.Level,i.Calm,i.Then,_,_,hf.sub (kp [14,13,6,2,5,15] O),hw,aw,ax,(BA _),an,ao,ap,E⟩
   ·
    have E:=A3 U E
    refine WF.exit O (λaa ww hf hw=>?_)
    have ay:=z.drop (.tail .head)
    exact⟨D,m,_,_,hf.sub (kp [5] O),hw,ay,F,E⟩
 ·
  rintro aa ww ⟨M,Q,b7,bk,hf,hw,W,az,E⟩
  refine WF.run ?_ hf hw
  clear hf hw ww aa
  rw[HN] at E
  refine WF.seq (WF.rp (.inl O) (QF.mv O O (QF.as_ O O (AA (kp [4] O) (WF.ret (λaa ww hf hw=>?_))))))
  cases E
  have X:=e5.trans (H.trans (I.trans (K.trans az)))
  exact DD hf hw O O X W
theorem Jr (hs:St S L h) {r:Bool}(E:Em N=some r):
 Bf Tryz.prog 15 #[] S h (λv S' h'=>v= .bool r∧St S' (L) h'):=by
 refine Ab (l:=[]) 44 Tryz.func15 O Tryz.ntmps15 O λB=>?_
 rw[Em] at E
 refine WF.seq (WF.rp (.inl O) (QF.as_ O O (AA JH (WF.seq (WF.rl (LF.q 1 (QF.bld (cs:=[.string ByteArray.empty,.int .i64 0,.int .i64 0,.int .i64 3,.int .i64 0,.int .i64 0,.int .i64 0]) W3 O O O (AG (LF.al Of O hs λb1 h2 an e4=>Ad (vs:=[.string ByteArray.empty,.int .i64 0,.int .i64 0,.int .i64 3,.int .i64 0,.int .i64 0,.int .i64 0]) O O O O Iw O an .head O λh5 D e7=>LF.nil (kp [1] O) (WF.seq (WF.rl ?_)))))))))))
 refine LF.q 8 (QF.ldo (vs:=[.string ByteArray.empty,.int .i64 0,.int .i64 0,.int .i64 3,.int .i64 0,.int .i64 0,.int .i64 0]) Af D O mh O O Iw O O (QF.bld (cs:=[.int .i64 9,.bool false]) LW O O O (QF.bld (cs:=[.int .i64 8,.bool false]) LW O O O (QF.bld (cs:=[.int .i64 4,.bool false]) LW O O O (QF.bld (cs:=[.int .i64 5,.bool false]) LW O O O (QF.bld (cs:=[.int .i64 (-1),.bool false]) LW O O O (QF.bld (cs:=[.int .i64 (-1),.bool true]) LW O O O (QF.bld (cs:=[.int .i64 (-1),.bool false]) LW O O O (AG (Hd (cs:=[.int .i64 9,.bool false,.int .i64 8,.bool false,.int .i64 4,.bool false,.int .i64 5,.bool false,.int .i64 (-1),.bool false,.int .i64 (-1),.bool true,.int .i64 (-1),.bool false]) XW O O O O O O O D λb8 h9 F G=>?_))))))))))
 have H:=F.bxos (r:=G2) (l:=MM) .head ⟨_,_,O,⟨O,(iq (n:=9) O)⟩,⟨_,_,O,⟨O,(iq (n:=8) O)⟩,⟨_,_,O,⟨O,(iq (n:=4) O)⟩,⟨_,_,O,⟨O,(iq (n:=5) O)⟩,⟨_,_,O,⟨O,(iq (n:=(-1)) O)⟩,⟨_,_,O,⟨O,(iq (n:=(-1)) O)⟩,⟨_,_,O,⟨O,(iq (n:=(-1)) O)⟩,O⟩⟩⟩⟩⟩⟩⟩ (by simp [maxLen,MM])
 obtain⟨az,j,I,ao⟩:=H.pubs .head
 obtain⟨g,J,E⟩:=bd E
 refine LF.callb O O O ZP O j (N8 (St.all _) (EK.mk (x:=(⟨ByteArray.empty,0,0,3,0,0,0⟩:EM)) ⟨(by first|assumption|decide),(iq (n:=0) O),(iq (n:=0) O),(iq (n:=3) O),(iq (n:=0) O),(iq (n:=0) O),(iq (n:=0) O)⟩) (ao.mono (λb hb=>j.1 b hb) (λ_ _=>rfl)) J) λo a0 a1 ay K ap p=>?_
 have M:=p
 have s:=j.join ap M ⟨OS.flat (λ{_ _ _ _ _ _} k=>k),trivial⟩
 simp only[List.cons_append,List.nil_append] at s
 refine LF.q 1 (QF.as_ O O (AG (LF.nil (kp [2] O) (WF.seq (WF.rl (Hd (cs:=[.int .i64 1,.int .i64 2,.int .i64 3,.int .i64 3,.int .i64 3,.int .i64 3,.int .i64 1]) US O O O O O O O s λQ u U V=>LF.q 1 (QF.as_ O O (AG (LF.nil (kp [3,2] O) (WF.seq (WF.seq (WF.rp (.inl O) ?_))))))))))))
 refine QF.as_ O O (AA (kp [4,3,2] O) ?_)
 have W:=U.bxos (r:=AV.int) (l:=([1,2,3,3,3,3,1]:List Int)) .head ⟨_,_,O,⟨O,(iq (n:=1) O)⟩,⟨_,_,O,⟨O,(iq (n:=2) O)⟩,⟨_,_,O,⟨O,(iq (n:=3) O)⟩,⟨_,_,O,⟨O,(iq (n:=3) O)⟩,⟨_,_,O,⟨O,(iq (n:=3) O)⟩,⟨_,_,O,⟨O,(iq (n:=3) O)⟩,⟨_,_,O,⟨O,(iq (n:=1) O)⟩,O⟩⟩⟩⟩⟩⟩⟩ (by simp [maxLen])
 obtain⟨y,X,Y,z⟩:=W.pubs .head
 refine WF.blockJ (λa w=>IV B y u (44,[]) a w [(3,(.slice (some ⟨Q,0,none⟩) 7 7)),(2,o)] (OS Fe 119 o g::L) λ_ _=>Er N g=some r) ?_ ?_
 ·
  refine WF.loopF (λn1=>λa w=>∃(i:Int),IV B y u (44,[]) a w [(3,(.slice (some ⟨Q,0,none⟩) 7 7)),(2,o),(4,.int .i64 i)] (OS Fe 119 o g::L) λ_ _=>AB i∧EJ N g (Er N g) n1 i=some r) N ?_ ?_ ?_
  ·
   intro aa ww hf hw
   have Z:=X.drop (.tail .head)
   exact⟨0,_,_,hf.sub (kp [3,2,4] O),hw,Z,(Bc.refl y u),(iq (n:=0) O),E⟩
  ·
   rintro aa ww ⟨_,_,_,_,_,_,_,_,E⟩
   rw[EJ] at E;cases E
  ·
   rintro n1 aa ww ⟨i,a2,a3,hf,hw,d,m,a4,E⟩
   refine WF.run ?_ hf hw
   clear hf hw ww aa
   rw[EJ] at E
   refine WF.seq (WF.seq (WF.rp (.inl O) (QF.mv O O (QF.mv O O ?_))))
   have aq:=z.mono' m
   refine QF.len O aq F9 O λa5=>QF.lss O O O (AA (kp [20,3,2,4] O) (WF.if_ O (λA=>?_) (λA=>?_)))
   ·
    have E:=A0 A E
    refine WF.skip (WF.seq (WF.block (WF.seq (WF.rp (.inr ⟨mo,by kernel_rfl⟩) (QF.mv O O (QF.mv O O (QF.leno d mh O Qh O λa6=>QF.geq O O O (QF.mv O O ?_))))))))
    obtain⟨ar,c,E⟩:=bd E
    refine QF.cutv 11 38 (.bool ar) ?_ ?_
    ·
     cases ab:(decide ((↑g.length:Int)≤i))
     ·
      have c:=A3 ab c
      refine QF.gy O O O (QF.mv O O (QF.gy O O O (QF.mv O O (QF.gy O O O ?_))))
      obtain⟨a7,ac,c⟩:=bd c
      refine QF.ixoe d mh O O Qh ac O λa8 ad=>QF.gy O O O (QF.fae O ad KC O λa9 ae=>QF.gy O O O ?_)
      obtain⟨ba,af,c⟩:=bd c
      have au:=d.epAt mh af Bj.f_Level ae
      refine QF.ldi Af (λ_ x=>x) O au AL O λbb=>QF.gy O O O (QF.mv O O (QF.gy O O O (QF.mv O O (QF.gy O O O ?_))))
      have av:=z.mono' m
      obtain⟨bc,ag,c⟩:=bd c
      refine QF.ixe O O av F9 ag O λbe aw=>QF.gy O O O (QF.ldi Af d.1 O aw AL O λbf=>QF.gy O O O (QF.neq O O O (QF.pick O O O ?_)))
      cases c
      exact AH O
     ·
      have c:=A0 ab c
      cases c
      exact AK O O
    refine AA (kp [38,3,2,4] O) (WF.if_ O (λC=>?_) (λC=>?_))
    ·
     have E:=A0 C E
     refine WF.seq (WF.rp (.inl O) (QF.as_ O O (AA (kp [0] O) (WF.ret (λaa ww hf hw=>?_)))))
     have ah:=d.drop .head
     cases E
     have ai:=e4.trans (e7.trans (G.trans (I.trans (K.trans (V.trans (Y.trans m))))))
     exact DD hf hw O O ai ⟨O,ah⟩
    ·
     have E:=A3 C E
     refine WF.skip (Ap (WF.rp (.inl O) (QF.mv O O (QF.addw O O O (QF.as_ O O (AA (kp [4,3,2] O) (WF.nil (λaa ww hf hw=>?_))))))))
     exact⟨(Aw (i+1)),_,_,hf.sub (kp [3,2,4] O),hw,d,m,(BA _),E⟩
   ·
    have E:=A3 A E
    refine WF.exit O (λaa ww hf hw=>?_)
    exact⟨_,_,hf.sub (kp [3,2] O),hw,d,m,E⟩
 ·
  rintro aa ww ⟨bg,bh,hf,hw,t,aj,E⟩
  refine WF.run ?_ hf hw
  clear hf hw ww aa
  rw[Er] at E
  refine WF.seq (WF.rp (.inl O) (QF.mv O O (QF.leno t mh O Qh O λbi=>QF.mv O O ?_)))
  have ax:=z.mono' aj
  refine QF.len O ax F9 O λbj=>QF.eql O O O (QF.as_ O O (AA (kp [0] O) (WF.ret (λaa ww hf hw=>?_))))
  have ak:=t.drop .head
  cases E
  have am:=e4.trans (e7.trans (G.trans (I.trans (K.trans (V.trans (Y.trans aj))))))
  exact DD hf hw O O am ⟨O,ak⟩
theorem Kt (hs:St S L h) {t:Value}{c:AJ}(A:Rd S h BV t c) {g:Value}{d:(List Be)}(x:Sl S h El g d) {i:Value}{s:(List BJ)}(b:Sl S h Dt i s) {r:Bool}(E:FV N c d s=some r):
 Bf Tryz.prog 16 #[t,g,i] S h (λv S' h'=>v= .bool r∧St S' (L) h'):=by
 refine Ab (l:=[t,g,i]) 77 Tryz.func16 O Tryz.ntmps16 O λB=>?_
 rw[FV] at E
 refine WF.seq (WF.rl (LF.boxp O A (λe=>by cases e) O hs λq1 S2 h3 C y k6=>LF.q 1 (QF.as_ O O (AG (LF.nil (kp [3,1,2] O) (WF.seq (WF.seq (WF.rp (.inl O) (QF.fa O k6 A4 DW O λq7 k8=>QF.ldl Af C.1 O k8 Ff O λv9 ac=>QF.len O ac E5 O λa8=>QF.gtr O O O ?_)))))))))
 refine QF.mv O O (QF.cutv 5 17 (.bool ((decide (6<(↑c.Places.length:Int)))||(decide (6<(↑c.Links.length:Int))))) ?_ ?_)
 ·
  cases a9:(decide (6<(↑c.Places.length:Int)))
  ·exact QF.gy O O O (QF.fa O k6 AJ.f_Links FP O λba ad=>QF.gy O O O (QF.ldl Af C.1 O ad Ho O λbb ae=>QF.gy O O O (QF.len O ae GO O λbc=>QF.gy O O O (QF.gtr O O O (QF.pick O O O (AH O))))))
  ·exact AK O O
 refine QF.mv O O (QF.cutv 4 22 (.bool (((decide (6<(↑c.Places.length:Int)))||(decide (6<(↑c.Links.length:Int))))||(decide (3<(↑d.length:Int))))) ?_ ?_)
 ·
  cases be:((decide (6<(↑c.Places.length:Int)))||(decide (6<(↑c.Links.length:Int))))
  ·
   refine QF.gy O O O (QF.mv O O (QF.gy O O O ?_))
   have af:=x.mono' y
   exact QF.len O af LZ O λbf=>QF.gy O O O (QF.gtr O O O (QF.pick O O O (AH O)))
  ·exact AK O O
 refine QF.mv O O (QF.cutv 4 27 (.bool ((((decide (6<(↑c.Places.length:Int)))||(decide (6<(↑c.Links.length:Int))))||(decide (3<(↑d.length:Int))))||(decide (6<(↑s.length:Int))))) ?_ ?_)
 ·
  cases bg:(((decide (6<(↑c.Places.length:Int)))||(decide (6<(↑c.Links.length:Int))))||(decide (3<(↑d.length:Int))))
  ·
   refine QF.gy O O O (QF.mv O O (QF.gy O O O ?_))
   have ag:=b.mono' y
   exact QF.len O ag LY O λbh=>QF.gy O O O (QF.gtr O O O (QF.pick O O O (AH O)))
  ·exact AK O O
 refine AA (kp [27,2] O) (WF.if_ O (λD=>?_) (λD=>?_))
 ·
  have E:=A0 D E
  refine WF.seq (WF.rp (.inl O) (QF.as_ O O (AA (kp [6] O) (WF.ret (λaa ww hf hw=>?_)))))
  cases E
  exact DD hf hw O O y ⟨O,C⟩
 ·
  have E:=A3 D E
  refine WF.skip (WF.seq (WF.seq (WF.rp (.inl O) (QF.as_ O O (AA (kp [7,2] O) (WF.blockJ (λa w=>IV B S2 h3 (77,[]) a w [] (L) λ_ _=>D4 N=some r) ?_ ?_))))))
  ·
   refine WF.loopF (λn1=>λa w=>∃(z:Int),IV B S2 h3 (77,[]) a w [(2,i),(7,.int .i64 z)] (L) λ_ _=>AB z∧Ch N s (D4 N) n1 z=some r) N ?_ ?_ ?_
   ·
    intro aa ww hf hw
    exact⟨0,_,_,hf.sub (kp [2,7] O),hw,C,(Bc.refl S2 h3),(iq (n:=0) O),E⟩
   ·
    rintro aa ww ⟨_,_,_,_,_,_,_,_,E⟩
    rw[Ch] at E;cases E
   ·
    rintro n1 aa ww ⟨z,bi,bj,hf,hw,j,u,bk,E⟩
    refine WF.run ?_ hf hw
    clear hf hw ww aa
    rw[Ch] at E
    refine WF.seq (WF.seq (WF.rp (.inl O) (QF.mv O O (QF.mv O O ?_))))
    have ah:=b.mono' (y.trans u)
    refine QF.len O ah LY O λbl=>QF.lss O O O (AA (kp [31,2,7] O) (WF.if_ O (λF=>?_) (λF=>?_)))
    ·
     have E:=A0 F E
     refine WF.skip (WF.seq (WF.block (WF.seq (WF.rp (.inl O) (QF.mv O O (QF.mv O O ?_))))))
     have ai:=b.mono' (y.trans u)
     obtain⟨aj,H,E⟩:=bd E
     refine QF.ixe O O ai LY H O λbm ak=>QF.fa O ak Jg Rs O λbn am=>QF.ldl Af j.1 O am WT O λbo an=>QF.len O an TS O λbp=>QF.gtr O O O (QF.mv O O ?_)
     obtain⟨I,k,E⟩:=bd E
     refine QF.cutv 8 49 (.bool I) ?_ ?_
     ·
      cases J:(decide (6<(↑aj.Faults.length:Int)))
      ·
       have k:=A3 J k
       refine QF.gy O O O (QF.mv O O (QF.gy O O O (QF.mv O O (QF.gy O O O ?_))))
       have ao:=b.mono' (y.trans u)
       obtain⟨bq,K,k⟩:=bd k
       refine QF.ixe O O ao LY K O λbr ap=>QF.gy O O O (QF.fa O ap K3 Rr O λbt aq=>QF.gy O O O (QF.ldl Af j.1 O aq WS O λbu ar=>QF.gy O O O (QF.len O ar TR O λbv=>QF.gy O O O (QF.gtr O O O (QF.pick O O O ?_)))))
       cases k
       exact AH O
      ·
       have k:=A0 J k
       cases k
       exact AK O O
     refine QF.mv O O ?_
     obtain⟨M,m,E⟩:=bd E
     refine QF.cutv 8 58 (.bool M) ?_ ?_
     ·
      cases Q:I
      ·
       have m:=A3 Q m
       refine QF.gy O O O (QF.mv O O (QF.gy O O O (QF.mv O O (QF.gy O O O ?_))))
       have au:=b.mono' (y.trans u)
       obtain⟨bw,U,m⟩:=bd m
       refine QF.ixe O O au LY U O λbx av=>QF.gy O O O (QF.fa O av KR Rq O λbz aw=>QF.gy O O O (QF.ldl Af j.1 O aw WR O λb0 ax=>QF.gy O O O (QF.len O ax TQ O λb1=>QF.gy O O O (QF.gtr O O O (QF.pick O O O ?_)))))
       cases m
       exact AH O
      ·
       have m:=A0 Q m
       cases m
       exact AK O O
     refine QF.mv O O ?_
     obtain⟨V,o,E⟩:=bd E
     refine QF.cutv 8 67 (.bool V) ?_ ?_
     ·
      cases W:M
      ·
       have o:=A3 W o
       refine QF.gy O O O (QF.mv O O (QF.gy O O O (QF.mv O O (QF.gy O O O ?_))))
       have ay:=b.mono' (y.trans u)
       obtain⟨b2,X,o⟩:=bd o
       refine QF.ixe O O ay LY X O λb3 az=>QF.gy O O O (QF.fa O az Nw Vw O λb4 a0=>QF.gy O O O (QF.ldl Af j.1 O a0 Yb O λb5 a1=>QF.gy O O O (QF.len O a1 Yf O λb6=>QF.gy O O O (QF.gtr O O O (QF.pick O O O ?_)))))
       cases o
       exact AH O
      ·
       have o:=A0 W o
       cases o
       exact AK O O
     refine QF.mv O O ?_
     obtain⟨a2,p,E⟩:=bd E
     refine QF.cutv 8 76 (.bool a2) ?_ ?_
     ·
      cases Y:V
      ·
       have p:=A3 Y p
       refine QF.gy O O O (QF.mv O O (QF.gy O O O (QF.mv O O (QF.gy O O O ?_))))
       have a3:=b.mono' (y.trans u)
       obtain⟨b7,Z,p⟩:=bd p
       refine QF.ixe O O a3 LY Z O λb8 a4=>QF.gy O O O (QF.fa O a4 BJ.f_Rain Vx O λb9 a5=>QF.gy O O O (QF.ldl Af j.1 O a5 PV O λca a6=>QF.gy O O O (QF.len O a6 F9 O λcb=>QF.gy O O O (QF.gtr O O O (QF.pick O O O ?_)))))
       cases p
       exact AH O
      ·
       have p:=A0 Y p
       cases p
       exact AK O O
     refine AA (kp [76,2,7] O) (WF.if_ O (λG=>?_) (λG=>?_))
     ·
      have E:=A0 G E
      refine WF.seq (WF.rp (.inl O) (QF.as_ O O (AA (kp [6] O) (WF.ret (λaa ww hf hw=>?_)))))
      cases E
      exact DD hf hw O O (y.trans u) ⟨O,j⟩
     ·
      have E:=A3 G E
      refine WF.skip (Ap (WF.rp (.inl O) (QF.mv O O (QF.addw O O O (QF.as_ O O (AA (kp [7,2] O) (WF.nil (λaa ww hf hw=>?_))))))))
      exact⟨(Aw (z+1)),_,_,hf.sub (kp [2,7] O),hw,j,u,(BA _),E⟩
    ·
     have E:=A3 F E
     refine WF.exit O (λaa ww hf hw=>?_)
     exact⟨_,_,hf.sub JH,hw,j,u,E⟩
  ·
   rintro aa ww ⟨cc,cd,hf,hw,ab,a7,E⟩
   refine WF.run ?_ hf hw
   clear hf hw ww aa
   rw[D4] at E
   refine WF.seq (WF.rp (.inl O) (QF.as_ O O (AA (kp [6] O) (WF.ret (λaa ww hf hw=>?_)))))
   cases E
   exact DD hf hw O O (y.trans a7) ⟨O,ab⟩
theorem Fg (hs:St S L h) {a:Value}{c:AD}(b:Rd S h AF a c) {r:Bool}(E:C9 N c=some r):
 Bf Tryz.prog 13 #[a] S h (λv S' h'=>v= .bool r∧St S' (L) h'):=by
 refine Ab (l:=[a]) 8 Tryz.func13 O Tryz.ntmps13 O λB=>?_
 rw[C9] at E
 refine WF.seq (WF.rl (LF.boxp O b (λe=>by cases e) O hs λo p s d j i=>LF.q 1 (QF.as_ O O (AG (LF.nil (kp [1] O) (WF.seq (WF.rp (.inl O) (QF.fa O i AD.f_Lo DE O λt k=>QF.ldi Af d.1 O k AL O λu=>QF.fa O i AD.f_Hi Cn O λm g=>QF.ldi Af d.1 O g AL O λn=>QF.leq O O O ?_))))))))
 refine QF.as_ O O (AA (kp [2] O) (WF.ret (λaa ww hf hw=>?_)))
 cases E
 exact DD hf hw O O j ⟨O,d⟩
theorem Nk (hs:St S L h) {d:Value}{k:AJ}(A:Rd S h BV d k) {g:Value}{b:Be}(C:Rd S h El g b) {r:Bool}(E:HL N k b=some r):
 Bf Tryz.prog 56 #[d,g] S h (λv S' h'=>v= .bool r∧St S' (L) h'):=by
 refine Ab (l:=[d,g]) 67 Tryz.func56 O Tryz.ntmps56 O λB=>?_
 rw[HL] at E
 refine WF.seq (WF.rl (LF.boxp O A (λe=>by cases e) O hs λq1 S2 h3 av e5 k6=>?_))
 have k7:=C.mono e5
 refine LF.boxp O k7 (λe=>by cases e) O av λq8 S9 H c u s=>LF.q 1 (QF.as_ O O (AG (LF.nil (kp [3,2] O) (WF.seq (WF.seq (WF.rp (.inl O) (QF.fa O s Nx P8 O λbk aw=>QF.ldi Af c.1 O aw AL O λbl=>QF.lss O O O (QF.mv O O (QF.cutv 4 16 (.bool ((decide (b.Id<0))||(decide (1073741824<b.Id)))) ?_ ?_)))))))))
 ·
  cases bm:(decide (b.Id<0))
  ·exact QF.gy O O O (QF.fa O s Nx P8 O λbn ax=>QF.gy O O O (QF.ldi Af c.1 O ax AL O λbo=>QF.gy O O O (QF.gtr O O O (QF.pick O O O (AH O)))))
  ·exact AK O O
 refine QF.mv O O (QF.cutv 4 21 (.bool (((decide (b.Id<0))||(decide (1073741824<b.Id)))||(decide (b.From<0)))) ?_ ?_)
 ·
  cases bp:((decide (b.Id<0))||(decide (1073741824<b.Id)))
  ·exact QF.gy O O O (QF.fa O s Be.f_From Lw O λbq ay=>QF.gy O O O (QF.ldi Af c.1 O ay AL O λbr=>QF.gy O O O (QF.lss O O O (QF.pick O O O (AH O)))))
  ·exact AK O O
 refine QF.mv O O (QF.cutv 4 26 (.bool ((((decide (b.Id<0))||(decide (1073741824<b.Id)))||(decide (b.From<0)))||(decide (16777216<b.From)))) ?_ ?_)
 ·
  cases bt:(((decide (b.Id<0))||(decide (1073741824<b.Id)))||(decide (b.From<0)))
  ·exact QF.gy O O O (QF.fa O s Be.f_From Lw O λbu az=>QF.gy O O O (QF.ldi Af c.1 O az AL O λbv=>QF.gy O O O (QF.gtr O O O (QF.pick O O O (AH O)))))
  ·exact AK O O
 refine QF.mv O O (QF.cutv 5 32 (.bool (((((decide (b.Id<0))||(decide (1073741824<b.Id)))||(decide (b.From<0)))||(decide (16777216<b.From)))||(decide (24<(↑b.Rain.length:Int))))) ?_ ?_)
 ·
  cases bw:((((decide (b.Id<0))||(decide (1073741824<b.Id)))||(decide (b.From<0)))||(decide (16777216<b.From)))
  ·exact QF.gy O O O (QF.fa O s Be.f_Rain Lv O λbx a0=>QF.gy O O O (QF.ldl Af c.1 O a0 Ok O λbz a1=>QF.gy O O O (QF.len O a1 NI O λb0=>QF.gy O O O (QF.gtr O O O (QF.pick O O O (AH O))))))
  ·exact AK O O
 refine AA (kp [32,3,2] O) (WF.if_ O (λI=>?_) (λI=>?_))
 ·
  have E:=A0 I E
  refine WF.seq (WF.rp (.inl O) (QF.as_ O O (AA (kp [4] O) (WF.ret (λaa ww hf hw=>?_)))))
  cases E
  exact DD hf hw O O (e5.trans u) ⟨O,c⟩
 ·
  have E:=A3 I E
  refine WF.skip (WF.seq (WF.seq (WF.rp (.inl O) (QF.fa O s Be.f_Rain Lv O λb1 a2=>QF.ldl Af c.1 O a2 Ok O λJ ah=>QF.len O ah NI O λb2=>QF.mv O O (AA (kp [36,35,34,2] O) (WF.blockJ (λa w=>IV B S9 H (67,[]) a w [] (L) λ_ _=>Dr N=some r) ?_ ?_))))))
  ·
   refine WF.loopF (λn1=>λa w=>∃(i:Int),IV B S9 H (67,[]) a w [(35,.int .i64 (↑b.Rain.length:Int)),(34,J),(2,q1),(36,.int .i64 i)] (L) λ_ _=>AB i∧Cu N k b (Dr N) n1 i=some r) N ?_ ?_ ?_
   ·
    intro aa ww hf hw
    exact⟨0,_,_,hf.sub (kp [35,34,2,36] O),hw,c,(Bc.refl S9 H),(iq (n:=0) O),E⟩
   ·
    rintro aa ww ⟨_,_,_,_,_,_,_,_,E⟩
    rw[Cu] at E;cases E
   ·
    rintro n1 aa ww ⟨i,K,M,hf,hw,m,t,b3,E⟩
    refine WF.run ?_ hf hw
    clear hf hw ww aa
    rw[Cu] at E
    refine WF.seq (WF.rp (.inl O) (QF.lss O O O (AA (kp [37,35,34,2,36] O) (WF.seq (WF.if_ O (λQ=>?_) (λQ=>?_))))))
    ·
     have E:=A0 Q E
     refine WF.skip (WF.seq (WF.blockJ (λa w=>IV B K M (67,[]) a w [(35,.int .i64 (↑b.Rain.length:Int)),(34,J),(2,q1),(36,.int .i64 i)] (L) λ_ _=>FJ N i (Cu N k b (Dr N) n1)=some r) ?_ ?_))
     ·
      refine WF.seq (WF.rp (.inl O) ?_)
      have a3:=ah.mono' t
      obtain⟨ai,aj,E⟩:=bd E
      refine QF.ixe O O a3 NI aj O λb4 a4=>QF.ldl Af m.1 O a4 Gn O λa5 U=>QF.as_ O O (AA (kp [6,35,34,2,36] O) (WF.seq (WF.seq (WF.rp (.inl O) (QF.mv O O (QF.len O U FM O λb5=>?_))))))
      have a6:=k6.mono (u.trans t)
      refine QF.fa O a6 A4 DW O λb6 a7=>QF.ldl Af m.1 O a7 Ff O λb7 a8=>QF.len O a8 E5 O λb8=>QF.neq O O O (AA (kp [45,6,35,34,2,36] O) (WF.if_ O (λV=>?_) (λV=>?_)))
      ·
       have E:=A0 V E
       refine WF.seq (WF.rp (.inl O) (QF.as_ O O (AA (kp [4] O) (WF.ret (λaa ww hf hw=>?_)))))
       cases E
       have ak:=e5.trans (u.trans t)
       exact DD hf hw O O ak ⟨O,m⟩
      ·
       have E:=A3 V E
       refine WF.skip (WF.seq (WF.rp (.inl O) (QF.mv O O (QF.len O U FM O λb9=>QF.mv O O (AA (kp [48,47,46,35,34,2,36] O) (WF.block (WF.loopF (λn3=>λa w=>∃(y:Int),IV B K M (67,[]) a w [(47,.int .i64 (↑ai.length:Int)),(46,a5),(35,.int .i64 (↑b.Rain.length:Int)),(34,J),(2,q1),(36,.int .i64 i),(48,.int .i64 y)] (L) λ_ _=>AB y∧DQ N ai (FJ N i (Cu N k b (Dr N) n1)) n3 y=some r) N ?_ ?_ ?_)))))))
       ·
        intro aa ww hf hw
        exact⟨0,_,_,hf.sub (kp [47,46,35,34,2,36,48] O),hw,m,(Bc.refl K M),(iq (n:=0) O),E⟩
       ·
        rintro aa ww ⟨_,_,_,_,_,_,_,_,E⟩
        rw[DQ] at E;cases E
       ·
        rintro n3 aa ww ⟨y,ca,cb,hf,hw,z,D,cc,E⟩
        refine WF.run ?_ hf hw
        clear hf hw ww aa
        rw[DQ] at E
        refine WF.seq (WF.rp (.inl O) (QF.lss O O O (AA (kp [49,47,46,35,34,2,36,48] O) (WF.seq (WF.if_ O (λW=>?_) (λW=>?_))))))
        ·
         have E:=A0 W E
         refine WF.skip (WF.seq (WF.block (WF.seq (WF.rl (LF.q 2 ?_)))))
         have a9:=U.mono' D
         obtain⟨j,am,E⟩:=bd E
         refine QF.ixe O O a9 FM am O λcd ba=>QF.ld Af z.1 O ba Ag (λe=>by cases e) O λce bb=>AG (LF.al Ee O z λcf cg an X=>?_)
         have bc:=bb.mono X
         obtain⟨rfl,⟨be,bf⟩⟩:=AF.ex bc
         refine Ad (vs:=[.int .i64 j.Lo,.int .i64 j.Hi]) O O O O Ag O an .head O λch p ao=>LF.nil (kp [8,47,46,35,34,2,36,48] O) (WF.seq (WF.rc (.inl O) p (QF.ldo (vs:=[.int .i64 j.Lo,.int .i64 j.Hi]) Ai p O mh O O Ag O O ?_)))
         obtain⟨F,ap,E⟩:=bd E
         refine Aa O O O OX O (λh' o=>Fg (St.all h') (AF.mk (x:=j) ⟨be,bf⟩) ap) (QF.not O O (QF.mv O O (QF.cutv 4 59 (.bool ((!F)||(decide (j.Lo<0)))) ?_ ?_)))
         ·
          cases ci:(!F)
          ·exact QF.gy O O O (QF.fao O DE O (QF.gy O O O (AI Ai p O mh O AL O (QF.gy O O O (QF.lss O O O (QF.pick O O O (AH O)))))))
          ·exact AK O O
         refine QF.mv O O (QF.cutv 4 64 (.bool (((!F)||(decide (j.Lo<0)))||(decide (1125899906842624<j.Hi)))) ?_ ?_)
         ·
          cases cj:((!F)||(decide (j.Lo<0)))
          ·exact QF.gy O O O (QF.fao O Cn O (QF.gy O O O (AI Ai p O mh O AL O (QF.gy O O O (QF.gtr O O O (QF.pick O O O (AH O)))))))
          ·exact AK O O
         refine Ak (kp [64,47,46,35,34,2,36,48] O) λck G aq=>WF.if_ O (λY=>?_) (λY=>?_)
         ·
          have E:=A0 Y E
          refine WF.seq (WF.rp (.inl O) (QF.as_ O O (AA (kp [4] O) (WF.ret (λaa ww hf hw=>?_)))))
          have Z:=G.drop .head
          cases E
          have ab:=e5.trans (u.trans (t.trans (D.trans (X.trans (ao.trans aq)))))
          exact DD hf hw O O ab ⟨O,Z⟩
         ·
          have E:=A3 Y E
          refine WF.skip (Ap (WF.rp (.inl O) (QF.addw O O O (QF.mv O O (AA (kp [48,47,46,35,34,2,36] O) (WF.nil (λaa ww hf hw=>?_)))))))
          have ac:=G.drop .head
          have ad:=D.trans (X.trans (ao.trans aq))
          exact⟨(Aw (y+1)),_,_,hf.sub (kp [47,46,35,34,2,36,48] O),hw,ac,ad,(BA _),E⟩
        ·
         have E:=A3 W E
         refine Hu O (WF.nil (λaa ww hf hw=>?_))
         exact⟨_,_,hf.sub (kp [35,34,2,36] O),hw,z,D,E⟩
     ·
      rintro aa ww ⟨bg,bh,hf,hw,ae,ar,E⟩
      refine WF.run ?_ hf hw
      clear hf hw ww aa
      rw[FJ] at E
      refine WF.rp (.inl O) (QF.addw O O O (QF.mv O O (AA (kp [36,35,34,2] O) (WF.nil (λaa ww hf hw=>?_)))))
      exact⟨(Aw (i+1)),_,_,hf.sub (kp [35,34,2,36] O),hw,ae,(t.trans ar),(BA _),E⟩
    ·
     have E:=A3 Q E
     refine WF.exit O (λaa ww hf hw=>?_)
     exact⟨_,_,hf.sub JH,hw,m,t,E⟩
  ·
   rintro aa ww ⟨bi,bj,hf,hw,af,au,E⟩
   refine WF.run ?_ hf hw
   clear hf hw ww aa
   rw[Dr] at E
   refine WF.seq (WF.rp (.inl O) (QF.as_ O O (AA (kp [4] O) (WF.ret (λaa ww hf hw=>?_)))))
   cases E
   have ag:=e5.trans (u.trans au)
   exact DD hf hw O O ag ⟨O,af⟩
theorem KJ (hs:St S L h) {i:Value}{k:AJ}(m:Rd S h BV i k) {b:Value}{c:(List Be)}(d:Sl S h El b c) {r:Bool}(E:E7 N k c=some r):
 Bf Tryz.prog 17 #[i,b] S h (λv S' h'=>v= .bool r∧St S' (L) h'):=by
 refine Ab (l:=[i,b]) 19 Tryz.func17 O Tryz.ntmps17 O λB=>?_
 rw[E7] at E
 refine WF.seq (WF.rl (LF.boxp O m (λe=>by cases e) O hs λX F G H D Y=>LF.q 1 (QF.as_ O O (AG (LF.nil (kp [2,1] O) (WF.seq (WF.seq (WF.rp (.inl O) (QF.as_ O O (AA (kp [5,2,1] O) (WF.blockJ (λa w=>IV B F G (19,[]) a w [] (L) λ_ _=>Dl N=some r) ?_ ?_)))))))))))
 ·
  refine WF.loopF (λW=>λa w=>∃(u:Int),IV B F G (19,[]) a w [(2,X),(1,b),(5,.int .i64 u)] (L) λ_ _=>AB u∧CS N k c (Dl N) W u=some r) N ?_ ?_ ?_
  ·
   intro aa ww hf hw
   exact⟨0,_,_,hf.sub (kp [2,1,5] O),hw,H,(Bc.refl F G),(iq (n:=0) O),E⟩
  ·
   rintro aa ww ⟨_,_,_,_,_,_,_,_,E⟩
   rw[CS] at E;cases E
  ·
   rintro W aa ww ⟨u,Z,ab,hf,hw,g,j,ac,E⟩
   refine WF.run ?_ hf hw
   clear hf hw ww aa
   rw[CS] at E
   refine WF.seq (WF.seq (WF.rp (.inl O) (QF.mv O O (QF.mv O O ?_))))
   have I:=d.mono' (D.trans j)
   refine QF.len O I LZ O λad=>QF.lss O O O (AA (kp [9,2,1,5] O) (WF.if_ O (λs=>?_) (λs=>?_)))
   ·
    have E:=A0 s E
    refine WF.skip (WF.seq (WF.block (WF.seq (WF.rc (.inr ⟨mo,by kernel_rfl⟩) g ?_))))
    have J:=Y.mono j
    refine QF.ld Ai g.1 O J F7 (λe=>by cases e) O λae K=>QF.mv O O (QF.mv O O ?_)
    have M:=d.mono' (D.trans j)
    obtain⟨af,x,E⟩:=bd E
    refine QF.ixe O O M LZ x O λag Q=>QF.ld Ai g.1 O Q ND (λe=>by cases e) O λah U=>?_
    obtain⟨ai,y,E⟩:=bd E
    refine Aa O O O ZO O (λh' o=>Nk (St.all h') (K.mono (o.all g.1)) (U.mono (o.all g.1)) y) (QF.not O O (Ak (kp [18,2,1,5] O) λaj p z=>WF.if_ O (λt=>?_) (λt=>?_)))
    ·
     have E:=A0 t E
     refine WF.seq (WF.rp (.inl O) (QF.as_ O O (AA (kp [4] O) (WF.ret (λaa ww hf hw=>?_)))))
     cases E
     have A:=D.trans (j.trans z)
     exact DD hf hw O O A ⟨O,p⟩
    ·
     have E:=A3 t E
     refine WF.skip (Ap (WF.rp (.inl O) (QF.mv O O (QF.addw O O O (QF.as_ O O (AA (kp [5,2,1] O) (WF.nil (λaa ww hf hw=>?_))))))))
     exact⟨(Aw (u+1)),_,_,hf.sub (kp [2,1,5] O),hw,p,(j.trans z),(BA _),E⟩
   ·
    have E:=A3 s E
    refine WF.exit O (λaa ww hf hw=>?_)
    exact⟨_,_,hf.sub JH,hw,g,j,E⟩
 ·
  rintro aa ww ⟨ak,am,hf,hw,C,V,E⟩
  refine WF.run ?_ hf hw
  clear hf hw ww aa
  rw[Dl] at E
  refine WF.seq (WF.rp (.inl O) (QF.as_ O O (AA (kp [4] O) (WF.ret (λaa ww hf hw=>?_)))))
  cases E
  exact DD hf hw O O (D.trans V) ⟨O,C⟩
end Go.Proofs.YtibidnaedddfdaaGreat
