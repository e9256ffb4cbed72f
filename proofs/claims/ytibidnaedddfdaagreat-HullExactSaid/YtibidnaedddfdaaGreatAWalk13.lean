import Derived.Test.YtibidnaedddfdaaGreatAWalk12
namespace Go.Proofs.YtibidnaedddfdaaGreat
open Go.RowKit
set_option linter.unusedVariables false
set_option linter.unusedSimpArgs false
set_option maxRecDepth 10000
set_option maxHeartbeats 2000000
variable {N:Nat}{S:Nat→Prop}{L:List HP}{h:Ad}
theorem Hs (hs:St S L h) {i:Value}{m:AV}(s:Rd S h CA i m) {b:Int}(z:AB b) {c:Int}(A:AB c) {r:Int}(E:D0 N m b c=some r):
 BP Tryz.prog 31 #[i,.int .i64 b,.int .i64 c] S h (λv S' h'=>v= .int .i64 r∧AB r∧St S' (L) h'):=by
 refine Ac (l:=[i,.int .i64 b,.int .i64 c]) 44 Tryz.func31 O Tryz.ntmps31 O λB=>?_
 rw[D0] at E
 refine WF.seq (WF.rl (LF.boxp O s (λe=>by cases e) O hs λq1 W X Y e5 k6=>LF.q 1 (QF.as_ O O (AE (LF.nil (kp [3,1,2] O) (WF.seq (WF.rp (.inl O) (QF.as_ O O (AA (kp [7,3,1,2] O) (WF.seq (WF.seq (WF.rp (.inl O) ?_))))))))))))
 refine QF.as_ O O (AA (kp [8,7,3,1,2] O) (WF.blockJ (λa w=>∃(V:Int),IV B W X (44,[]) a w [(7,.int .i64 V)] (L) λ_ _=>AB V∧BT N V=some r) ?_ ?_))
 ·
  refine WF.loopF (λZ=>λa w=>∃(j:Int) (k:Int),IV B W X (44,[]) a w [(3,q1),(1,.int .i64 b),(2,.int .i64 c),(7,.int .i64 j),(8,.int .i64 k)] (L) λ_ _=>AB j∧AB k∧BH N m b c (BT N) Z j k=some r) N ?_ ?_ ?_
  ·
   intro aa ww hf hw
   exact⟨0,0,_,_,hf.sub (kp [3,1,2,7,8] O),hw,Y,(BO.refl W X),(iq (n:=0) O),(iq (n:=0) O),E⟩
  ·
   rintro aa ww ⟨_,_,_,_,_,_,_,_,_,_,E⟩
   rw[BH] at E;cases E
  ·
   rintro Z aa ww ⟨j,k,C,D,hf,hw,d,u,F,a1,E⟩
   refine WF.run ?_ hf hw
   clear hf hw ww aa
   rw[BH] at E
   refine WF.seq (WF.seq (WF.rp (.inl O) (QF.mv O O ?_)))
   have t:=k6.mono u
   refine QF.fa O t AV.f_Queue GA O λa2 ab=>QF.ldl Aa d.1 O ab Ik O λa3 ac=>QF.len O ac Hp O λa4=>QF.lss O O O (AA (kp [13,3,1,2,7,8] O) (WF.if_ O (λx=>?_) (λx=>?_)))
   ·
    have E:=Av x E
    refine WF.skip (WF.seq (WF.blockJ (λa w=>∃(p:Int),IV B C D (44,[]) a w [(3,q1),(1,.int .i64 b),(2,.int .i64 c),(8,.int .i64 k),(7,.int .i64 p)] (L) λ_ _=>AB p∧Dt N k (BH N m b c (BT N) Z) p=some r) ?_ ?_))
    ·
     refine WF.seq (WF.rp (.inl O) (QF.fa O t AV.f_Queue GA O λa5 ad=>QF.ldl Aa d.1 O ad Ik O λa6 ae=>QF.mv O O ?_))
     obtain⟨af,G,E⟩:=bd E
     refine QF.ixe O O ae Hp G O λa7 ag=>QF.fa O ag E0.f_At LG O λa8 ah=>QF.ldi Aa d.1 O ah AN O λa9=>QF.mv O O (QF.eql O O O (QF.mv O O ?_))
     obtain⟨ai,g,E⟩:=bd E
     refine QF.cutv 9 33 (.bool ai) ?_ ?_
     ·
      cases H:(decide (af.At=b))
      ·
       have g:=Aw H g
       cases g
       exact AL O O
      ·
       have g:=Av H g
       refine QF.gy O O O (QF.fa O t AV.f_Queue GA O λba aj=>QF.gy O O O (QF.ldl Aa d.1 O aj Ik O λbb ak=>QF.gy O O O (QF.mv O O (QF.gy O O O ?_))))
       obtain⟨bc,I,g⟩:=bd g
       refine QF.ixe O O ak Hp I O λbe am=>QF.gy O O O (QF.fa O am E0.f_To LE O λbf an=>QF.gy O O O (QF.ldi Aa d.1 O an AN O λbg=>QF.gy O O O (QF.mv O O (QF.gy O O O (QF.eql O O O (QF.pick O O O ?_))))))
       cases g
       exact AH O
     refine AA (kp [33,3,1,2,7,8] O) (WF.if_ O (λy=>?_) (λy=>?_))
     ·
      have E:=Av y E
      refine WF.rc (.inl O) d (QF.mv O O (QF.fa O t AV.f_Queue GA O λbh ao=>QF.ldl Ak d.1 O ao Ik O λbi ap=>QF.mv O O ?_))
      obtain⟨bj,J,E⟩:=bd E
      refine QF.ixe O O ap Hp J O λbk aq=>QF.fa O aq PI MF O λbl ar=>QF.ldl Ak d.1 O ar GV O λbm au=>?_
      obtain⟨av,K,E⟩:=bd E
      refine Af O O O MQ O (λh' o=>Dn (St.all h') (au.mono' (o.all d.1)) K) λaw=>?_
      have bn:=aw
      refine QF.addw O O O (QF.as_ O O (Ai (kp [7,3,1,2,8] O) λbo M ax=>WF.nil (λaa ww hf hw=>?_)))
      exact⟨(Ar (j+av)),_,_,hf.sub (kp [3,1,2,8,7] O),hw,M,ax,(Au _),E⟩
     ·
      have E:=Aw y E
      refine WF.skip (WF.nil (λaa ww hf hw=>?_))
      exact⟨j,_,_,hf.sub (kp [3,1,2,8,7] O),hw,d,(BO.refl C D),F,E⟩
    ·
     rintro aa ww ⟨p,bp,bq,hf,hw,Q,ay,az,E⟩
     refine WF.run ?_ hf hw
     clear hf hw ww aa
     rw[Dt] at E
     refine WF.rp (.inl O) (QF.mv O O (QF.addw O O O (QF.as_ O O (AA (kp [8,3,1,2,7] O) (WF.nil (λaa ww hf hw=>?_))))))
     exact⟨p,(Ar (k+1)),_,_,hf.sub (kp [3,1,2,7,8] O),hw,Q,(u.trans ay),az,(Au _),E⟩
   ·
    have E:=Aw x E
    refine WF.exit O (λaa ww hf hw=>?_)
    exact⟨j,_,_,hf.sub (kp [7] O),hw,d,u,F,E⟩
 ·
  rintro aa ww ⟨V,br,bt,hf,hw,U,a0,r8,E⟩
  refine WF.run ?_ hf hw
  clear hf hw ww aa
  rw[BT] at E
  refine WF.seq (WF.rp (.inl O) (QF.mv O O (QF.as_ O O (AA (kp [6] O) (WF.ret (λaa ww hf hw=>?_))))))
  cases E
  exact CS hf hw O O (e5.trans a0) ⟨O,r8,U⟩
theorem I5 (hs:St S L h) {ah:Value}{D:AJ}(b4:Rd S h A3 ah D) {ai:Value}{g:AV}(b5:Rd S h CA ai g) {aj:Value}{d:AV}(b6:Rd S h CA aj d) {r:Bool}(E:Dh N D g d=some r):
 BP Tryz.prog 6 #[ah,ai,aj] S h (λv S' h'=>v= .bool r∧St S' (L) h'):=by
 refine Ac (l:=[ah,ai,aj]) 191 Tryz.func6 O Tryz.ntmps6 O λB=>?_
 rw[Dh] at E
 refine WF.seq (WF.rl (LF.boxp O b4 (λe=>by cases e) O hs λq1 S2 h3 hj e5 k6=>?_))
 have k7:=b5.mono e5
 refine LF.boxp O k7 (λe=>by cases e) O hj λq8 S9 k8 d1 bf ct=>?_
 have hk:=b6.mono (e5.trans bf)
 refine LF.boxp O hk (λe=>by cases e) O d1 λaz k9 la d2 a0 cu=>LF.q 1 (QF.as_ O O (AE (LF.nil (kp [5,4,3] O) (WF.seq (WF.rc (.inl O) d2 ?_)))))
 obtain⟨K,d3,E⟩:=bd E
 refine AZ O O O Yo O (λh' o=>KP (St.all h') d3) (QF.as_ O O (Ai (kp [7,5,4,3] O) λlb k af=>WF.seq (WF.seq (WF.rc (.inl O) k ?_))))
 have d4:=bf.trans (a0.trans af)
 have bg:=k6.mono d4
 refine QF.ld Ak k.1 O bg D1 (λe=>by cases e) O λlc hl=>QF.bld (cs:=[.int .i64 0,.slice none 0 0,.slice none 0 0,.slice none 0 0]) SS O O O (QF.bld (cs:=[.slice none 0 0,.slice none 0 0,.slice none 0 0,.slice none 0 0,.slice none 0 0]) U9 O O O ?_)
 obtain⟨bh,d5,E⟩:=bd E
 refine AZ O O O Yn O (λh' o=>LU (St.all h') (hl.mono (o.all k.1)) (Bj.mk (x:=(⟨0,[],[],[]⟩:Aq)) (iq (n:=0) O) (.inl ⟨O,O⟩) (.inl ⟨O,O⟩) (.inl ⟨O,O⟩)) (GY.mk (x:=(⟨[],[],[],[],[]⟩:DF)) (.inl ⟨O,O⟩) (.inl ⟨O,O⟩) (.inl ⟨O,O⟩) (.inl ⟨O,O⟩) (.inl ⟨O,O⟩)) d5) (QF.not O O (QF.mv O O (QF.cutv 5 25 (.bool ((!bh)||(decide (12<(↑g.Queue.length:Int))))) ?_ ?_)))
 ·
  cases le:(!bh)
  ·
   refine QF.gy O O O ?_
   have hm:=ct.mono (a0.trans af)
   exact QF.fa O hm AV.f_Queue GA O λlf hn=>QF.gy O O O (QF.ldl Ak k.1 O hn Ik O λlg ho=>QF.gy O O O (QF.len O ho Hp O λlh=>QF.gy O O O (QF.gtr O O O (QF.pick O O O (AH O)))))
  ·exact AL O O
 refine QF.mv O O (QF.cutv 5 31 (.bool (((!bh)||(decide (12<(↑g.Queue.length:Int))))||(decide (12<(↑d.Queue.length:Int))))) ?_ ?_)
 ·
  cases li:((!bh)||(decide (12<(↑g.Queue.length:Int))))
  ·
   refine QF.gy O O O ?_
   have hp:=cu.mono af
   exact QF.fa O hp AV.f_Queue GA O λlj hq=>QF.gy O O O (QF.ldl Ak k.1 O hq Ik O λll hr=>QF.gy O O O (QF.len O hr Hp O λlm=>QF.gy O O O (QF.gtr O O O (QF.pick O O O (AH O)))))
  ·exact AL O O
 refine QF.mv O O ?_
 obtain⟨d6,V,E⟩:=bd E
 refine QF.cutv 4 36 (.bool d6) ?_ ?_
 ·
  cases d7:(((!bh)||(decide (12<(↑g.Queue.length:Int))))||(decide (12<(↑d.Queue.length:Int))))
  ·
   have V:=Aw d7 V
   refine QF.gy O O O (QF.ld Ak k.1 O bg D1 (λe=>by cases e) O λlo ht=>QF.gy O O O ?_)
   obtain⟨lp,d8,V⟩:=bd V
   refine AZ O O O YN O (λh' o=>NB (St.all h') (ht.mono (o.all k.1)) d8) (QF.gy O O O (QF.not O O (QF.pick O O O ?_)))
   cases V
   exact AH O
  ·
   have V:=Av d7 V
   cases V
   exact AL O O
 refine QF.mv O O ?_
 obtain⟨d9,W,E⟩:=bd E
 refine QF.cutv 5 42 (.bool d9) ?_ ?_
 ·
  cases ea:d6
  ·
   have W:=Aw ea W
   refine QF.gy O O O (QF.ld Ak k.1 O bg D1 (λe=>by cases e) O λlq hu=>QF.gy O O O ?_)
   have hv:=ct.mono (a0.trans af)
   refine QF.ld Ak k.1 O hv G6 (λe=>by cases e) O λlr hx=>QF.gy O O O ?_
   obtain⟨ls,eb,W⟩:=bd W
   refine AZ O O O VP O (λh' o=>Kh (St.all h') (hu.mono (o.all k.1)) (hx.mono (o.all k.1)) eb) (QF.gy O O O (QF.not O O (QF.pick O O O ?_)))
   cases W
   exact AH O
  ·
   have W:=Av ea W
   cases W
   exact AL O O
 refine QF.mv O O ?_
 obtain⟨hy,X,E⟩:=bd E
 refine QF.cutv 5 48 (.bool hy) ?_ ?_
 ·
  cases ec:d9
  ·
   have X:=Aw ec X
   refine QF.gy O O O (QF.ld Ak k.1 O bg D1 (λe=>by cases e) O λlt hz=>QF.gy O O O ?_)
   have h0:=cu.mono af
   refine QF.ld Ak k.1 O h0 G6 (λe=>by cases e) O λlu h1=>QF.gy O O O ?_
   obtain⟨lv,ed,X⟩:=bd X
   refine AZ O O O VP O (λh' o=>Kh (St.all h') (hz.mono (o.all k.1)) (h1.mono (o.all k.1)) ed) (QF.gy O O O (QF.not O O (QF.pick O O O ?_)))
   cases X
   exact AH O
  ·
   have X:=Av ec X
   cases X
   exact AL O O
 refine Ai (kp [48,7,5,4,3] O) λlw a3 bc=>WF.if_ O (λcv=>?_) (λcv=>?_)
 ·
  have E:=Av cv E
  refine WF.seq (WF.rp (.inl O) (QF.mv O O (QF.as_ O O (AA (kp [6] O) (WF.ret (λaa ww hf hw=>?_))))))
  cases E
  have ee:=e5.trans (bf.trans (a0.trans (af.trans bc)))
  exact CS hf hw O O ee ⟨O,a3⟩
 ·
  have E:=Aw cv E
  refine WF.skip (WF.seq (WF.rl (LF.q 2 ?_)))
  have ef:=bg.mono bc
  refine QF.ld Aa a3.1 O ef D1 (λe=>by cases e) O λlx h2=>?_
  have eg:=a0.trans (af.trans bc)
  have cw:=ct.mono eg
  refine QF.ld Aa a3.1 O cw G6 (λe=>by cases e) O λly h4=>AE ?_
  obtain⟨j,eh,E⟩:=bd E
  refine LF.call O O O RI O (I8 a3 h2 h4 eh) λlz cx l0 be p=>?_
  obtain⟨h5,ei⟩:=p
  refine LF.al OC O ei λM l1 ej a1=>?_
  have h6:=h5.mono a1
  obtain⟨Q,U,y,rfl,b7,bi,an,ao⟩:=Bj.ex h6
  refine LF.st (vs:=[.int .i64 j.Hour,Q,U,y]) (cs':=[.int .i64 j.Hour,Q,U,y]) O O O (AC O (AC bi.one (AC an.one (AC ao.one C6)))) Zx O ej .head O O λh7 b i=>LF.nil (kp [8,7,5,4,3] O) (WF.seq (WF.seq (WF.rc (.inl O) b ?_)))
  have cy:=be.trans (a1.trans i)
  have ap:=ef.mono cy
  refine QF.ld Ak b.1 O ap D1 (λe=>by cases e) O λh8 ek=>QF.ldo (vs:=[.int .i64 j.Hour,Q,U,y]) Ak b O mh O O Zx O O ?_
  have el:=bi.mono' i
  have em:=an.mono' i
  have en:=ao.mono' i
  obtain⟨eo,cz,E⟩:=bd E
  refine AZ O O O OT O (λh' o=>Ft (St.all h') (ek.mono (o.all b.1)) (Bj.mk (x:=j) b7 (el.mono' (o.all b.1)) (em.mono' (o.all b.1)) (en.mono' (o.all b.1))) cz) (QF.not O O (QF.mv O O ?_))
  obtain⟨b8,F,E⟩:=bd E
  refine QF.cutv 6 63 (.bool b8) ?_ ?_
  ·
   cases b9:(!eo)
   ·
    have F:=Aw b9 F
    refine QF.gy O O O (QF.ld Ak b.1 O ap D1 (λe=>by cases e) O λh9 ep=>QF.gy O O O (QF.ldo (vs:=[.int .i64 j.Hour,Q,U,y]) Ak b O mh O O Zx O O (QF.gy O O O ?_)))
    have c0:=be.trans (a1.trans i)
    have eq:=cw.mono c0
    refine QF.ld Ak b.1 O eq G6 (λe=>by cases e) O λia er=>QF.gy O O O ?_
    have es:=bi.mono' i
    have et:=an.mono' i
    have eu:=ao.mono' i
    obtain⟨ib,c1,F⟩:=bd F
    refine AZ O O O OR O (λh' o=>Gr (St.all h') (ep.mono (o.all b.1)) (Bj.mk (x:=j) b7 (es.mono' (o.all b.1)) (et.mono' (o.all b.1)) (eu.mono' (o.all b.1))) (er.mono (o.all b.1)) c1) (QF.gy O O O (QF.not O O (QF.pick O O O ?_)))
    cases F
    exact AH O
   ·
    have F:=Av b9 F
    cases F
    exact AL O O
  refine QF.mv O O ?_
  obtain⟨ev,G,E⟩:=bd E
  refine QF.cutv 4 68 (.bool ev) ?_ ?_
  ·
   cases ca:b8
   ·
    have G:=Aw ca G
    refine QF.gy O O O (QF.ldo (vs:=[.int .i64 j.Hour,Q,U,y]) Ak b O mh O O Zx O O (QF.gy O O O ?_))
    have ew:=bi.mono' i
    have ey:=an.mono' i
    have ez:=ao.mono' i
    obtain⟨ic,c2,G⟩:=bd G
    refine Af O O O Nv O (λh' o=>Fh (St.all h') (Bj.mk (x:=j) b7 (ew.mono' (o.all b.1)) (ey.mono' (o.all b.1)) (ez.mono' (o.all b.1))) c2) λe0=>?_
    have id:=e0
    refine QF.gy O O O (QF.neq O O O (QF.pick O O O ?_))
    cases G
    exact AH O
   ·
    have G:=Av ca G
    cases G
    exact AL O O
  refine Ai (kp [68,8,7,5,4,3] O) λbj ak Y=>WF.if_ O (λbk=>?_) (λbk=>?_)
  ·
   have E:=Av bk E
   refine WF.seq (WF.rp (.inl O) (QF.as_ O O (AA (kp [6] O) (WF.ret (λaa ww hf hw=>?_)))))
   have c3:=ak.drop .head
   cases E
   have c4:=e5.trans (bf.trans (a0.trans (af.trans (bc.trans (be.trans (a1.trans (i.trans Y)))))))
   exact CS hf hw O O c4 ⟨O,c3⟩
  ·
   have E:=Aw bk E
   refine WF.skip (WF.seq (WF.rp (.inl O) ?_))
   have c5:=be.trans (a1.trans (i.trans Y))
   have aq:=cw.mono c5
   refine QF.fa O aq AV.f_Hour Jm O λie e1=>QF.ldi Aa ak.1 O e1 AN O λig=>?_
   have c6:=af.trans (bc.trans (be.trans (a1.trans (i.trans Y))))
   have ag:=cu.mono c6
   refine QF.fa O ag AV.f_Hour Jm O λih e2=>QF.ldi Aa ak.1 O e2 AN O λii=>QF.eql O O O (QF.as_ O O (AA (kp [9,8,7,5,4,3] O) (WF.seq (WF.seq (WF.rp (.inl O) (QF.as_ O O (AA (kp [10,9,8,7,5,4,3] O) (WF.blockJ (λa w=>∃(a4:Bool),IV B cx bj (191,[]) a w [(8,.pointer (some ⟨M,0,none⟩)),(7,.bool K),(5,az),(4,q8),(3,q1),(9,.bool a4)] (Bx M 36 [.int .i64 j.Hour,Q,U,y]::L) λ_ _=>B8 N D g d K j a4=some r) ?_ ?_))))))))
   ·
    refine WF.loopF (λn1=>λa w=>∃(ar:Bool) (au:Int),IV B cx bj (191,[]) a w [(8,.pointer (some ⟨M,0,none⟩)),(7,.bool K),(5,az),(4,q8),(3,q1),(9,.bool ar),(10,.int .i64 au)] (Bx M 36 [.int .i64 j.Hour,Q,U,y]::L) λ_ _=>AB au∧BJ N D g d (B8 N D g d K j) n1 ar au=some r) N ?_ ?_ ?_
    ·
     intro aa ww hf hw
     exact⟨(decide (g.Hour=d.Hour)),0,_,_,hf.sub (kp [8,7,5,4,3,9,10] O),hw,ak,(BO.refl cx bj),(iq (n:=0) O),E⟩
    ·
     rintro aa ww ⟨_,_,_,_,_,_,_,_,_,E⟩
     rw[BJ] at E;cases E
    ·
     rintro n1 aa ww ⟨ar,au,ij,ik,hf,hw,z,av,il,E⟩
     refine WF.run ?_ hf hw
     clear hf hw ww aa
     rw[BJ] at E
     refine WF.seq (WF.seq (WF.rp (.inl O) (QF.mv O O ?_)))
     have e3:=ap.mono (Y.trans av)
     refine QF.fa O e3 Ah Bs O λim e4=>QF.ldl Aa z.1 O e4 EY O λio e6=>QF.len O e6 Dk O λip=>QF.lss O O O (AA (kp [78,8,7,5,4,3,9,10] O) (WF.if_ O (λbl=>?_) (λbl=>?_)))
     ·
      have E:=Av bl E
      refine WF.skip (WF.seq (WF.block (WF.rc (.inr ⟨mo,by kernel_rfl⟩) z (QF.mv O O (QF.mv O O ?_)))))
      obtain⟨cb,c,E⟩:=bd E
      refine QF.cutv 14 96 (.bool cb) ?_ ?_
      ·
       cases cc:ar
       ·
        have c:=Aw cc c
        cases c
        exact AL O O
       ·
        have c:=Av cc c
        refine QF.gy O O O ?_
        have e7:=aq.mono av
        refine QF.fa O e7 GE JB O λir e8=>QF.gy O O O (QF.ldl Ak z.1 O e8 Mt O λit e9=>QF.gy O O O (QF.mv O O (QF.gy O O O ?_)))
        obtain⟨iu,c7,c⟩:=bd c
        refine QF.ixe O O e9 LY c7 O λiv fb=>QF.gy O O O (QF.ldl Ak z.1 O fb GV O λiw fc=>QF.gy O O O ?_)
        obtain⟨iy,c8,c⟩:=bd c
        refine Af O O O MQ O (λh' o=>Dn (St.all h') (fc.mono' (o.all z.1)) c8) λfd=>?_
        have iz:=fd
        refine QF.gy O O O ?_
        have fe:=ag.mono av
        refine QF.fa O fe GE JB O λi0 ff=>QF.gy O O O (QF.ldl Ak z.1 O ff Mt O λi1 fg=>QF.gy O O O (QF.mv O O (QF.gy O O O ?_)))
        obtain⟨i2,c9,c⟩:=bd c
        refine QF.ixe O O fg LY c9 O λi3 fh=>QF.gy O O O (QF.ldl Ak z.1 O fh GV O λi4 fi=>QF.gy O O O ?_)
        obtain⟨i5,da,c⟩:=bd c
        refine Af O O O MQ O (λh' o=>Dn (St.all h') (fi.mono' (o.all z.1)) da) λfj=>?_
        have i6:=fj
        refine QF.gy O O O (QF.eql O O O (QF.pick O O O ?_))
        cases c
        exact AH O
      refine QF.as_ O O (Ai (kp [9,8,7,5,4,3,10] O) λi7 db fk=>Al (WF.rp (.inl O) (QF.mv O O (QF.addw O O O (QF.as_ O O (AA (kp [10,9,8,7,5,4,3] O) (WF.nil (λaa ww hf hw=>?_))))))))
      exact⟨cb,(Ar (au+1)),_,_,hf.sub (kp [8,7,5,4,3,9,10] O),hw,db,(av.trans fk),(Au _),E⟩
     ·
      have E:=Aw bl E
      refine WF.exit O (λaa ww hf hw=>?_)
      exact⟨ar,_,_,hf.sub (kp [8,7,5,4,3,9] O),hw,z,av,E⟩
   ·
    rintro aa ww ⟨a4,bm,bn,hf,hw,dc,J,E⟩
    refine WF.run ?_ hf hw
    clear hf hw ww aa
    rw[B8] at E
    refine WF.seq (WF.seq (WF.rp (.inl O) (QF.as_ O O (AA (kp [11,8,7,5,4,3,9] O) (WF.blockJ (λa w=>∃(a5:Bool),IV B bm bn (191,[]) a w [(8,.pointer (some ⟨M,0,none⟩)),(7,.bool K),(5,az),(4,q8),(3,q1),(9,.bool a5)] (Bx M 36 [.int .i64 j.Hour,Q,U,y]::L) λ_ _=>B7 N D g d K j a5=some r) ?_ ?_)))))
    ·
     refine WF.loopF (λn3=>λa w=>∃(aw:Bool) (ax:Int),IV B bm bn (191,[]) a w [(8,.pointer (some ⟨M,0,none⟩)),(7,.bool K),(5,az),(4,q8),(3,q1),(9,.bool aw),(11,.int .i64 ax)] (Bx M 36 [.int .i64 j.Hour,Q,U,y]::L) λ_ _=>AB ax∧BI N D g d (B7 N D g d K j) n3 aw ax=some r) N ?_ ?_ ?_
     ·
      intro aa ww hf hw
      exact⟨a4,0,_,_,hf.sub (kp [8,7,5,4,3,9,11] O),hw,dc,(BO.refl bm bn),(iq (n:=0) O),E⟩
     ·
      rintro aa ww ⟨_,_,_,_,_,_,_,_,_,E⟩
      rw[BI] at E;cases E
     ·
      rintro n3 aa ww ⟨aw,ax,i8,i9,hf,hw,m,Z,ja,E⟩
      refine WF.run ?_ hf hw
      clear hf hw ww aa
      rw[BI] at E
      refine WF.seq (WF.seq (WF.rp (.inl O) (QF.mv O O ?_)))
      have dd:=Y.trans (J.trans Z)
      have fl:=ap.mono dd
      refine QF.fa O fl AJ.f_Links EE O λjb fm=>QF.ldl Aa m.1 O fm G7 O λjc fn=>QF.len O fn FT O λjd=>QF.lss O O O (AA (kp [101,8,7,5,4,3,9,11] O) (WF.if_ O (λbo=>?_) (λbo=>?_)))
      ·
       have E:=Av bo E
       refine WF.skip (WF.seq (WF.block (WF.rp (.inr ⟨mo,by kernel_rfl⟩) (QF.mv O O (QF.mv O O ?_)))))
       obtain⟨cd,s,E⟩:=bd E
       refine QF.cutv 14 119 (.bool cd) ?_ ?_
       ·
        cases ce:aw
        ·
         have s:=Aw ce s
         cases s
         exact AL O O
        ·
         have s:=Av ce s
         refine QF.gy O O O ?_
         have fo:=aq.mono (J.trans Z)
         refine QF.fa O fo Du IY O λje fp=>QF.gy O O O (QF.ldl Aa m.1 O fp Ly O λjf fq=>QF.gy O O O (QF.mv O O (QF.gy O O O ?_)))
         obtain⟨jg,de,s⟩:=bd s
         refine QF.ixe O O fq LX de O λjh fr=>QF.gy O O O (QF.fa O fr BM.f_Pos IX O λji fs=>QF.gy O O O (QF.ldi Aa m.1 O fs AN O λjj=>QF.gy O O O ?_))
         have ft:=ag.mono (J.trans Z)
         refine QF.fa O ft Du IY O λjk fu=>QF.gy O O O (QF.ldl Aa m.1 O fu Ly O λjl fv=>QF.gy O O O (QF.mv O O (QF.gy O O O ?_)))
         obtain⟨jm,df,s⟩:=bd s
         refine QF.ixe O O fv LX df O λjn fw=>QF.gy O O O (QF.fa O fw BM.f_Pos IX O λjo fx=>QF.gy O O O (QF.ldi Aa m.1 O fx AN O λjp=>QF.gy O O O (QF.eql O O O (QF.pick O O O ?_))))
         cases s
         exact AH O
       refine QF.mv O O ?_
       obtain⟨cf,t,E⟩:=bd E
       refine QF.cutv 14 134 (.bool cf) ?_ ?_
       ·
        cases cg:cd
        ·
         have t:=Aw cg t
         cases t
         exact AL O O
        ·
         have t:=Av cg t
         refine QF.gy O O O ?_
         have fy:=aq.mono (J.trans Z)
         refine QF.fa O fy Du IY O λjq fz=>QF.gy O O O (QF.ldl Aa m.1 O fz Ly O λjr f0=>QF.gy O O O (QF.mv O O (QF.gy O O O ?_)))
         obtain⟨js,dg,t⟩:=bd t
         refine QF.ixe O O f0 LX dg O λjt f1=>QF.gy O O O (QF.fa O f1 BM.f_Open Jl O λju f2=>QF.gy O O O (QF.ldb Aa m.1 O f2 Kd O (QF.gy O O O ?_)))
         have f3:=ag.mono (J.trans Z)
         refine QF.fa O f3 Du IY O λjv f4=>QF.gy O O O (QF.ldl Aa m.1 O f4 Ly O λjw f5=>QF.gy O O O (QF.mv O O (QF.gy O O O ?_)))
         obtain⟨jx,dh,t⟩:=bd t
         refine QF.ixe O O f5 LX dh O λjy f6=>QF.gy O O O (QF.fa O f6 BM.f_Open Jl O λjz f7=>QF.gy O O O (QF.ldb Aa m.1 O f7 Kd O (QF.gy O O O (QF.eqb O O W4 O (QF.pick O O O ?_)))))
         cases t
         exact AH O
       refine QF.as_ O O (AA (kp [9,8,7,5,4,3,11] O) (Al (WF.rp (.inl O) (QF.mv O O (QF.addw O O O (QF.as_ O O (AA (kp [11,9,8,7,5,4,3] O) (WF.nil (λaa ww hf hw=>?_)))))))))
       exact⟨cf,(Ar (ax+1)),_,_,hf.sub (kp [8,7,5,4,3,9,11] O),hw,m,Z,(Au _),E⟩
      ·
       have E:=Aw bo E
       refine WF.exit O (λaa ww hf hw=>?_)
       exact⟨aw,_,_,hf.sub (kp [8,7,5,4,3,9] O),hw,m,Z,E⟩
    ·
     rintro aa ww ⟨a5,bp,bq,hf,hw,di,ay,E⟩
     refine WF.run ?_ hf hw
     clear hf hw ww aa
     rw[B7] at E
     refine WF.seq (WF.seq (WF.rp (.inl O) (QF.as_ O O (AA (kp [12,8,7,5,4,3,9] O) (WF.blockJ (λa w=>∃(br:Bool),IV B bp bq (191,[]) a w [(8,.pointer (some ⟨M,0,none⟩)),(7,.bool K),(5,az),(3,q1),(9,.bool br)] (Bx M 36 [.int .i64 j.Hour,Q,U,y]::L) λ_ _=>Ba N D d K j br=some r) ?_ ?_)))))
     ·
      refine WF.loopF (λn5=>λa w=>∃(ab:Bool) (ac:Int),IV B bp bq (191,[]) a w [(8,.pointer (some ⟨M,0,none⟩)),(7,.bool K),(5,az),(4,q8),(3,q1),(9,.bool ab),(12,.int .i64 ac)] (Bx M 36 [.int .i64 j.Hour,Q,U,y]::L) λ_ _=>AB ac∧A4 N g d (Ba N D d K j) n5 ab ac=some r) N ?_ ?_ ?_
      ·
       intro aa ww hf hw
       exact⟨a5,0,_,_,hf.sub (kp [8,7,5,4,3,9,12] O),hw,di,(BO.refl bp bq),(iq (n:=0) O),E⟩
      ·
       rintro aa ww ⟨_,_,_,_,_,_,_,_,_,E⟩
       rw[A4] at E;cases E
      ·
       rintro n5 aa ww ⟨ab,ac,f8,j0,hf,hw,am,bt,j1,E⟩
       refine WF.run ?_ hf hw
       clear hf hw ww aa
       rw[A4] at E
       refine WF.seq (WF.seq (WF.rp (.inl O) (QF.mv O O ?_)))
       have bu:=J.trans (ay.trans bt)
       have ch:=aq.mono bu
       refine QF.fa O ch AV.f_Queue GA O λj2 f9=>QF.ldl Aa am.1 O f9 Ik O λj3 ga=>QF.len O ga Hp O λj4=>?_
       have bv:=ag.mono bu
       refine QF.fa O bv AV.f_Queue GA O λj5 gb=>QF.ldl Aa am.1 O gb Ik O λj6 gc=>QF.len O gc Hp O λj7=>QF.addw O O O (QF.lss O O O (AA (kp [143,8,7,5,4,3,9,12] O) (WF.if_ O (λbw=>?_) (λbw=>?_))))
       ·
        have E:=Av bw E
        refine WF.skip (WF.seq (WF.block (WF.seq (WF.rl (LF.q 1 (QF.bld (cs:=[.int .i64 0,.int .i64 0,.slice none 0 0]) XA O O O (AE (LF.al Qi O am λci j8 dj a6=>Aj (vs:=[.int .i64 0,.int .i64 0,.slice none 0 0]) O O O O Kc O dj .head O λge H a7=>LF.nil (kp [13,8,7,5,4,3,9,12] O) (WF.seq (WF.seq (WF.rp (.inl O) ?_)))))))))))
        refine QF.mv O O ?_
        have a8:=ch.mono (a6.trans a7)
        refine QF.fa O a8 AV.f_Queue GA O λj9 gf=>QF.ldl Aa H.1 O gf Ik O λka gg=>QF.len O gg Hp O λkb=>QF.lss O O O (AA (kp [151,13,8,7,5,4,3,9,12] O) (WF.cut (λa w=>∃(a9:Int) (ba:Int) (bx:Value) (bz:List Int),IV B f8 ge (191,[]) a w [(13,.pointer (some ⟨ci,0,none⟩)),(8,.pointer (some ⟨M,0,none⟩)),(7,.bool K),(5,az),(4,q8),(3,q1),(9,.bool ab),(12,.int .i64 ac)] (Bx ci 83 [.int .i64 a9,.int .i64 ba,bx]::Bx M 36 [.int .i64 j.Hour,Q,U,y]::L) λS' h'=>AB a9∧AB ba∧Sl S' h' AW.int bx bz∧Cq N g d ab ac (A4 N g d (Ba N D d K j) n5) a9 ba bz=some r) ?_ ?_))
        ·
         refine WF.if_ O (λb0=>?_) (λb0=>?_)
         ·
          have E:=Av b0 E
          refine WF.rl (LF.q 5 (QF.fa O a8 AV.f_Queue GA O λkc gh=>QF.ldl Aa H.1 O gh Ik O λkd gi=>QF.mv O O ?_))
          obtain⟨ad,dk,E⟩:=bd E
          refine QF.ixe O O gi Hp dk O λke gj=>QF.ld Aa H.1 O gj Kc (λe=>by cases e) O λkf gk=>AE ?_
          obtain⟨b1,rfl,gl,gm,cj⟩:=GD.ex gk
          refine LF.st (vs:=[.int .i64 ad.At,.int .i64 ad.To,b1]) (cs':=[.int .i64 ad.At,.int .i64 ad.To,b1]) O O O (AC O (AC O (AC cj.one C6))) Kc O H .head O O λkg dl ck=>LF.nil (kp [13,8,7,5,4,3,9,12] O) (WF.nil (λaa ww hf hw=>?_))
          have gp:=cj.mono' ck
          exact⟨ad.At,ad.To,b1,ad.Part,_,_,hf.sub (kp [13,8,7,5,4,3,9,12] O),hw,dl,ck,gl,gm,gp,E⟩
         ·
          have E:=Aw b0 E
          refine WF.rl (LF.q 9 ?_)
          have gq:=bv.mono (a6.trans a7)
          refine QF.fa O gq AV.f_Queue GA O λkh gr=>QF.ldl Aa H.1 O gr Ik O λki gs=>QF.mv O O (QF.fa O a8 AV.f_Queue GA O λkj gu=>QF.ldl Aa H.1 O gu Ik O λkk gv=>QF.len O gv Hp O λkl=>QF.subw O O O ?_)
          obtain⟨ae,dm,E⟩:=bd E
          refine QF.ixe O O gs Hp dm O λkm gw=>QF.ld Aa H.1 O gw Kc (λe=>by cases e) O λkn gx=>AE ?_
          obtain⟨b2,rfl,gz,g0,cl⟩:=GD.ex gx
          refine LF.st (vs:=[.int .i64 ae.At,.int .i64 ae.To,b2]) (cs':=[.int .i64 ae.At,.int .i64 ae.To,b2]) O O O (AC O (AC O (AC cl.one C6))) Kc O H .head O O λko dn cm=>LF.nil (kp [13,8,7,5,4,3,9,12] O) (WF.nil (λaa ww hf hw=>?_))
          have g1:=cl.mono' cm
          exact⟨ae.At,ae.To,b2,ae.Part,_,_,hf.sub (kp [13,8,7,5,4,3,9,12] O),hw,dn,cm,gz,g0,g1,E⟩
        ·
         rintro aa ww ⟨a9,ba,bx,bz,kq,kr,hf,hw,A,b3,cn,co,ks,E⟩
         refine WF.run ?_ hf hw
         clear hf hw ww aa
         rw[Cq] at E
         refine WF.rc (.inr ⟨mo,by kernel_rfl⟩) A (QF.mv O O (QF.mv O O ?_))
         obtain⟨cp,u,E⟩:=bd E
         refine QF.cutv 14 181 (.bool cp) ?_ ?_
         ·
          cases cq:ab
          ·
           have u:=Aw cq u
           cases u
           exact AL O O
          ·
           have u:=Av cq u
           refine QF.gy O O O ?_
           have g2:=a8.mono b3
           refine QF.ld Ak A.1 O g2 G6 (λe=>by cases e) O λkt g3=>QF.gy O O O (QF.fao O LG O (QF.gy O O O (AI Ak A O mh O AN O (QF.gy O O O (QF.fao O LE O (QF.gy O O O (AI Ak A O mh O AN O (QF.gy O O O ?_))))))))
           obtain⟨ku,dp,u⟩:=bd u
           refine Af O O O VO O (λh' o=>Hs (St.all h') (g3.mono (o.all A.1)) cn co dp) λg4=>?_
           have kv:=g4
           refine QF.gy O O O ?_
           have dq:=a6.trans (a7.trans b3)
           have g5:=bv.mono dq
           refine QF.ld Ak A.1 O g5 G6 (λe=>by cases e) O λkw g6=>QF.gy O O O (QF.fao O LG O (QF.gy O O O (AI Ak A O mh O AN O (QF.gy O O O (QF.fao O LE O (QF.gy O O O (AI Ak A O mh O AN O (QF.gy O O O ?_))))))))
           obtain⟨kx,dr,u⟩:=bd u
           refine Af O O O VO O (λh' o=>Hs (St.all h') (g6.mono (o.all A.1)) cn co dr) λg7=>?_
           have ky:=g7
           refine QF.gy O O O (QF.eql O O O (QF.pick O O O ?_))
           cases u
           exact AH O
         refine QF.as_ O O (Ai (kp [9,8,7,5,4,3,12] O) λkz ds g8=>Al (WF.rp (.inl O) (QF.mv O O (QF.addw O O O (QF.as_ O O (AA (kp [12,9,8,7,5,4,3] O) (WF.nil (λaa ww hf hw=>?_))))))))
         have dt:=ds.sel [1] 1 O
         have du:=bt.trans (a6.trans (a7.trans (b3.trans g8)))
         exact⟨cp,(Ar (ac+1)),_,_,hf.sub (kp [8,7,5,4,3,9,12] O),hw,dt,du,(Au _),E⟩
       ·
        have E:=Aw bw E
        refine WF.exit O (λaa ww hf hw=>?_)
        exact⟨ab,_,_,hf.sub (kp [8,7,5,3,9] O),hw,am,bt,E⟩
     ·
      rintro aa ww ⟨br,k0,k1,hf,hw,C,bb,E⟩
      refine WF.run ?_ hf hw
      clear hf hw ww aa
      rw[Ba] at E
      refine WF.seq (WF.rc (.inl O) C (QF.mv O O (QF.mv O O ?_)))
      obtain⟨g9,I,E⟩:=bd E
      refine QF.cutv 7 190 (.bool g9) ?_ ?_
      ·
       cases cr:K
       ·
        have I:=Aw cr I
        cases I
        exact AL O O
       ·
        have I:=Av cr I
        refine QF.gy O O O ?_
        have dv:=Y.trans (J.trans (ay.trans bb))
        have ha:=ap.mono dv
        refine QF.ld Ak C.1 O ha D1 (λe=>by cases e) O λk2 hb=>QF.gy O O O (QF.ldo (vs:=[.int .i64 j.Hour,Q,U,y]) Ak C O mh O O Zx O O (QF.gy O O O ?_))
        have dw:=J.trans (ay.trans bb)
        have hc:=ag.mono dw
        refine QF.ld Ak C.1 O hc G6 (λe=>by cases e) O λk3 hd=>QF.gy O O O ?_
        have a2:=i.trans (Y.trans (J.trans (ay.trans bb)))
        have he:=bi.mono' a2
        have hg:=an.mono' a2
        have hh:=ao.mono' a2
        obtain⟨k4,dx,I⟩:=bd I
        refine AZ O O O OR O (λh' o=>Gr (St.all h') (hb.mono (o.all C.1)) (Bj.mk (x:=j) b7 (he.mono' (o.all C.1)) (hg.mono' (o.all C.1)) (hh.mono' (o.all C.1))) (hd.mono (o.all C.1)) dx) (QF.gy O O O (QF.mv O O (QF.gy O O O (QF.eqb O O W4 O (QF.pick O O O ?_)))))
        cases I
        exact AH O
      refine QF.as_ O O (Ai (kp [6] O) λk5 dy hi=>WF.ret (λaa ww hf hw=>?_))
      have dz:=dy.drop .head
      cases E
      have d0:=e5.trans (bf.trans (a0.trans (af.trans (bc.trans (be.trans (a1.trans (i.trans (Y.trans (J.trans (ay.trans (bb.trans hi)))))))))))
      exact CS hf hw O O d0 ⟨O,dz⟩
end Go.Proofs.YtibidnaedddfdaaGreat
