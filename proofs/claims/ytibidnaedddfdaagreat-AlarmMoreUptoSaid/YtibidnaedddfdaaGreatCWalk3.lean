import Derived.Test.YtibidnaedddfdaaGreatCWalk2
namespace Go.Proofs.YtibidnaedddfdaaGreat
open Go.RowKit
set_option linter.unusedVariables false
set_option linter.unusedSimpArgs false
set_option maxRecDepth 10000
set_option maxHeartbeats 2000000
variable {N:Nat}{S:Nat→Prop}{L:List HP}{h:AX}
theorem Hy (hs:St S L h) {a:Int}(b:IntKind.has .u64 a) {r:Int}(E:DF N a=some r):
 Bf Tryz.prog 171 #[.int .u64 a] S h (λv S' h'=>v= .int .i64 r∧AB r∧St S' (L) h'):=by
 refine Ab (l:=[.int .u64 a]) 6 Tryz.func171 O Tryz.ntmps171 O λB=>?_
 rw[DF] at E
 refine WF.seq (WF.rp (.inl O) (QF.as_ O O (AA (kp [0] O) (WF.seq (WF.rc (.inl O) hs (QF.mv O O ?_))))))
 obtain⟨j,c,E⟩:=bd E
 refine Ao O O O Xa O (λh' o=>Ko (St.all h') b c) λg=>?_
 have k:=g
 refine QF.subw O O O (QF.as_ O O (Ak (kp [2] O) λm d i=>WF.ret (λaa ww hf hw=>?_)))
 cases E
 exact DD hf hw O O i ⟨O,(BA _),d⟩
theorem H9 (hs:St S L h) {d:Int}(Y:IntKind.has .u64 d) {b:Int}(u:IntKind.has .u64 b) {c:Int}(z:IntKind.has .u64 c) {r:Int×Int}(E:De N d b c=some r):
 Bf Tryz.prog 143 #[.int .u64 d,.int .u64 b,.int .u64 c] S h (λv S' h'=>v= .tuple #[.int .u64 r.1,.int .u64 r.2]∧IntKind.has .u64 r.1∧IntKind.has .u64 r.2∧St S' (L) h'):=by
 refine Ab (l:=[.int .u64 d,.int .u64 b,.int .u64 c]) 135 Tryz.func143 O Tryz.ntmps143 O λB=>?_
 rw[De] at E
 refine WF.seq (WF.rp (.inl O) (QF.as_ O O (QF.as_ O O (AA (kp [0,1,2] O) (WF.seq (WF.seq (WF.rp (.inl O) (QF.mv O O (QF.eql O O O (AA (kp [20,0,1,2] O) (WF.if_ O (λc1=>?_) (λc1=>?_))))))))))))
 ·
  have E:=A0 c1 E
  cases E
 ·
  have E:=A3 c1 E
  refine WF.skip (WF.seq (WF.seq (WF.rp (.inl O) (QF.mv O O (QF.mv O O (QF.leq O O O (AA (kp [24,0,1,2] O) (WF.if_ O (λc2=>?_) (λc2=>?_)))))))))
  ·
   have E:=A0 c2 E
   cases E
  ·
   have E:=A3 c2 E
   refine WF.skip (WF.seq (WF.seq (WF.rp (.inl O) (QF.mv O O (QF.eql O O O (AA (kp [27,0,1,2] O) (WF.if_ O (λc3=>?_) (λc3=>?_))))))))
   ·
    have E:=A0 c3 E
    refine WF.seq (WF.rp (.inr ⟨mo,by kernel_rfl⟩) (QF.mv O O (QF.mv O O ?_)))
    obtain⟨z4,Z,E⟩:=bd E
    have r5:IntKind.has .u64 z4:=J5 Z
    refine QF.quok O O O Z (QF.mv O O (QF.mv O O ?_))
    obtain⟨z6,ab,E⟩:=bd E
    have r7:IntKind.has .u64 z6:=Te u ab
    refine QF.remk O O O ab (QF.as_ O O (QF.as_ O O (AA (kp [7,6] O) (WF.ret (λaa ww hf hw=>?_)))))
    cases E
    exact HQ hf O hw (Gk (Jj hf (v:=_) O) (Gk (Jj hf (v:=_) O) HC)) O (Bc.refl S h) ⟨O,r5,r7,hs⟩
   ·
    have E:=A3 c3 E
    refine WF.skip (WF.seq (WF.rc (.inl O) hs (QF.mv O O ?_)))
    obtain⟨C,am,E⟩:=bd E
    refine Ao O O O Xf O (λh' o=>Hy (St.all h') z am) λr9=>?_
    have ax:=r9
    refine QF.convk O LA NB O (QF.as_ O O (Ak (kp [8,0,1,2] O) λG ac an=>WF.seq (WF.rp (.inl O) (QF.mv O O (QF.mv O O ?_)))))
    obtain⟨g,ad,E⟩:=bd E
    refine QF.shlk (j:=g) O O O ad (QF.as_ O O (AA (kp [2,8,0,1] O) (WF.seq (WF.rp (.inl O) (QF.mv O O (QF.shrk (j:=32) O O O O (QF.as_ O O (AA (kp [9,2,8,0,1] O) (WF.seq (WF.rp (.inl O) (QF.mv O O (QF.andk O O O (QF.as_ O O ?_)))))))))))))
    refine AA (kp [10,9,2,8,0,1] O) (WF.seq (WF.rp (.inl O) (QF.mv O O (QF.mv O O ?_))))
    obtain⟨k,ae,E⟩:=bd E
    refine QF.shlk (j:=k) O O O ae (QF.mv O O (QF.mv O O (QF.subk O O O ?_)))
    obtain⟨m,af,E⟩:=bd E
    refine QF.shrk (j:=m) O O O af (QF.ork O O O (QF.as_ O O (AA (kp [11,10,9,2,8,1] O) (WF.seq (WF.rp (.inl O) (QF.mv O O (QF.mv O O ?_)))))))
    obtain⟨i,ag,E⟩:=bd E
    refine QF.shlk (j:=i) O O O ag (QF.as_ O O (AA (kp [12,11,10,9,2,8] O) (WF.seq (WF.rp (.inl O) (QF.mv O O (QF.shrk (j:=32) O O O O (QF.as_ O O (AA (kp [13,12,11,10,9,2,8] O) (WF.seq (WF.rp (.inl O) (QF.mv O O (QF.andk O O O (QF.as_ O O ?_)))))))))))))
    refine AA (kp [14,13,11,10,9,2,8] O) (WF.seq (WF.rp (.inl O) (QF.mv O O (QF.mv O O ?_))))
    obtain⟨H,D,E⟩:=bd E
    have ao:IntKind.has .u64 H:=J5 D
    refine QF.quok O O O D (QF.as_ O O (AA (kp [15,14,13,11,10,9,2,8] O) (WF.seq (WF.rp (.inl O) (QF.mv O O (QF.mv O O (QF.mv O O (QF.mulk O O O (QF.subk O O O (QF.as_ O O (AA (kp [16,15,14,13,11,10,9,2,8] O) (WF.seq (WF.blockJ (λa w=>∃(n:Int),IV B S G (135,[]) a w [(14,.int .u64 (FD .and .u64 (CH .u64 b i) 4294967295)),(13,.int .u64 (Ce .u64 (CH .u64 b i) 32)),(11,.int .u64 (FD .or .u64 (CH .u64 d k) (Ce .u64 b m))),(10,.int .u64 (FD .and .u64 (CH .u64 c g) 4294967295)),(9,.int .u64 (Ce .u64 (CH .u64 c g) 32)),(2,.int .u64 (CH .u64 c g)),(8,.int .u64 (IntKind.wrap .u64 C)),(15,.int .u64 n)] (L) λ_ _=>IntKind.has .u64 n∧CM N d b c C g k m i n=some r) ?_ ?_)))))))))))))
    ·
     refine WF.loopF (λn1=>λa w=>∃(p:Int) (s:Int),IV B S G (135,[]) a w [(14,.int .u64 (FD .and .u64 (CH .u64 b i) 4294967295)),(13,.int .u64 (Ce .u64 (CH .u64 b i) 32)),(11,.int .u64 (FD .or .u64 (CH .u64 d k) (Ce .u64 b m))),(10,.int .u64 (FD .and .u64 (CH .u64 c g) 4294967295)),(9,.int .u64 (Ce .u64 (CH .u64 c g) 32)),(2,.int .u64 (CH .u64 c g)),(8,.int .u64 (IntKind.wrap .u64 C)),(15,.int .u64 p),(16,.int .u64 s)] (L) λ_ _=>IntKind.has .u64 p∧IntKind.has .u64 s∧Bt N b c g i (CM N d b c C g k m i) n1 p s=some r) N ?_ ?_ ?_
     ·
      intro aa ww hf hw
      exact⟨H,(IntKind.wrap .u64 ((FD .or .u64 (CH .u64 d k) (Ce .u64 b m))-(IntKind.wrap .u64 (H*(Ce .u64 (CH .u64 c g) 32))))),_,_,hf.sub (kp [14,13,11,10,9,2,8,15,16] O),hw,ac,(Bc.refl S G),ao,(C8 _ _),E⟩
     ·
      rintro aa ww ⟨_,_,_,_,_,_,_,_,_,_,E⟩
      rw[Bt] at E;cases E
     ·
      rintro n1 aa ww ⟨p,s,ay,az,hf,hw,x,I,ap,a0,E⟩
      refine WF.run ?_ hf hw
      clear hf hw ww aa
      rw[Bt] at E
      refine WF.seq (WF.seq (WF.rp (.inl O) (QF.mv O O (QF.geq O O O (QF.mv O O (QF.cutv 9 78 (.bool ((decide (4294967296≤p))||(decide ((IntKind.wrap .u64 ((IntKind.wrap .u64 (4294967296*s))+(Ce .u64 (CH .u64 b i) 32)))<(IntKind.wrap .u64 (p*(FD .and .u64 (CH .u64 c g) 4294967295))))))) ?_ ?_))))))
      ·
       cases a1:(decide (4294967296≤p))
       ·
        refine QF.gy O O O (QF.mv O O (QF.gy O O O (QF.mv O O (QF.gy O O O (QF.mulk O O O (QF.gy O O O (QF.mv O O (QF.gy O O O (QF.mulk O O O (QF.gy O O O (QF.mv O O (QF.gy O O O (QF.addk O O O ?_)))))))))))))
        exact QF.gy O O O (QF.gtr O O O (QF.pick O O O (AH O)))
       ·exact AK O O
      refine AA (kp [78,14,13,11,10,9,2,8,15,16] O) (WF.if_ O (λJ=>?_) (λJ=>?_))
      ·
       have E:=A0 J E
       refine WF.skip (WF.block (WF.seq (WF.rp (.inl O) (QF.mv O O (QF.subk O O O (QF.as_ O O (AA (kp [15,14,13,11,10,9,2,8,16] O) (WF.seq (WF.rp (.inl O) (QF.mv O O (QF.mv O O (QF.addk O O O (QF.as_ O O ?_)))))))))))))
       refine AA (kp [16,15,14,13,11,10,9,2,8] O) (WF.seq (WF.rp (.inl O) (QF.mv O O (QF.geq O O O (AA (kp [85,16,15,14,13,11,10,9,2,8] O) (WF.if_ O (λK=>?_) (λK=>?_)))))))
       ·
        have E:=A0 K E
        refine WF.exit O (λaa ww hf hw=>?_)
        exact⟨(IntKind.wrap .u64 (p-1)),_,_,hf.sub (kp [14,13,11,10,9,2,8,15] O),hw,x,I,(C8 _ _),E⟩
       ·
        have E:=A3 K E
        refine WF.skip (Ap (WF.nil (λaa ww hf hw=>?_)))
        exact⟨(IntKind.wrap .u64 (p-1)),(IntKind.wrap .u64 (s+(Ce .u64 (CH .u64 c g) 32))),_,_,hf.sub (kp [14,13,11,10,9,2,8,15,16] O),hw,x,I,(C8 _ _),(C8 _ _),E⟩
      ·
       have E:=A3 J E
       refine WF.exit O (λaa ww hf hw=>?_)
       exact⟨p,_,_,hf.sub (kp [14,13,11,10,9,2,8,15] O),hw,x,I,ap,E⟩
    ·
     rintro aa ww ⟨n,M,Q,hf,hw,ah,aq,a2,E⟩
     refine WF.run ?_ hf hw
     clear hf hw ww aa
     rw[CM] at E
     refine WF.seq (WF.rp (.inl O) (QF.mv O O (QF.mulk O O O (QF.mv O O (QF.addk O O O (QF.mv O O (QF.mv O O (QF.mulk O O O (QF.subk O O O (QF.as_ O O (AA (kp [17,14,10,9,2,8,15] O) (WF.seq (WF.rp (.inl O) ?_)))))))))))))
     refine QF.mv O O (QF.mv O O ?_)
     obtain⟨U,F,E⟩:=bd E
     have ar:IntKind.has .u64 U:=J5 F
     refine QF.quok O O O F (QF.as_ O O (AA (kp [18,17,14,10,9,2,8,15] O) (WF.seq (WF.rp (.inl O) (QF.mv O O (QF.mv O O (QF.mv O O (QF.mulk O O O (QF.subk O O O (QF.as_ O O (AA (kp [16,18,17,14,10,9,2,8,15] O) (WF.seq (WF.blockJ (λa w=>∃(A:Int),IV B M Q (135,[]) a w [(17,.int .u64 (IntKind.wrap .u64 ((IntKind.wrap .u64 ((IntKind.wrap .u64 ((FD .or .u64 (CH .u64 d k) (Ce .u64 b m))*4294967296))+(Ce .u64 (CH .u64 b i) 32)))-(IntKind.wrap .u64 (n*(CH .u64 c g)))))),(14,.int .u64 (FD .and .u64 (CH .u64 b i) 4294967295)),(2,.int .u64 (CH .u64 c g)),(8,.int .u64 (IntKind.wrap .u64 C)),(15,.int .u64 n),(18,.int .u64 A)] (L) λ_ _=>IntKind.has .u64 A∧DG N d b c C g k m i n A=some r) ?_ ?_)))))))))))))
     ·
      refine WF.loopF (λn3=>λa w=>∃(t:Int) (q:Int),IV B M Q (135,[]) a w [(17,.int .u64 (IntKind.wrap .u64 ((IntKind.wrap .u64 ((IntKind.wrap .u64 ((FD .or .u64 (CH .u64 d k) (Ce .u64 b m))*4294967296))+(Ce .u64 (CH .u64 b i) 32)))-(IntKind.wrap .u64 (n*(CH .u64 c g)))))),(14,.int .u64 (FD .and .u64 (CH .u64 b i) 4294967295)),(10,.int .u64 (FD .and .u64 (CH .u64 c g) 4294967295)),(9,.int .u64 (Ce .u64 (CH .u64 c g) 32)),(2,.int .u64 (CH .u64 c g)),(8,.int .u64 (IntKind.wrap .u64 C)),(15,.int .u64 n),(16,.int .u64 t),(18,.int .u64 q)] (L) λ_ _=>IntKind.has .u64 t∧IntKind.has .u64 q∧CL N b c g i (DG N d b c C g k m i n) n3 t q=some r) N ?_ ?_ ?_
      ·
       intro aa ww hf hw
       exact⟨(IntKind.wrap .u64 ((IntKind.wrap .u64 ((IntKind.wrap .u64 ((IntKind.wrap .u64 ((FD .or .u64 (CH .u64 d k) (Ce .u64 b m))*4294967296))+(Ce .u64 (CH .u64 b i) 32)))-(IntKind.wrap .u64 (n*(CH .u64 c g)))))-(IntKind.wrap .u64 (U*(Ce .u64 (CH .u64 c g) 32))))),U,_,_,hf.sub (kp [17,14,10,9,2,8,15,16,18] O),hw,ah,(Bc.refl M Q),(C8 _ _),ar,E⟩
      ·
       rintro aa ww ⟨_,_,_,_,_,_,_,_,_,_,E⟩
       rw[CL] at E;cases E
      ·
       rintro n3 aa ww ⟨t,q,a3,a4,hf,hw,y,V,a5,au,E⟩
       refine WF.run ?_ hf hw
       clear hf hw ww aa
       rw[CL] at E
       refine WF.seq (WF.seq (WF.rp (.inl O) (QF.mv O O (QF.geq O O O (QF.mv O O (QF.cutv 9 113 (.bool ((decide (4294967296≤q))||(decide ((IntKind.wrap .u64 ((IntKind.wrap .u64 (4294967296*t))+(FD .and .u64 (CH .u64 b i) 4294967295)))<(IntKind.wrap .u64 (q*(FD .and .u64 (CH .u64 c g) 4294967295))))))) ?_ ?_))))))
       ·
        cases a6:(decide (4294967296≤q))
        ·
         refine QF.gy O O O (QF.mv O O (QF.gy O O O (QF.mv O O (QF.gy O O O (QF.mulk O O O (QF.gy O O O (QF.mv O O (QF.gy O O O (QF.mulk O O O (QF.gy O O O (QF.mv O O (QF.gy O O O (QF.addk O O O ?_)))))))))))))
         exact QF.gy O O O (QF.gtr O O O (QF.pick O O O (AH O)))
        ·exact AK O O
       refine AA (kp [113,17,14,10,9,2,8,15,16,18] O) (WF.if_ O (λW=>?_) (λW=>?_))
       ·
        have E:=A0 W E
        refine WF.skip (WF.block (WF.seq (WF.rp (.inl O) (QF.mv O O (QF.subk O O O (QF.as_ O O (AA (kp [18,17,14,10,9,2,8,15,16] O) (WF.seq (WF.rp (.inl O) (QF.mv O O (QF.mv O O (QF.addk O O O (QF.as_ O O ?_)))))))))))))
        refine AA (kp [16,18,17,14,10,9,2,8,15] O) (WF.seq (WF.rp (.inl O) (QF.mv O O (QF.geq O O O (AA (kp [120,16,18,17,14,10,9,2,8,15] O) (WF.if_ O (λX=>?_) (λX=>?_)))))))
        ·
         have E:=A0 X E
         refine WF.exit O (λaa ww hf hw=>?_)
         exact⟨(IntKind.wrap .u64 (q-1)),_,_,hf.sub (kp [17,14,2,8,15,18] O),hw,y,V,(C8 _ _),E⟩
        ·
         have E:=A3 X E
         refine WF.skip (Ap (WF.nil (λaa ww hf hw=>?_)))
         exact⟨(IntKind.wrap .u64 (t+(Ce .u64 (CH .u64 c g) 32))),(IntKind.wrap .u64 (q-1)),_,_,hf.sub (kp [17,14,10,9,2,8,15,16,18] O),hw,y,V,(C8 _ _),(C8 _ _),E⟩
       ·
        have E:=A3 W E
        refine WF.exit O (λaa ww hf hw=>?_)
        exact⟨q,_,_,hf.sub (kp [17,14,2,8,15,18] O),hw,y,V,au,E⟩
     ·
      rintro aa ww ⟨A,a7,a8,hf,hw,ai,av,a9,E⟩
      refine WF.run ?_ hf hw
      clear hf hw ww aa
      rw[DG] at E
      refine WF.seq (WF.rp (.inl O) (QF.mv O O (QF.mulk O O O (QF.mv O O (QF.addk O O O (QF.mv O O (QF.mulk O O O (QF.mv O O (QF.addk O O O (QF.mv O O (QF.mv O O (QF.mulk O O O (QF.subk O O O ?_)))))))))))))
      refine QF.mv O O ?_
      obtain⟨aw,aj,E⟩:=bd E
      refine QF.shrk (j:=aw) O O O aj (QF.as_ O O (QF.as_ O O (AA (kp [7,6] O) (WF.ret (λaa ww hf hw=>?_)))))
      cases E
      have ak:=an.trans (aq.trans av)
      exact HQ hf O hw (Gk (Jj hf (v:=_) O) (Gk (Jj hf (v:=_) O) HC)) O ak ⟨O,(C8 _ _),(M1 _ (C8 _ _) _),ai⟩
theorem Gz (hs:St S L h) {b:Int}(w:AB b) {a:Int}(q:AB a) {c:Int}(s:AB c) {r:Int×Int×Bool}(E:EB N b a c=some r):
 Bf Tryz.prog 152 #[.int .i64 b,.int .i64 a,.int .i64 c] S h (λv S' h'=>v= .tuple #[.int .i64 r.1,.int .i64 r.2.1,.bool r.2.2]∧AB r.1∧AB r.2.1∧St S' (L) h'):=by
 refine Ab (l:=[.int .i64 b,.int .i64 a,.int .i64 c]) 61 Tryz.func152 O Tryz.ntmps152 O λB=>?_
 rw[EB] at E
 refine WF.seq (WF.rp (.inl O) (QF.as_ O O (QF.as_ O O (QF.as_ O O (AA (kp [0,1,2] O) (WF.seq (WF.seq (WF.rp (.inl O) (QF.mv O O (QF.lss O O O (QF.mv O O (QF.cutv 3 18 (.bool ((decide (b<0))||(decide (1125899906842624<b)))) ?_ ?_))))))))))))
 ·
  cases K:(decide (b<0))
  ·exact QF.gy O O O (QF.mv O O (QF.gy O O O (QF.gtr O O O (QF.pick O O O (AH O)))))
  ·exact AK O O
 refine QF.mv O O (QF.cutv 3 22 (.bool (((decide (b<0))||(decide (1125899906842624<b)))||(decide (a<0)))) ?_ ?_)
 ·
  cases M:((decide (b<0))||(decide (1125899906842624<b)))
  ·exact QF.gy O O O (QF.mv O O (QF.gy O O O (QF.lss O O O (QF.pick O O O (AH O)))))
  ·exact AK O O
 refine QF.mv O O (QF.cutv 3 26 (.bool ((((decide (b<0))||(decide (1125899906842624<b)))||(decide (a<0)))||(decide (1125899906842624<a)))) ?_ ?_)
 ·
  cases Q:(((decide (b<0))||(decide (1125899906842624<b)))||(decide (a<0)))
  ·exact QF.gy O O O (QF.mv O O (QF.gy O O O (QF.gtr O O O (QF.pick O O O (AH O)))))
  ·exact AK O O
 refine QF.mv O O (QF.cutv 3 30 (.bool (((((decide (b<0))||(decide (1125899906842624<b)))||(decide (a<0)))||(decide (1125899906842624<a)))||(decide (c<1)))) ?_ ?_)
 ·
  cases U:((((decide (b<0))||(decide (1125899906842624<b)))||(decide (a<0)))||(decide (1125899906842624<a)))
  ·exact QF.gy O O O (QF.mv O O (QF.gy O O O (QF.lss O O O (QF.pick O O O (AH O)))))
  ·exact AK O O
 refine QF.mv O O (QF.cutv 3 34 (.bool ((((((decide (b<0))||(decide (1125899906842624<b)))||(decide (a<0)))||(decide (1125899906842624<a)))||(decide (c<1)))||(decide (1125899906842624<c)))) ?_ ?_)
 ·
  cases V:(((((decide (b<0))||(decide (1125899906842624<b)))||(decide (a<0)))||(decide (1125899906842624<a)))||(decide (c<1)))
  ·exact QF.gy O O O (QF.mv O O (QF.gy O O O (QF.gtr O O O (QF.pick O O O (AH O)))))
  ·exact AK O O
 refine AA (kp [34,0,1,2] O) (WF.if_ O (λy=>?_) (λy=>?_))
 ·
  have E:=A0 y E
  refine WF.seq (WF.rp (.inl O) (QF.as_ O O (QF.as_ O O (QF.as_ O O (AA (kp [8,7,6] O) (WF.ret (λaa ww hf hw=>?_)))))))
  cases E
  exact HQ hf O hw (Gk (Jj hf (v:=_) O) (Gk (Jj hf (v:=_) O) (Gk (Jj hf (v:=_) O) HC))) O (Bc.refl S h) ⟨O,(iq (n:=0) O),(iq (n:=0) O),hs⟩
 ·
  have E:=A3 y E
  refine WF.skip (WF.seq (WF.rc (.inl O) hs (QF.mv O O (QF.convk O LA Iv O (QF.mv O O (QF.convk O LA Iv O ?_))))))
  obtain⟨x,z,E⟩:=bd E
  refine GE (v:= .tuple #[.int .u64 x.1,.int .u64 x.2]) (Ψ:=IntKind.has .u64 x.1∧IntKind.has .u64 x.2) O O O Uj O (λh' o=>(H8 (St.all h') (C8 _ _) (C8 _ _) z).mono λ_ _ _ _ p=>⟨p.1,⟨p.2.1,p.2.2.1⟩⟩) λD=>?_
  obtain⟨F,A⟩:=D
  refine QF.mv O O (QF.ext O O O (QF.ext O O O (QF.as_ O O (QF.as_ O O (Ak (kp [10,9,2] O) λG g j=>WF.seq (WF.seq (WF.rp (.inl O) (QF.mv O O (QF.mv O O (QF.convk O LA Iv O (QF.geq O O O (AA (kp [46,10,9,2] O) ?_))))))))))))
  refine WF.if_ O (λk=>?_) (λk=>?_)
  ·
   have E:=A0 k E
   refine WF.seq (WF.rp (.inl O) (QF.as_ O O (QF.as_ O O (QF.as_ O O (AA (kp [8,7,6] O) (WF.ret (λaa ww hf hw=>?_)))))))
   cases E
   exact HQ hf O hw (Gk (Jj hf (v:=_) O) (Gk (Jj hf (v:=_) O) (Gk (Jj hf (v:=_) O) HC))) O j ⟨O,(iq (n:=0) O),(iq (n:=0) O),g⟩
  ·
   have E:=A3 k E
   refine WF.skip (WF.seq (WF.rc (.inl O) g (QF.mv O O (QF.mv O O (QF.mv O O (QF.convk O LA Iv O ?_))))))
   obtain⟨d,t,E⟩:=bd E
   refine GE (v:= .tuple #[.int .u64 d.1,.int .u64 d.2]) (Ψ:=IntKind.has .u64 d.1∧IntKind.has .u64 d.2) O O O Ui O (λh' o=>(H9 (St.all h') F A (C8 _ _) t).mono λ_ _ _ _ p=>⟨p.1,⟨p.2.1,p.2.2.1⟩⟩) λC=>?_
   obtain⟨H,I⟩:=C
   refine QF.mv O O (QF.ext O O O (QF.ext O O O (QF.as_ O O (QF.as_ O O (Ak (kp [12,11] O) λJ i u=>WF.seq (WF.seq (WF.rp (.inl O) (QF.mv O O (QF.gtr O O O (AA (kp [56,12,11] O) (WF.if_ O (λm=>?_) (λm=>?_))))))))))))
   ·
    have E:=A0 m E
    refine WF.seq (WF.rp (.inl O) (QF.as_ O O (QF.as_ O O (QF.as_ O O (AA (kp [8,7,6] O) (WF.ret (λaa ww hf hw=>?_)))))))
    cases E
    exact HQ hf O hw (Gk (Jj hf (v:=_) O) (Gk (Jj hf (v:=_) O) (Gk (Jj hf (v:=_) O) HC))) O (j.trans u) ⟨O,(iq (n:=0) O),(iq (n:=0) O),i⟩
   ·
    have E:=A3 m E
    refine WF.skip (WF.seq (WF.rp (.inl O) (QF.mv O O (QF.convk O Iv LA O (QF.mv O O (QF.convk O Iv LA O (QF.as_ O O (QF.as_ O O (QF.as_ O O (AA (kp [8,7,6] O) (WF.ret (λaa ww hf hw=>?_))))))))))))
    cases E
    exact HQ hf O hw (Gk (Jj hf (v:=_) O) (Gk (Jj hf (v:=_) O) (Gk (Jj hf (v:=_) O) HC))) O (j.trans u) ⟨O,(BA _),(BA _),i⟩
theorem Hz (hs:St S L h) {d:Value}{i:(List AU)}(n:Sl S h BB d i) {b:Int}(s:AB b) {r:Int×Bool}(E:Cv N i b=some r):
 Bf Tryz.prog 170 #[d,.int .i64 b] S h (λv S' h'=>v= .tuple #[.int .i64 r.1,.bool r.2]∧AB r.1∧St S' (L) h'):=by
 refine Ab (l:=[d,.int .i64 b]) 63 Tryz.func170 O Tryz.ntmps170 O λB=>?_
 rw[Cv] at E
 refine WF.seq (WF.rl (LF.boxp O (PK n) (λ_=>rfl) O hs λq1 S2 h3 ag e5 k6=>LF.boxp O (⟨_,O,O,s⟩:Rd _ _ AV.int _ b) (λ_=>rfl) O ag λq7 S8 h9 j t F=>LF.q 2 (QF.as_ O O (QF.as_ O O (AG (LF.nil (kp [3,2] O) (WF.seq (WF.rc (.inl O) j ?_))))))))
 have u:=k6.mono t
 refine QF.ldl Ai j.1 O u GN O λa7 ah=>QF.len O ah F8 O λai=>QF.mkf O O O ?_
 have G:Rd S8 h9 (AV.fn Tryz.prog (λx:Int=>([.int .i64 x]:List Value)) (λx:Int=>AB x) (λy:Bool=> .bool y) (λy:Bool=>True)) (.func (.func 183) #[] #[q1,q7]) (λx=>DP N i b x):=JV 183 #[q1,q7] Xb λS' h' s' e' L hs x y h1 h2=>(Ly hs h1 (u.mono'' s' e') (F.mono'' s' e') h2).mono λ_ _ _ _ p=>⟨p.1,trivial,p.2⟩
 obtain⟨a8,H,E⟩:=bd E
 refine Ao O O O Xg O (λh' o=>Mk (St.all h') (Jk ai) (G.mono (o.all j.1)) H) λaj=>?_
 have a9:=aj
 refine QF.as_ O O (Ak (kp [6,3,2] O) λba c g=>WF.seq (WF.seq (WF.rp (.inl O) (QF.mv O O (QF.eql O O O (AA (kp [16,6,3,2] O) (WF.if_ O (λA=>?_) (λA=>?_))))))))
 ·
  have E:=A0 A E
  refine WF.seq (WF.rp (.inl O) ?_)
  have ak:=u.mono g
  refine QF.ldl Af c.1 O ak GN O λbb am=>?_
  obtain⟨bc,I,E⟩:=bd E
  refine QF.ixe O O am F8 I O λbe an=>QF.fa O an Ic GP O λbf ao=>QF.ldi Af c.1 O ao AL O λap=>QF.as_ O O (QF.as_ O O (AA (kp [5,4] O) (WF.ret (λaa ww hf hw=>?_))))
  cases E
  have J:=e5.trans (t.trans g)
  exact HQ hf O hw (Gk (Jj hf (v:=_) O) (Gk (Jj hf (v:=_) O) HC)) O J ⟨O,ap,c⟩
 ·
  have E:=A3 A E
  refine WF.skip (WF.seq (WF.rl (LF.q 5 ?_)))
  have K:=u.mono g
  refine QF.ldl Af c.1 O K GN O λbg aq=>QF.mv O O (QF.subw O O O ?_)
  obtain⟨M,Q,E⟩:=bd E
  refine QF.ixe O O aq F8 Q O λbh ar=>QF.ld Af c.1 O ar MV (λe=>by cases e) O λbi au=>AG (LF.al RG O c λbj bk U k=>?_)
  have av:=au.mono k
  obtain⟨rfl,⟨bl,aw⟩⟩:=BB.ex av
  refine Ad (vs:=[.int .i64 M.X,.int .i64 M.Y]) O O O O MV O U .head O λbm a w=>LF.nil (kp [7,6,3,2] O) (WF.seq (WF.seq (WF.rp (.inl O) (QF.mv O O ?_))))
  have C:=K.mono (k.trans w)
  refine QF.ldl Af a.1 O C GN O λbn ax=>QF.len O ax F8 O λbo=>QF.eql O O O (AA (kp [29,7,6,3,2] O) (WF.if_ O (λD=>?_) (λD=>?_)))
  ·
   have E:=A0 D E
   refine WF.seq (WF.rp (.inl O) (QF.fao O GP O (AI Af a O mh O AL O (QF.as_ O O (QF.as_ O O (AA (kp [5,4] O) (WF.ret (λaa ww hf hw=>?_))))))))
   have V:=a.drop .head
   cases E
   have W:=e5.trans (t.trans (g.trans (k.trans w)))
   exact HQ hf O hw (Gk (Jj hf (v:=_) O) (Gk (Jj hf (v:=_) O) HC)) O W ⟨O,aw,V⟩
  ·
   have E:=A3 D E
   refine WF.skip (WF.seq (WF.rc (.inr ⟨mo,by kernel_rfl⟩) a ?_))
   have Z:=g.trans (k.trans w)
   have ay:=F.mono Z
   refine QF.ldi Ai a.1 O ay AL O λbp=>QF.fao O Gu O (AI Ai a O mh O AL O (QF.subw O O O (QF.ldl Ai a.1 O C GN O λbq az=>QF.mv O O ?_)))
   obtain⟨br,ab,E⟩:=bd E
   refine QF.ixe O O az F8 ab O λbt a0=>QF.fa O a0 Ic GP O λbu a1=>QF.ldi Ai a.1 O a1 AL O λbv=>QF.fao O GP O (AI Ai a O mh O AL O (QF.subw O O O (QF.ldl Ai a.1 O C GN O λbw a2=>QF.mv O O ?_)))
   obtain⟨bx,ac,E⟩:=bd E
   refine QF.ixe O O a2 F8 ac O λbz a3=>QF.fa O a3 Ie Gu O λb0 a4=>QF.ldi Ai a.1 O a4 AL O λb1=>QF.fao O Gu O (AI Ai a O mh O AL O (QF.subw O O O ?_))
   obtain⟨m,ad,E⟩:=bd E
   refine GE (v:= .tuple #[.int .i64 m.1,.int .i64 m.2.1,.bool m.2.2]) (Ψ:=AB m.1∧AB m.2.1) O O O PD O (λh' o=>(Gz (St.all h') (BA _) (BA _) (BA _) ad).mono λ_ _ _ _ p=>⟨p.1,⟨p.2.1,p.2.2.1⟩⟩) λa5=>?_
   obtain⟨b2,b3⟩:=a5
   refine QF.mv O O (QF.ext O O O (QF.ext O O O (QF.ext O O O (QF.as_ O O (QF.as_ O O (QF.as_ O O (Ak (kp [9,8,7] O) λb4 z a6=>WF.seq (WF.rp (.inl O) (QF.fao O GP O (AI Af z O mh O AL O (QF.mv O O (QF.addw O O O ?_))))))))))))
   refine QF.mv O O (QF.gtr O O O (QF.as_ O O (QF.as_ O O (AA (kp [5,4] O) (WF.ret (λaa ww hf hw=>?_))))))
   have ae:=z.drop .head
   cases E
   have af:=e5.trans (t.trans (g.trans (k.trans (w.trans a6))))
   exact HQ hf O hw (Gk (Jj hf (v:=_) O) (Gk (Jj hf (v:=_) O) HC)) O af ⟨O,(BA _),ae⟩
theorem Jf (hs:St S L h) {b:Value}{d:(List AU)}(i:Sl S h BB b d) {c:Value}{g:(List AU)}(j:Sl S h BB c g) {r:Bool}(E:Cw N d g=some r):
 Bf Tryz.prog 141 #[b,c] S h (λv S' h'=>v= .bool r∧St S' (L) h'):=by
 refine Ab (l:=[b,c]) 66 Tryz.func141 O Tryz.ntmps141 O λB=>?_
 rw[Cw] at E
 refine WF.seq (WF.rp (.inl O) (QF.as_ O O (AA (kp [0,1] O) (WF.seq (WF.seq (WF.rc (.inl O) hs (QF.mv O O ?_)))))))
 obtain⟨y1,a6,E⟩:=bd E
 refine Aa O O O Nm O (λh' o=>Ej (St.all h') (i.mono' (o.all hs.1)) a6) (QF.not O O (QF.mv O O ?_))
 obtain⟨b4,k,E⟩:=bd E
 refine QF.cutv 4 20 (.bool b4) ?_ ?_
 ·
  cases c3:(!y1)
  ·
   have k:=A3 c3 k
   refine QF.gy O O O (QF.mv O O (QF.gy O O O ?_))
   obtain⟨y5,a7,k⟩:=bd k
   refine Aa O O O Nm O (λh' o=>Ej (St.all h') (j.mono' (o.all hs.1)) a7) (QF.gy O O O (QF.not O O (QF.pick O O O ?_)))
   cases k
   exact AH O
  ·
   have k:=A0 c3 k
   cases k
   exact AK O O
 refine Ak (kp [20,0,1] O) λh7 af J=>WF.if_ O (λK=>?_) (λK=>?_)
 ·
  have E:=A0 K E
  refine WF.seq (WF.rp (.inl O) (QF.as_ O O (AA (kp [4] O) (WF.ret (λaa ww hf hw=>?_)))))
  cases E
  exact DD hf hw O O J ⟨O,af⟩
 ·
  have E:=A3 K E
  refine WF.skip (WF.seq (WF.seq (WF.rp (.inl O) (QF.mv O O ?_))))
  have ag:=i.mono' J
  refine QF.len O ag F8 O λbo=>QF.mv O O (AA (kp [23,22,21,0,1] O) (WF.blockJ (λa w=>IV B S h7 (66,[]) a w [(0,b),(1,c)] (L) λ_ _=>Bm N d g=some r) ?_ ?_))
  ·
   refine WF.loopF (λn1=>λa w=>∃(t:Int),IV B S h7 (66,[]) a w [(22,.int .i64 (↑d.length:Int)),(21,b),(0,b),(1,c),(23,.int .i64 t)] (L) λ_ _=>AB t∧Bw N d g (Bm N d g) n1 t=some r) N ?_ ?_ ?_
   ·
    intro aa ww hf hw
    exact⟨0,_,_,hf.sub (kp [22,21,0,1,23] O),hw,af,(Bc.refl S h7),(iq (n:=0) O),E⟩
   ·
    rintro aa ww ⟨_,_,_,_,_,_,_,_,E⟩
    rw[Bw] at E;cases E
   ·
    rintro n1 aa ww ⟨t,bp,bq,hf,hw,u,x,br,E⟩
    refine WF.run ?_ hf hw
    clear hf hw ww aa
    rw[Bw] at E
    refine WF.seq (WF.rp (.inl O) (QF.lss O O O (AA (kp [24,22,21,0,1,23] O) (WF.seq (WF.if_ O (λM=>?_) (λM=>?_))))))
    ·
     have E:=A0 M E
     refine WF.skip (WF.seq (WF.block (WF.seq (WF.rl (LF.q 2 ?_)))))
     have a8:=ag.mono' x
     obtain⟨ah,ai,E⟩:=bd E
     refine QF.ixe O O a8 F8 ai O λbt a9=>QF.ld Af u.1 O a9 MV (λe=>by cases e) O λbu ba=>AG (LF.al RG O u λbv bw aj G=>?_)
     have bb:=ba.mono G
     obtain⟨rfl,⟨bc,bx⟩⟩:=BB.ex bb
     refine Ad (vs:=[.int .i64 ah.X,.int .i64 ah.Y]) O O O O MV O aj .head O λbz y Q=>LF.nil (kp [6,22,21,0,1,23] O) (WF.seq (WF.rc (.inl O) y (QF.mv O O (QF.fao O Gu O (AI Ai y O mh O AL O ?_)))))
     have ak:=J.trans (x.trans (G.trans Q))
     have be:=j.mono' ak
     obtain⟨b0,am,E⟩:=bd E
     refine Ao O O O Q3 O (λh' o=>Hz (St.all h') (be.mono' (o.all y.1)) bc am) λbf=>?_
     have b1:=bf
     refine QF.mv O O (QF.ext O O O (QF.ext O O O (QF.as_ O O (QF.as_ O O (Ak (kp [7,6,22,21,0,1,23] O) λb2 z an=>WF.seq (WF.rp (.inl O) (QF.fao O GP O (AI Af z O mh O AL O (QF.mv O O (QF.gtr O O O (AA (kp [37,22,21,0,1,23] O) (WF.if_ O (λU=>?_) (λU=>?_)))))))))))))
     ·
      have E:=A0 U E
      refine WF.seq (WF.rp (.inl O) (QF.as_ O O (AA (kp [4] O) (WF.ret (λaa ww hf hw=>?_)))))
      have ao:=z.drop .head
      cases E
      have ap:=J.trans (x.trans (G.trans (Q.trans an)))
      exact DD hf hw O O ap ⟨O,ao⟩
     ·
      have E:=A3 U E
      refine WF.skip (Ap (WF.rp (.inl O) (QF.addw O O O (QF.mv O O (AA (kp [23,22,21,0,1] O) (WF.nil (λaa ww hf hw=>?_)))))))
      have aq:=z.drop .head
      have ar:=x.trans (G.trans (Q.trans an))
      exact⟨(Aw (t+1)),_,_,hf.sub (kp [22,21,0,1,23] O),hw,aq,ar,(BA _),E⟩
    ·
     have E:=A3 M E
     refine WF.exit O (λaa ww hf hw=>?_)
     exact⟨_,_,hf.sub (kp [0,1] O),hw,u,x,E⟩
  ·
   rintro aa ww ⟨V,W,hf,hw,au,H,E⟩
   refine WF.run ?_ hf hw
   clear hf hw ww aa
   rw[Bm] at E
   refine WF.seq (WF.seq (WF.rp (.inl O) (QF.mv O O ?_)))
   have av:=j.mono' (J.trans H)
   refine QF.len O av F8 O λb3=>QF.mv O O (AA (kp [41,40,39,0] O) (WF.blockJ (λa w=>IV B V W (66,[]) a w [] (L) λ_ _=>DY N=some r) ?_ ?_))
   ·
    refine WF.loopF (λn3=>λa w=>∃(A:Int),IV B V W (66,[]) a w [(40,.int .i64 (↑g.length:Int)),(39,c),(0,b),(41,.int .i64 A)] (L) λ_ _=>AB A∧CI N d g (DY N) n3 A=some r) N ?_ ?_ ?_
    ·
     intro aa ww hf hw
     exact⟨0,_,_,hf.sub (kp [40,39,0,41] O),hw,au,(Bc.refl V W),(iq (n:=0) O),E⟩
    ·
     rintro aa ww ⟨_,_,_,_,_,_,_,_,E⟩
     rw[CI] at E;cases E
    ·
     rintro n3 aa ww ⟨A,b5,b6,hf,hw,C,D,b7,E⟩
     refine WF.run ?_ hf hw
     clear hf hw ww aa
     rw[CI] at E
     refine WF.seq (WF.rp (.inl O) (QF.lss O O O (AA (kp [42,40,39,0,41] O) (WF.seq (WF.if_ O (λZ=>?_) (λZ=>?_))))))
     ·
      have E:=A0 Z E
      refine WF.skip (WF.seq (WF.block (WF.seq (WF.rl (LF.q 2 ?_)))))
      have bg:=av.mono' D
      obtain⟨m,aw,E⟩:=bd E
      refine QF.ixe O O bg F8 aw O λb8 bh=>QF.ld Af C.1 O bh MV (λe=>by cases e) O λb9 bi=>AG (LF.al RG O C λca cb ax I=>?_)
      have bj:=bi.mono I
      obtain⟨rfl,⟨bk,cc⟩⟩:=BB.ex bj
      refine Ad (vs:=[.int .i64 m.X,.int .i64 m.Y]) O O O O MV O ax .head O λcd F ab=>LF.nil (kp [10,40,39,0,41] O) (WF.seq (WF.rc (.inl O) F (QF.mv O O (QF.fao O Gu O (AI Ai F O mh O AL O ?_)))))
      have ay:=J.trans (H.trans (D.trans (I.trans ab)))
      have bl:=i.mono' ay
      obtain⟨p,az,E⟩:=bd E
      refine Ao O O O Q3 O (λh' o=>Hz (St.all h') (bl.mono' (o.all F.1)) bk az) λbm=>?_
      have ce:=bm
      refine QF.mv O O (QF.ext O O O (QF.ext O O O (QF.as_ O O (QF.as_ O O (Ak (kp [12,11,10,40,39,0,41] O) λcf s a0=>WF.seq (WF.rp (.inl O) (QF.mv O O (QF.fao O GP O (AI Af s O mh O AL O (QF.gtr O O O (QF.mv O O (QF.cutv 8 64 (.bool ((decide (m.Y<p.1))||((decide (p.1=m.Y))&&p.2))) ?_ ?_))))))))))))
      ·
       cases cg:(decide (m.Y<p.1))
       ·
        refine QF.gy O O O (QF.mv O O (QF.gy O O O (QF.fao O GP O (QF.gy O O O (AI Af s O mh O AL O (QF.gy O O O (QF.eql O O O (QF.gy O O O (QF.mv O O (QF.cutv 2 63 (.bool ((decide (p.1=m.Y))&&p.2)) ?_ ?_))))))))))
        ·
         cases ch:(decide (p.1=m.Y))
         ·exact AK O O
         ·exact QF.gy O O O (QF.mv O O (QF.gy O O O (QF.pick O O O (AH O))))
        exact QF.pick O O O (AH O)
       ·exact AK O O
      refine AA (kp [64,40,39,0,41] O) (WF.if_ O (λac=>?_) (λac=>?_))
      ·
       have E:=A0 ac E
       refine WF.seq (WF.rp (.inl O) (QF.as_ O O (AA (kp [4] O) (WF.ret (λaa ww hf hw=>?_)))))
       have a1:=s.drop .head
       cases E
       have a2:=J.trans (H.trans (D.trans (I.trans (ab.trans a0))))
       exact DD hf hw O O a2 ⟨O,a1⟩
      ·
       have E:=A3 ac E
       refine WF.skip (Ap (WF.rp (.inl O) (QF.addw O O O (QF.mv O O (AA (kp [41,40,39,0] O) (WF.nil (λaa ww hf hw=>?_)))))))
       have a3:=s.drop .head
       have a4:=D.trans (I.trans (ab.trans a0))
       exact⟨(Aw (A+1)),_,_,hf.sub (kp [40,39,0,41] O),hw,a3,a4,(BA _),E⟩
     ·
      have E:=A3 Z E
      refine WF.exit O (λaa ww hf hw=>?_)
      exact⟨_,_,hf.sub JH,hw,C,D,E⟩
   ·
    rintro aa ww ⟨ci,bn,hf,hw,ad,a5,E⟩
    refine WF.run ?_ hf hw
    clear hf hw ww aa
    rw[DY] at E
    refine WF.seq (WF.rp (.inl O) (QF.as_ O O (AA (kp [4] O) (WF.ret (λaa ww hf hw=>?_)))))
    cases E
    have ae:=J.trans (H.trans a5)
    exact DD hf hw O O ae ⟨O,ad⟩
theorem Jw (hs:St S L h) {K:Value}{d:AQ}(ad:Rd S h A9 K d) {r:Bool}(E:Dd N d=some r):
 Bf Tryz.prog 93 #[K] S h (λv S' h'=>v= .bool r∧St S' (L) h'):=by
 refine Ab (l:=[K]) 152 Tryz.func93 O Tryz.ntmps93 O λB=>?_
 rw[Dd] at E
 refine WF.seq (WF.rl (LF.boxp O ad (λe=>by cases e) O hs λq1 S2 h3 c e5 I=>LF.q 1 (QF.as_ O O (AG (LF.nil (kp [1] O) (WF.seq (WF.seq (WF.rp (.inl O) (QF.fa O I AQ.f_Kind Do O λq7 k8=>QF.ldi Af c.1 O k8 AL O λr9=>AA (kp [4,1] O) (WF.block ?_))))))))))
 refine WF.seq (WF.rp (.inl O) (QF.eql O O O (QF.as_ O O (AA (kp [5,4,1] O) (WF.if_ O (λav=>?_) (λav=>?_))))))
 ·
  have E:=A0 av E
  refine WF.seq (WF.rc (.inl O) c (QF.fa O I II KD O λfq dk=>QF.ldl Ai c.1 O dk GN O λfr dl=>?_))
  obtain⟨dm,bk,E⟩:=bd E
  refine Aa O O O Nm O (λh' o=>Ej (St.all h') (dl.mono' (o.all c.1)) bk) (QF.mv O O ?_)
  obtain⟨bl,x,E⟩:=bd E
  refine QF.cutv 5 15 (.bool bl) ?_ ?_
  ·
   cases bm:dm
   ·
    have x:=A3 bm x
    cases x
    exact AK O O
   ·
    have x:=A0 bm x
    refine QF.gy O O O (QF.fa O I FX Gq O λfs dn=>QF.gy O O O (QF.fa O dn Ih.f_Lo KF O λft dp=>QF.gy O O O (QF.ldl Ai c.1 O dp GN O λfu dq=>QF.gy O O O ?_)))
    obtain⟨fv,bn,x⟩:=bd x
    refine Aa O O O Nm O (λh' o=>Ej (St.all h') (dq.mono' (o.all c.1)) bn) (QF.pick O O O ?_)
    cases x
    exact AH O
  refine QF.mv O O ?_
  obtain⟨bo,y,E⟩:=bd E
  refine QF.cutv 5 21 (.bool bo) ?_ ?_
  ·
   cases bp:bl
   ·
    have y:=A3 bp y
    cases y
    exact AK O O
   ·
    have y:=A0 bp y
    refine QF.gy O O O (QF.fa O I FX Gq O λfw dr=>QF.gy O O O (QF.fa O dr Ih.f_Hi KE O λfx ds=>QF.gy O O O (QF.ldl Ai c.1 O ds GN O λfy dt=>QF.gy O O O ?_)))
    obtain⟨fz,bq,y⟩:=bd y
    refine Aa O O O Nm O (λh' o=>Ej (St.all h') (dt.mono' (o.all c.1)) bq) (QF.pick O O O ?_)
    cases y
    exact AH O
  refine QF.mv O O ?_
  obtain⟨br,z,E⟩:=bd E
  refine QF.cutv 7 29 (.bool br) ?_ ?_
  ·
   cases bt:bo
   ·
    have z:=A3 bt z
    cases z
    exact AK O O
   ·
    have z:=A0 bt z
    refine QF.gy O O O (QF.fa O I FX Gq O λf0 du=>QF.gy O O O (QF.fa O du Ih.f_Lo KF O λf1 dv=>QF.gy O O O (QF.ldl Ai c.1 O dv GN O λf2 dw=>QF.gy O O O (QF.fa O I II KD O λf3 dx=>QF.gy O O O (QF.ldl Ai c.1 O dx GN O λf4 dy=>QF.gy O O O ?_)))))
    obtain⟨f5,bu,z⟩:=bd z
    refine Aa O O O Uk O (λh' o=>Jf (St.all h') (dw.mono' (o.all c.1)) (dy.mono' (o.all c.1)) bu) (QF.pick O O O ?_)
    cases z
    exact AH O
  refine QF.mv O O ?_
  obtain⟨bv,A,E⟩:=bd E
  refine QF.cutv 7 37 (.bool bv) ?_ ?_
  ·
   cases bw:br
   ·
    have A:=A3 bw A
    cases A
    exact AK O O
   ·
    have A:=A0 bw A
    refine QF.gy O O O (QF.fa O I II KD O λf6 dz=>QF.gy O O O (QF.ldl Ai c.1 O dz GN O λf7 d0=>QF.gy O O O (QF.fa O I FX Gq O λf8 d1=>QF.gy O O O (QF.fa O d1 Ih.f_Hi KE O λf9 d2=>QF.gy O O O (QF.ldl Ai c.1 O d2 GN O λga d3=>QF.gy O O O ?_)))))
    obtain⟨gb,bx,A⟩:=bd A
    refine Aa O O O Uk O (λh' o=>Jf (St.all h') (d0.mono' (o.all c.1)) (d3.mono' (o.all c.1)) bx) (QF.pick O O O ?_)
    cases A
    exact AH O
  refine QF.mv O O ?_
  obtain⟨bz,C,E⟩:=bd E
  refine QF.cutv 4 42 (.bool bz) ?_ ?_
  ·
   cases b0:bv
   ·
    have C:=A3 b0 C
    cases C
    exact AK O O
   ·
    have C:=A0 b0 C
    refine QF.gy O O O (QF.fa O I B0 GA O λgc d4=>QF.gy O O O (QF.ldi Ai c.1 O d4 AL O λd5=>QF.gy O O O ?_))
    obtain⟨ge,b1,C⟩:=bd C
    refine Aa O O O Fx O (λh' o=>A8 (St.all h') d5 (iq (n:=0) O) (iq (n:=64) O) b1) (QF.pick O O O ?_)
    cases C
    exact AH O
  refine QF.mv O O ?_
  obtain⟨b2,D,E⟩:=bd E
  refine QF.cutv 6 49 (.bool b2) ?_ ?_
  ·
   cases b3:bz
   ·
    have D:=A3 b3 D
    cases D
    exact AK O O
   ·
    have D:=A0 b3 D
    refine QF.gy O O O (QF.fa O I Fa IQ O λgf d6=>QF.gy O O O (QF.ldi Ai c.1 O d6 AL O λd7=>QF.gy O O O (QF.fa O I B0 GA O λgg d8=>QF.gy O O O (QF.ldi Ai c.1 O d8 AL O λd9=>QF.gy O O O ?_))))
    obtain⟨gh,b4,D⟩:=bd D
    refine Aa O O O Fx O (λh' o=>A8 (St.all h') d7 (iq (n:=0) O) d9 b4) (QF.pick O O O ?_)
    cases D
    exact AH O
  refine QF.mv O O ?_
  obtain⟨b5,F,E⟩:=bd E
  refine QF.cutv 4 54 (.bool b5) ?_ ?_
  ·
   cases b6:b2
   ·
    have F:=A3 b6 F
    cases F
    exact AK O O
   ·
    have F:=A0 b6 F
    refine QF.gy O O O (QF.fa O I JX Nd O λgi ea=>QF.gy O O O (QF.ldi Ai c.1 O ea AL O λeb=>QF.gy O O O ?_))
    obtain⟨gj,b7,F⟩:=bd F
    refine Aa O O O HS O (λh' o=>BF (St.all h') eb b7) (QF.pick O O O ?_)
    cases F
    exact AH O
  refine QF.mv O O ?_
  obtain⟨aw,G,E⟩:=bd E
  refine QF.cutv 6 61 (.bool aw) ?_ ?_
  ·
   cases b8:b5
   ·
    have G:=A3 b8 G
    cases G
    exact AK O O
   ·
    have G:=A0 b8 G
    refine QF.gy O O O (QF.fa O I GH HX O λgk ec=>QF.gy O O O (QF.ldi Ai c.1 O ec AL O λed=>QF.gy O O O (QF.fa O I FL G9 O λgl ee=>QF.gy O O O (QF.ldi Ai c.1 O ee AL O λef=>QF.gy O O O ?_))))
    obtain⟨gm,b9,G⟩:=bd G
    refine Aa O O O Ua O (λh' o=>G3 (St.all h') ed ef b9) (QF.pick O O O ?_)
    cases G
    exact AH O
  refine QF.mv O O (QF.cutv 9 71 (.bool (aw&&((decide (d.To≠(-1)))||(decide (d.BackDen=0))))) ?_ ?_)
  ·
   cases gp:aw
   ·exact AK O O
   ·
    refine QF.gy O O O (QF.fa O I AQ.f_To E6 O λeg ca=>QF.gy O O O (QF.ldi Ai c.1 O ca AL O λeh=>QF.gy O O O (QF.neq O O O (QF.gy O O O (QF.mv O O (QF.cutv 4 70 (.bool ((decide (d.To≠(-1)))||(decide (d.BackDen=0)))) ?_ ?_))))))
    ·
     cases ei:(decide (d.To≠(-1)))
     ·exact QF.gy O O O (QF.fa O I FL G9 O λej cb=>QF.gy O O O (QF.ldi Ai c.1 O cb AL O λek=>QF.gy O O O (QF.eql O O O (QF.gy O O O (QF.pick O O O (AH O))))))
     ·exact AK O O
    exact QF.pick O O O (AH O)
  refine QF.as_ O O (Ak (kp [2] O) λel ax cc=>WF.ret (λaa ww hf hw=>?_))
  cases E
  exact DD hf hw O O (e5.trans cc) ⟨O,ax⟩
 ·
  have E:=A3 av E
  refine WF.seq (WF.seq (WF.rp (.inl O) (QF.eql O O O (QF.as_ O O (AA (kp [72,4,1] O) (WF.cut (λa w=>∃(U:Bool),IV B S2 h3 (152,[]) a w [(4,.int .i64 d.Kind),(1,q1),(72,.bool U)] (L) λ_ _=>CQ N d U=some r) ?_ ?_))))))
  ·
   refine WF.if_ O (λV=>?_) (λV=>?_)
   ·
    have E:=A0 V E
    refine WF.skip (WF.nil (λaa ww hf hw=>?_))
    exact⟨(decide (d.Kind=1)),_,_,hf.sub (kp [4,1,72] O),hw,c,(Bc.refl S2 h3),E⟩
   ·
    have E:=A3 V E
    refine WF.rp (.inl O) (QF.eql O O O (QF.as_ O O (AA (kp [72,4,1] O) (WF.nil (λaa ww hf hw=>?_)))))
    exact⟨(decide (d.Kind=5)),_,_,hf.sub (kp [4,1,72] O),hw,c,(Bc.refl S2 h3),E⟩
  ·
   rintro aa ww ⟨U,em,en,hf,hw,b,H,E⟩
   refine WF.run ?_ hf hw
   clear hf hw ww aa
   rw[CQ] at E
   refine WF.if_ O (λW=>?_) (λW=>?_)
   ·
    have E:=A0 W E
    refine WF.seq (WF.rc (.inl O) b ?_)
    have X:=I.mono H
    refine QF.fa O X AQ.f_Crest Nc O λeo cd=>QF.ldi Ai b.1 O cd AL O λce=>?_
    obtain⟨cf,ay,E⟩:=bd E
    refine Aa O O O HS O (λh' o=>BF (St.all h') ce ay) (QF.mv O O ?_)
    obtain⟨ae,g,E⟩:=bd E
    refine QF.cutv 4 82 (.bool ae) ?_ ?_
    ·
     cases af:cf
     ·
      have g:=A3 af g
      cases g
      exact AK O O
     ·
      have g:=A0 af g
      refine QF.gy O O O (QF.fa O X AQ.f_Num Fm O λep cg=>QF.gy O O O (QF.ldi Ai b.1 O cg AL O λch=>QF.gy O O O ?_))
      obtain⟨eq,az,g⟩:=bd g
      refine Aa O O O HS O (λh' o=>BF (St.all h') ch az) (QF.pick O O O ?_)
      cases g
      exact AH O
    refine QF.mv O O ?_
    obtain⟨ci,i,E⟩:=bd E
    refine QF.cutv 4 87 (.bool ci) ?_ ?_
    ·
     cases ag:ae
     ·
      have i:=A3 ag i
      cases i
      exact AK O O
     ·
      have i:=A0 ag i
      refine QF.gy O O O (QF.fa O X AQ.f_Den Gh O λer cj=>QF.gy O O O (QF.ldi Ai b.1 O cj AL O λck=>QF.gy O O O ?_))
      obtain⟨es,a0,i⟩:=bd i
      refine Aa O O O Fx O (λh' o=>A8 (St.all h') ck (iq (n:=1) O) (iq (n:=1125899906842624) O) a0) (QF.pick O O O ?_)
      cases i
      exact AH O
    refine QF.as_ O O (Ak (kp [2] O) λet a1 cl=>WF.ret (λaa ww hf hw=>?_))
    cases E
    have a2:=e5.trans (H.trans cl)
    exact DD hf hw O O a2 ⟨O,a1⟩
   ·
    have E:=A3 W E
    refine WF.seq (WF.rp (.inl O) (QF.eql O O O (QF.as_ O O (AA (kp [88,4,1] O) (WF.if_ O (λY=>?_) (λY=>?_))))))
    ·
     have E:=A0 Y E
     refine WF.seq (WF.rc (.inl O) b ?_)
     have Q:=I.mono H
     refine QF.fa O Q AQ.f_Num Fm O λeu cm=>QF.ldi Ai b.1 O cm AL O λcn=>?_
     obtain⟨co,a3,E⟩:=bd E
     refine Aa O O O HS O (λh' o=>BF (St.all h') cn a3) (QF.mv O O ?_)
     obtain⟨ah,j,E⟩:=bd E
     refine QF.cutv 4 97 (.bool ah) ?_ ?_
     ·
      cases ai:co
      ·
       have j:=A3 ai j
       cases j
       exact AK O O
      ·
       have j:=A0 ai j
       refine QF.gy O O O (QF.fa O Q B0 GA O λev cp=>QF.gy O O O (QF.ldi Ai b.1 O cp AL O λcq=>QF.gy O O O ?_))
       obtain⟨ew,a4,j⟩:=bd j
       refine Aa O O O Fx O (λh' o=>A8 (St.all h') cq (iq (n:=1) O) (iq (n:=64) O) a4) (QF.pick O O O ?_)
       cases j
       exact AH O
     refine QF.mv O O ?_
     obtain⟨cr,k,E⟩:=bd E
     refine QF.cutv 6 104 (.bool cr) ?_ ?_
     ·
      cases aj:ah
      ·
       have k:=A3 aj k
       cases k
       exact AK O O
      ·
       have k:=A0 aj k
       refine QF.gy O O O (QF.fa O Q Fa IQ O λex cs=>QF.gy O O O (QF.ldi Ai b.1 O cs AL O λct=>QF.gy O O O (QF.fa O Q B0 GA O λey cu=>QF.gy O O O (QF.ldi Ai b.1 O cu AL O λcv=>QF.gy O O O ?_))))
       obtain⟨ez,a5,k⟩:=bd k
       refine Aa O O O Fx O (λh' o=>A8 (St.all h') ct (iq (n:=0) O) cv a5) (QF.pick O O O ?_)
       cases k
       exact AH O
     refine QF.as_ O O (Ak (kp [2] O) λe0 a6 cw=>WF.ret (λaa ww hf hw=>?_))
     cases E
     have a7:=e5.trans (H.trans cw)
     exact DD hf hw O O a7 ⟨O,a6⟩
    ·
     have E:=A3 Y E
     refine WF.seq (WF.rp (.inl O) (QF.eql O O O (QF.as_ O O (AA (kp [105,1] O) (WF.if_ O (λZ=>?_) (λZ=>?_))))))
     ·
      have E:=A0 Z E
      refine WF.seq (WF.rc (.inl O) b ?_)
      have J:=I.mono H
      refine QF.fa O J AQ.f_Num Fm O λe1 cx=>QF.ldi Ai b.1 O cx AL O λcy=>?_
      obtain⟨cz,a8,E⟩:=bd E
      refine Aa O O O HS O (λh' o=>BF (St.all h') cy a8) (QF.mv O O ?_)
      obtain⟨ak,m,E⟩:=bd E
      refine QF.cutv 4 114 (.bool ak) ?_ ?_
      ·
       cases am:cz
       ·
        have m:=A3 am m
        cases m
        exact AK O O
       ·
        have m:=A0 am m
        refine QF.gy O O O (QF.fa O J AQ.f_Den Gh O λe2 c0=>QF.gy O O O (QF.ldi Ai b.1 O c0 AL O λc1=>QF.gy O O O ?_))
        obtain⟨e3,a9,m⟩:=bd m
        refine Aa O O O Fx O (λh' o=>A8 (St.all h') c1 (iq (n:=1) O) (iq (n:=1125899906842624) O) a9) (QF.pick O O O ?_)
        cases m
        exact AH O
      refine QF.mv O O ?_
      obtain⟨an,p,E⟩:=bd E
      refine QF.cutv 4 119 (.bool an) ?_ ?_
      ·
       cases ao:ak
       ·
        have p:=A3 ao p
        cases p
        exact AK O O
       ·
        have p:=A0 ao p
        refine QF.gy O O O (QF.fa O J Hm Kh O λe4 c2=>QF.gy O O O (QF.ldi Ai b.1 O c2 AL O λc3=>QF.gy O O O ?_))
        obtain⟨e6,ba,p⟩:=bd p
        refine Aa O O O HS O (λh' o=>BF (St.all h') c3 ba) (QF.pick O O O ?_)
        cases p
        exact AH O
      refine QF.mv O O ?_
      obtain⟨ab,s,E⟩:=bd E
      refine QF.cutv 4 124 (.bool ab) ?_ ?_
      ·
       cases ap:an
       ·
        have s:=A3 ap s
        cases s
        exact AK O O
       ·
        have s:=A0 ap s
        refine QF.gy O O O (QF.fa O J Fb HY O λe7 c4=>QF.gy O O O (QF.ldi Ai b.1 O c4 AL O λc5=>QF.gy O O O ?_))
        obtain⟨e8,bb,s⟩:=bd s
        refine Aa O O O HS O (λh' o=>BF (St.all h') c5 bb) (QF.pick O O O ?_)
        cases s
        exact AH O
      refine QF.mv O O (QF.cutv 6 131 (.bool (ab&&(decide (d.Break<d.Prime)))) ?_ ?_)
      ·
       cases e9:ab
       ·exact AK O O
       ·exact QF.gy O O O (QF.fa O J Fb HY O λfb c6=>QF.gy O O O (QF.ldi Ai b.1 O c6 AL O λfc=>QF.gy O O O (QF.fa O J Hm Kh O λfd c7=>QF.gy O O O (QF.ldi Ai b.1 O c7 AL O λfe=>QF.gy O O O (QF.lss O O O (QF.pick O O O (AH O)))))))
      refine QF.as_ O O (Ak (kp [2] O) λff bc c8=>WF.ret (λaa ww hf hw=>?_))
      cases E
      have be:=e5.trans (H.trans c8)
      exact DD hf hw O O be ⟨O,bc⟩
     ·
      have E:=A3 Z E
      refine WF.skip (Ap (WF.seq (WF.rc (.inl O) b ?_)))
      have M:=I.mono H
      refine QF.fa O M AQ.f_Num Fm O λfg c9=>QF.ldi Ai b.1 O c9 AL O λda=>?_
      obtain⟨db,bf,E⟩:=bd E
      refine Aa O O O HS O (λh' o=>BF (St.all h') da bf) (QF.mv O O ?_)
      obtain⟨aq,t,E⟩:=bd E
      refine QF.cutv 4 139 (.bool aq) ?_ ?_
      ·
       cases ar:db
       ·
        have t:=A3 ar t
        cases t
        exact AK O O
       ·
        have t:=A0 ar t
        refine QF.gy O O O (QF.fa O M AQ.f_Den Gh O λfh dc=>QF.gy O O O (QF.ldi Ai b.1 O dc AL O λdd=>QF.gy O O O ?_))
        obtain⟨fi,bg,t⟩:=bd t
        refine Aa O O O Fx O (λh' o=>A8 (St.all h') dd (iq (n:=1) O) (iq (n:=1125899906842624) O) bg) (QF.pick O O O ?_)
        cases t
        exact AH O
      refine QF.mv O O ?_
      obtain⟨ac,u,E⟩:=bd E
      refine QF.cutv 6 146 (.bool ac) ?_ ?_
      ·
       cases au:aq
       ·
        have u:=A3 au u
        cases u
        exact AK O O
       ·
        have u:=A0 au u
        refine QF.gy O O O (QF.fa O M GH HX O λfj de=>QF.gy O O O (QF.ldi Ai b.1 O de AL O λdf=>QF.gy O O O (QF.fa O M FL G9 O λfk dg=>QF.gy O O O (QF.ldi Ai b.1 O dg AL O λdh=>QF.gy O O O ?_))))
        obtain⟨fl,bh,u⟩:=bd u
        refine Aa O O O Ua O (λh' o=>G3 (St.all h') df dh bh) (QF.pick O O O ?_)
        cases u
        exact AH O
      refine QF.mv O O (QF.cutv 4 151 (.bool (ac&&(decide (d.To≠(-1))))) ?_ ?_)
      ·
       cases fm:ac
       ·exact AK O O
       ·exact QF.gy O O O (QF.fa O M AQ.f_To E6 O λfn di=>QF.gy O O O (QF.ldi Ai b.1 O di AL O λfo=>QF.gy O O O (QF.neq O O O (QF.pick O O O (AH O)))))
      refine QF.as_ O O (Ak (kp [2] O) λfp bi dj=>WF.ret (λaa ww hf hw=>?_))
      cases E
      have bj:=e5.trans (H.trans dj)
      exact DD hf hw O O bj ⟨O,bi⟩
end Go.Proofs.YtibidnaedddfdaaGreat
