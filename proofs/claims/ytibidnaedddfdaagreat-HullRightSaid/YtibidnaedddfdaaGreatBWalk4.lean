import Derived.Test.YtibidnaedddfdaaGreatBWalk3
namespace Go.Proofs.YtibidnaedddfdaaGreat
open Go.RowKit
set_option linter.unusedVariables false
set_option linter.unusedSimpArgs false
set_option maxRecDepth 10000
set_option maxHeartbeats 2000000
variable {N:Nat}{S:Nat→Prop}{L:List HP}{h:Ac}
theorem HU (hs:St S L h) {a:Value}{c0_:AF}(i:Pt S h AH a c0_) {b:Value}{c1_:Int}(j:Pt S h AW.int b c1_) {c:Value}{c2_:Int}(k:Pt S h AW.int c c2_) {r:AF}(E:D7 N c0_ c1_ c2_=some r):
 Bh Tryz.prog 105 #[a,b,c] S h (λv S' h'=>v= .agg #[.int .i64 r.Lo,.int .i64 r.Hi]∧AF.ok r∧St S' (L) h'):=by
 refine Ag (l:=[a,b,c]) 18 Tryz.func105 O Tryz.ntmps105 O λB=>?_
 rw[D7] at E
 refine WF.seq (WF.rl (LF.al EH O hs λb1 h2 d x=>LF.nil (kp [3,0,1,2] O) (WF.seq (EG 14 mo (by kernel_rfl) O d ?_))))
 have y:=i.mono x
 refine QF.fa O y AF.f_Lo DD O λq6 V=>QF.ldi Ak d.1 O V AM O λW=>?_
 have X:=j.mono x
 refine QF.ldi Ak d.1 O X AM O λz=>?_
 obtain⟨m,p,E⟩:=bd E
 refine Ao O O O Hg O (λh' o=>Cz (St.all h') W z p) λA=>?_
 have C:=A
 refine QF.max O O O (QF.fa O y AF.f_Hi CW O λY D=>QF.ldi Ak d.1 O D AM O λF=>QF.fa O y AF.f_Hi CW O λZ G=>QF.ldi Ak d.1 O G AM O λH=>?_)
 have I:=k.mono x
 refine QF.ldi Ak d.1 O I AM O λJ=>?_
 obtain⟨q,s,E⟩:=bd E
 refine Ao O O O Hg O (λh' o=>Cz (St.all h') H J s) λK=>?_
 have M:=K
 refine QF.min O O O (QF.max O O O (QF.bld (cs:=[.int .i64 (max 0 m),.int .i64 (max 0 (min c0_.Hi q))]) GH O O O (DX λab t Q=>Ai (vs:=[.int .i64 (max 0 m),.int .i64 (max 0 (min c0_.Hi q))]) O O O O Ad O t .head O λac g U=>LF.nil (kp [3] O) (WF.ret (λaa ww hf hw=>?_)))))
 have u:=g.drop .head
 cases E
 have w:=x.trans (Q.trans U)
 exact Hq hf O hw (Gr (MA hf hw g O mh Ad O) HY) O w ⟨O,⟨(GB (iq (n:=0) O) C),(GB (iq (n:=0) O) (G5 F M))⟩,u⟩
theorem DR (hs:St S L h) {i:Value}{k:(List A4)}(t:Sl S h BO i k) {d:Value}{c:A4}(u:Rd S h BO d c) {p:Value}{m:((A4×A4)→Option Int)}(F:Rd S h (AW.fn Tryz.prog (λx:(A4×A4)=>([.agg #[.int .i64 x.1.At,.int .i64 x.1.To,.int .i64 x.1.Vol.Lo,.int .i64 x.1.Vol.Hi],.agg #[.int .i64 x.2.At,.int .i64 x.2.To,.int .i64 x.2.Vol.Lo,.int .i64 x.2.Vol.Hi]]:List Value)) (λx:(A4×A4)=>A4.ok x.1∧A4.ok x.2) (λy:Int=> .int .i64 y) (λy:Int=>AB y)) p m) {r:Int×Bool}(E:AY N k c m=some r):
 Bh Tryz.prog 124 #[i,d,p] S h (λv S' h'=>v= .tuple #[.int .i64 r.1,.bool r.2]∧AB r.1∧St S' (L) h'):=by
 refine Ag (l:=[i,d,p]) 49 Tryz.func124 O Tryz.ntmps124 O λB=>?_
 rw[AY] at E
 obtain⟨Q,U,rfl,V,W⟩:=F.fn
 refine WF.seq (WF.rl (LF.boxp O u (λe=>by cases e) O hs λq5 S6 h7 ai I X=>LF.q 2 (QF.as_ O O (QF.as_ O O (AE (LF.nil (kp [4,0,2] O) (WF.seq (WF.rp (.inl O) (QF.mv O O ?_)))))))))
 have aj:=t.mono' I
 refine QF.len O aj EU O λak=>QF.as_ O O (AA (kp [8,4,0,2] O) (WF.seq (WF.rp (.inl O) (QF.mv O O (QF.as_ O O (QF.as_ O O (AA (kp [10,9,8,4,0,2] O) (WF.seq (WF.blockJ (λa w=>∃(H:Int),IV B S6 h7 (49,[]) a w [(8,.int .i64 (↑k.length:Int)),(4,q5),(0,i),(2,(.func (.func Q) #[] U)),(9,.int .i64 H)] (L) λ_ _=>AB H∧AV N k c m H=some r) ?_ ?_)))))))))
 ·
  refine WF.loopF (λn1=>λa w=>∃(z:Int) (D:Int),IV B S6 h7 (49,[]) a w [(8,.int .i64 (↑k.length:Int)),(4,q5),(0,i),(2,(.func (.func Q) #[] U)),(9,.int .i64 z),(10,.int .i64 D)] (L) λ_ _=>AB z∧AB D∧AN N k c m (AV N k c m) n1 z D=some r) N ?_ ?_ ?_
  ·
   intro aa ww hf hw
   exact⟨0,(↑k.length:Int),_,_,hf.sub (kp [8,4,0,2,9,10] O),hw,ai,(Bg.refl S6 h7),(iq (n:=0) O),(Ii ak),E⟩
  ·
   rintro aa ww ⟨_,_,_,_,_,_,_,_,_,_,E⟩
   rw[AN] at E;cases E
  ·
   rintro n1 aa ww ⟨z,D,bl,bm,hf,hw,s,A,Y,am,E⟩
   refine WF.run ?_ hf hw
   clear hf hw ww aa
   rw[AN] at E
   refine WF.seq (WF.seq (WF.rp (.inl O) (QF.mv O O (QF.mv O O (QF.lss O O O (AA (kp [17,8,4,0,2,9,10] O) (WF.if_ O (λK=>?_) (λK=>?_))))))))
   ·
    have E:=A7 K E
    refine WF.skip (WF.block (WF.seq (WF.rp (.inl O) (QF.mv O O (QF.mv O O (QF.addw O O O (QF.convk O LH M9 O (QF.shrk (j:=1) O O O O (QF.convk O M9 LH O (QF.as_ O O (AA (kp [11,8,4,0,2,9,10] O) (WF.seq (WF.rc (.inr ⟨mo,by kernel_rfl⟩) s ?_)))))))))))))
    refine QF.mv O O (QF.mv O O (QF.mv O O ?_))
    have an:=t.mono' (I.trans A)
    obtain⟨bn,Z,E⟩:=bd E
    refine QF.ixe O O an EU Z O λbo ao=>QF.ld Ak s.1 O ao IM (λe=>by cases e) O λbp ap=>?_
    have aq:=X.mono A
    refine QF.ld Ak s.1 O aq IM (λe=>by cases e) O λbq ar=>?_
    obtain⟨rfl,⟨au,av,aw,ax⟩⟩:=BO.ex ap
    obtain⟨rfl,⟨ay,az,a0,a1⟩⟩:=BO.ex ar
    obtain⟨br,ab,E⟩:=bd E
    refine Ao O O O V O (λh' o=>W _ h' (λb hb=>Nat.lt_of_lt_of_le (s.1 b ((I.trans A).sub b hb)) o.siz) (λb hb=>(o.same b (s.1 b ((I.trans A).sub b hb))).trans ((I.trans A).same b hb)) [] (St.all h') _ _ ⟨⟨au,av,aw,ax⟩,⟨ay,az,a0,a1⟩⟩ ab) λa2=>?_
    have bt:=a2
    refine QF.lss O O O (Aq (kp [31,11,8,4,0,2,9,10] O) λbu J ac=>WF.if_ O (λM=>?_) (λM=>?_))
    ·
     have E:=A7 M E
     refine WF.rp (.inl O) (QF.mv O O (QF.addw O O O (QF.as_ O O (AA (kp [9,8,4,0,2,10] O) (Ap (WF.nil (λaa ww hf hw=>?_)))))))
     exact⟨(A3 ((A3 (Cg .u64 (IntKind.wrap .u64 (A3 (z+D))) 1))+1)),D,_,_,hf.sub (kp [8,4,0,2,9,10] O),hw,J,(A.trans ac),(BA _),am,E⟩
    ·
     have E:=A8 M E
     refine WF.rp (.inl O) (QF.mv O O (QF.as_ O O (AA (kp [10,8,4,0,2,9] O) (Ap (WF.nil (λaa ww hf hw=>?_))))))
     exact⟨z,(A3 (Cg .u64 (IntKind.wrap .u64 (A3 (z+D))) 1)),_,_,hf.sub (kp [8,4,0,2,9,10] O),hw,J,(A.trans ac),Y,(BA _),E⟩
   ·
    have E:=A8 K E
    refine WF.exit O (λaa ww hf hw=>?_)
    exact⟨z,_,_,hf.sub (kp [8,4,0,2,9] O),hw,s,A,Y,E⟩
 ·
  rintro aa ww ⟨H,bv,bw,hf,hw,C,G,a3,E⟩
  refine WF.run ?_ hf hw
  clear hf hw ww aa
  rw[AV] at E
  refine WF.seq (WF.rc (.inr ⟨mo,by kernel_rfl⟩) C (QF.mv O O (QF.mv O O (QF.mv O O (QF.lss O O O (QF.mv O O ?_))))))
  obtain⟨a4,g,E⟩:=bd E
  refine QF.cutv 9 48 (.bool a4) ?_ ?_
  ·
   cases ad:(decide (H<(↑k.length:Int)))
   ·
    have g:=A8 ad g
    cases g
    exact AL O O
   ·
    have g:=A7 ad g
    refine QF.gy O O O (QF.mv O O (QF.gy O O O (QF.mv O O (QF.gy O O O (QF.mv O O (QF.gy O O O ?_))))))
    have a5:=t.mono' (I.trans G)
    obtain⟨bx,ae,g⟩:=bd g
    refine QF.ixe O O a5 EU ae O λbz a6=>QF.gy O O O (QF.ld Ak C.1 O a6 IM (λe=>by cases e) O λb0 a7=>QF.gy O O O ?_)
    have a8:=X.mono G
    refine QF.ld Ak C.1 O a8 IM (λe=>by cases e) O λb1 a9=>QF.gy O O O ?_
    obtain⟨rfl,⟨ba,bb,bc,be⟩⟩:=BO.ex a7
    obtain⟨rfl,⟨bf,bg,bh,bi⟩⟩:=BO.ex a9
    obtain⟨b2,af,g⟩:=bd g
    refine Ao O O O V O (λh' o=>W _ h' (λb hb=>Nat.lt_of_lt_of_le (C.1 b ((I.trans G).sub b hb)) o.siz) (λb hb=>(o.same b (C.1 b ((I.trans G).sub b hb))).trans ((I.trans G).same b hb)) [] (St.all h') _ _ ⟨⟨ba,bb,bc,be⟩,⟨bf,bg,bh,bi⟩⟩ af) λbj=>?_
    have b3:=bj
    refine QF.gy O O O (QF.eql O O O (QF.pick O O O ?_))
    cases g
    exact AJ O
  refine QF.as_ O O (QF.as_ O O (Aq (kp [7,6] O) λb4 ag bk=>WF.ret (λaa ww hf hw=>?_)))
  cases E
  have ah:=I.trans (G.trans bk)
  exact Hq hf O hw (Gr (Js hf (v:=_) O) (Gr (Js hf (v:=_) O) HY)) O ah ⟨O,a3,ag⟩
theorem Is (hs:St S L h) {a:Int}(b:AB a) {r:Bool}(E:F4 N a=some r):
 Bh Tryz.prog 144 #[.int .i64 a] S h (λv S' h'=>v= .bool r∧St S' (L) h'):=by
 refine Ag (l:=[.int .i64 a]) 6 Tryz.func144 O Tryz.ntmps144 O λB=>?_
 rw[F4] at E
 refine WF.seq (WF.rp (.inl O) (QF.as_ O O (AA (kp [0] O) (WF.seq (WF.rp (.inl O) (QF.mv O O (QF.mv O O (QF.neq O O O (QF.as_ O O (AA (kp [2] O) (WF.ret (λaa ww hf hw=>?_))))))))))))
 cases E
 exact DC hf hw O O (Bg.refl S h) ⟨O,hs⟩
theorem H8 (hs:St S L h) {a:Int}(g:AB a) {b:Int}(i:AB b) {r:Int}(E:EW N a b=some r):
 Bh Tryz.prog 99 #[.int .i64 a,.int .i64 b] S h (λv S' h'=>v= .int .i64 r∧AB r∧St S' (L) h'):=by
 refine Ag (l:=[.int .i64 a,.int .i64 b]) 20 Tryz.func99 O Tryz.ntmps99 O λB=>?_
 rw[EW] at E
 refine WF.seq (WF.rp (.inl O) (QF.as_ O O (AA (kp [0,1] O) (WF.seq (WF.rc (.inl O) hs (QF.mv O O ?_))))))
 obtain⟨x,t,E⟩:=bd E
 refine Ab O O O Ud O (λh' o=>Is (St.all h') g t) (QF.as_ O O (Aq (kp [5,0,1] O) λy u s=>WF.seq (WF.rc (.inl O) u (QF.mv O O ?_))))
 obtain⟨z,w,E⟩:=bd E
 refine Ab O O O Ud O (λh' o=>Is (St.all h') i w) (QF.as_ O O (Aq (kp [6,5,0,1] O) λA c d=>WF.seq (WF.seq (WF.rp (.inl O) (QF.mv O O (AA (kp [11,6,0,1] O) (WF.if_ O (λj=>?_) (λj=>?_))))))))
 ·
  have E:=A7 j E
  refine WF.seq (WF.seq (WF.rp (.inl O) (QF.mv O O (AA (kp [12] O) (WF.if_ O (λk=>?_) (λk=>?_))))))
  ·
   have E:=A7 k E
   refine WF.seq (WF.rp (.inl O) (QF.as_ O O (AA (kp [4] O) (WF.ret (λaa ww hf hw=>?_)))))
   cases E
   exact DC hf hw O O (s.trans d) ⟨O,(iq (n:=0) O),c⟩
  ·
   have E:=A8 k E
   refine WF.skip (WF.seq (WF.rp (.inl O) (QF.as_ O O (AA (kp [4] O) (WF.ret (λaa ww hf hw=>?_))))))
   cases E
   exact DC hf hw O O (s.trans d) ⟨O,(iq (n:=(-1)) O),c⟩
 ·
  have E:=A8 j E
  refine WF.skip (WF.seq (WF.seq (WF.rp (.inl O) (QF.mv O O (AA (kp [13,0,1] O) (WF.if_ O (λm=>?_) (λm=>?_)))))))
  ·
   have E:=A7 m E
   refine WF.seq (WF.rp (.inl O) (QF.as_ O O (AA (kp [4] O) (WF.ret (λaa ww hf hw=>?_)))))
   cases E
   exact DC hf hw O O (s.trans d) ⟨O,(iq (n:=1) O),c⟩
  ·
   have E:=A8 m E
   refine WF.skip (WF.seq (WF.seq (WF.rp (.inl O) (QF.mv O O (QF.mv O O (QF.lss O O O (AA (kp [16,0,1] O) (WF.if_ O (λp=>?_) (λp=>?_)))))))))
   ·
    have E:=A7 p E
    refine WF.seq (WF.rp (.inl O) (QF.as_ O O (AA (kp [4] O) (WF.ret (λaa ww hf hw=>?_)))))
    cases E
    exact DC hf hw O O (s.trans d) ⟨O,(iq (n:=(-1)) O),c⟩
   ·
    have E:=A8 p E
    refine WF.skip (WF.seq (WF.seq (WF.rp (.inl O) (QF.mv O O (QF.mv O O (QF.gtr O O O (AA (kp [19] O) (WF.if_ O (λq=>?_) (λq=>?_)))))))))
    ·
     have E:=A7 q E
     refine WF.seq (WF.rp (.inl O) (QF.as_ O O (AA (kp [4] O) (WF.ret (λaa ww hf hw=>?_)))))
     cases E
     exact DC hf hw O O (s.trans d) ⟨O,(iq (n:=1) O),c⟩
    ·
     have E:=A8 q E
     refine WF.skip (WF.seq (WF.rp (.inl O) (QF.as_ O O (AA (kp [4] O) (WF.ret (λaa ww hf hw=>?_))))))
     cases E
     exact DC hf hw O O (s.trans d) ⟨O,(iq (n:=0) O),c⟩
theorem Nc (hs:St S L h) {b:Value}{c:(List Int)}(d:Sl S h AW.int b c) {r:Int}(E:HQ N c=some r):
 Bh Tryz.prog 98 #[b] S h (λv S' h'=>v= .int .i64 r∧AB r∧St S' (L) h'):=by
 refine Ag (l:=[b]) 18 Tryz.func98 O Tryz.ntmps98 O λB=>?_
 rw[HQ] at E
 refine WF.seq (WF.rp (.inl O) (QF.as_ O O (AA (kp [0] O) (WF.seq (WF.rp (.inl O) (QF.as_ O O (AA (kp [3,0] O) (WF.seq (WF.seq (WF.rp (.inl O) (QF.mv O O (QF.len O d GI O λD=>QF.mv O O ?_))))))))))))
 refine AA (kp [8,7,6,3] O) (WF.blockJ (λa w=>IV B S h (18,[]) a w [(3,.int .i64 0)] (L) λ_ _=>F5 N=some r) ?_ ?_)
 ·
  refine WF.loopF (λx=>λa w=>∃(k:Int),IV B S h (18,[]) a w [(7,.int .i64 (↑c.length:Int)),(6,b),(3,.int .i64 0),(8,.int .i64 k)] (L) λ_ _=>AB k∧FA N c (F5 N) x k=some r) N ?_ ?_ ?_
  ·
   intro aa ww hf hw
   exact⟨0,_,_,hf.sub (kp [7,6,3,8] O),hw,hs,(Bg.refl S h),(iq (n:=0) O),E⟩
  ·
   rintro aa ww ⟨_,_,_,_,_,_,_,_,E⟩
   rw[FA] at E;cases E
  ·
   rintro x aa ww ⟨k,F,G,hf,hw,g,p,H,E⟩
   refine WF.run ?_ hf hw
   clear hf hw ww aa
   rw[FA] at E
   refine WF.seq (WF.rp (.inl O) (QF.lss O O O (AA (kp [9,7,6,3,8] O) (WF.seq (WF.if_ O (λi=>?_) (λi=>?_))))))
   ·
    have E:=A7 i E
    refine WF.skip (WF.seq (WF.block (WF.seq (WF.rp (.inl O) ?_))))
    have q:=d.mono' p
    obtain⟨y,m,E⟩:=bd E
    refine QF.ixe O O q GI m O λz s=>QF.ldi Af g.1 O s AM O λt=>QF.as_ O O (AA (kp [5,7,6,3,8] O) (WF.seq (WF.rp (.inl O) (QF.mv O O (QF.mv O O (QF.neq O O O (AA (kp [14,5,7,6,3,8] O) (WF.if_ O (λj=>?_) (λj=>?_)))))))))
    ·
     have E:=A7 j E
     refine WF.seq (WF.rp (.inl O) (QF.mv O O (QF.as_ O O (AA (kp [2] O) (WF.ret (λaa ww hf hw=>?_))))))
     cases E
     exact DC hf hw O O p ⟨O,t,g⟩
    ·
     have E:=A8 j E
     refine WF.skip (Ap (WF.rp (.inl O) (QF.addw O O O (QF.mv O O (AA (kp [8,7,6,3] O) (WF.nil (λaa ww hf hw=>?_)))))))
     exact⟨(A3 (k+1)),_,_,hf.sub (kp [7,6,3,8] O),hw,g,p,(BA _),E⟩
   ·
    have E:=A8 i E
    refine WF.exit O (λaa ww hf hw=>?_)
    exact⟨_,_,hf.sub (kp [3] O),hw,g,p,E⟩
 ·
  rintro aa ww ⟨A,C,hf,hw,o,u,E⟩
  refine WF.run ?_ hf hw
  clear hf hw ww aa
  rw[F5] at E
  refine WF.seq (WF.rp (.inl O) (QF.mv O O (QF.as_ O O (AA (kp [2] O) (WF.ret (λaa ww hf hw=>?_))))))
  cases E
  exact DC hf hw O O u ⟨O,(iq (n:=0) O),o⟩
theorem KN (hs:St S L h) {g:Value}{c:A4}(u:Rd S h BO g c) {j:Value}{d:A4}(w:Rd S h BO j d) {r:Int}(E:DT N c d=some r):
 Bh Tryz.prog 46 #[g,j] S h (λv S' h'=>v= .int .i64 r∧AB r∧St S' (L) h'):=by
 refine Ag (l:=[g,j]) 17 Tryz.func46 O Tryz.ntmps46 O λB=>?_
 rw[DT] at E
 refine WF.seq (WF.rl (LF.boxp O u (λe=>by cases e) O hs λq1 S2 h3 aq e5 k6=>?_))
 have k7:=w.mono e5
 refine LF.boxp O k7 (λe=>by cases e) O aq λq8 Q ar a A U=>LF.q 1 (QF.as_ O O (AE (LF.nil (kp [3,2] O) (WF.seq ?_))))
 obtain⟨k,V,E⟩:=bd E
 obtain⟨n,W,E⟩:=bd E
 obtain⟨x,X,E⟩:=bd E
 refine IX (m:=[(3,q8),(2,q1)]) 13 (λi v hh=>match i with|0=>Pt Q hh AW.int v c.At|1=>v= .int .i64 c.At∧AB c.At|2=>Pt Q hh AW.int v d.At|3=>v= .int .i64 d.At∧AB d.At|4=>v= .int .i64 k∧AB k|5=>Pt Q hh AW.int v c.To|6=>v= .int .i64 c.To∧AB c.To|7=>Pt Q hh AW.int v d.To|8=>v= .int .i64 d.To∧AB d.To|9=>v= .int .i64 n∧AB n|10=>Sl (SN Q ar hh) hh AW.int v ([k,n]:List Int)∧∃ad,v= .slice (some ad) 2 2|11=>v= .int .i64 x∧AB x|12=>v= .int .i64 x∧AB x|_=>False) [[],[(0,5)],[],[(2,7)],[(1,6),(3,8)],[],[(5,10)],[],[(7,12)],[(6,11),(8,13)],[(4,9),(9,14)],[(10,15)],[(11,16)]] [(12,4)] mo (by kernel_rfl) [3,2] O (by kernel_rfl) (by kernel_rfl) (by kernel_rfl) (kp [3,2] O) (λi v h1 h2 Y Z hr=>?_) ?_ ?_
 ·match i,hr with
   |0,hr=>exact J7.mono hr (Z.ext λb hb=>Nat.lt_of_lt_of_le (a.1 b hb) Y.siz)
   |1,hr=>exact hr
   |2,hr=>exact J7.mono hr (Z.ext λb hb=>Nat.lt_of_lt_of_le (a.1 b hb) Y.siz)
   |3,hr=>exact hr
   |4,hr=>exact hr
   |5,hr=>exact J7.mono hr (Z.ext λb hb=>Nat.lt_of_lt_of_le (a.1 b hb) Y.siz)
   |6,hr=>exact hr
   |7,hr=>exact J7.mono hr (Z.ext λb hb=>Nat.lt_of_lt_of_le (a.1 b hb) Y.siz)
   |8,hr=>exact hr
   |9,hr=>exact hr
   |10,hr=>exact⟨Sl.mono' hr.1 (SN.mono a.1 Y Z),hr.2⟩
   |11,hr=>exact hr
   |12,hr=>exact hr
   |_+13,hr=>exact hr.elim
 ·
  refine AQ.cons O ?_ ?_
  ·
   intro mq hh o
   have hsN:=o.st a
   refine LF.q 1 ?_
   have au:=k6.mono (A.trans (o.ext a.1))
   exact QF.fa O au A4.f_At Lr O λb6 av=>AE (AC (An.refl _) av)
  refine AQ.cons O ?_ ?_
  ·
   intro mq hh o
   intro aw C
   have hsN:=o.st a
   have C:Pt _ _ AW.int aw c.At:=C
   exact LF.q 1 (QF.ldi Af hsN.1 O C AM O λax=>AE (AC (An.refl _) ⟨O,ax⟩))
  refine AQ.cons O ?_ ?_
  ·
   intro mq hh o
   have hsN:=o.st a
   refine LF.q 1 ?_
   have ay:=U.mono (o.ext a.1)
   exact QF.fa O ay A4.f_At Lr O λb7 az=>AE (AC (An.refl _) az)
  refine AQ.cons O ?_ ?_
  ·
   intro mq hh o
   intro a0 D
   have hsN:=o.st a
   have D:Pt _ _ AW.int a0 d.At:=D
   exact LF.q 1 (QF.ldi Af hsN.1 O D AM O λa1=>AE (AC (An.refl _) ⟨O,a1⟩))
  refine AQ.cons O ?_ ?_
  ·
   intro mq hh o
   intro b8 a2 b9 a3
   have hsN:=SN.st a o
   obtain⟨rfl,a4⟩:=a2
   obtain⟨rfl,a5⟩:=a3
   refine LF.callb O O O V9 O hsN (H8 (St.all _) a4 a5 V) λca cb cc bp cd ab p=>?_
   obtain⟨rfl,a6,bq⟩:=p
   exact AC ⟨ab.siz,λb hb=>ab.same b hb⟩ ⟨O,a6⟩
  refine AQ.cons O ?_ ?_
  ·
   intro mq hh o
   have hsN:=o.st a
   refine LF.q 1 ?_
   have a7:=k6.mono (A.trans (o.ext a.1))
   exact QF.fa O a7 A4.f_To Kn O λce a8=>AE (AC (An.refl _) a8)
  refine AQ.cons O ?_ ?_
  ·
   intro mq hh o
   intro a9 F
   have hsN:=o.st a
   have F:Pt _ _ AW.int a9 c.To:=F
   exact LF.q 1 (QF.ldi Af hsN.1 O F AM O λba=>AE (AC (An.refl _) ⟨O,ba⟩))
  refine AQ.cons O ?_ ?_
  ·
   intro mq hh o
   have hsN:=o.st a
   refine LF.q 1 ?_
   have bb:=U.mono (o.ext a.1)
   exact QF.fa O bb A4.f_To Kn O λcf bc=>AE (AC (An.refl _) bc)
  refine AQ.cons O ?_ ?_
  ·
   intro mq hh o
   intro be G
   have hsN:=o.st a
   have G:Pt _ _ AW.int be d.To:=G
   exact LF.q 1 (QF.ldi Af hsN.1 O G AM O λbf=>AE (AC (An.refl _) ⟨O,bf⟩))
  refine AQ.cons O ?_ ?_
  ·
   intro mq hh o
   intro cg bg ch bh
   have hsN:=SN.st a o
   obtain⟨rfl,bi⟩:=bg
   obtain⟨rfl,bj⟩:=bh
   refine LF.callb O O O V9 O hsN (H8 (St.all _) bi bj W) λci cj ck br cl ac p=>?_
   obtain⟨rfl,bk,bt⟩:=p
   exact AC ⟨ac.siz,λb hb=>ac.same b hb⟩ ⟨O,bk⟩
  refine AQ.cons O ?_ ?_
  ·
   intro mq hh o
   intro cm bl cn ae
   have hsN:=SN.st a o
   obtain⟨rfl,af⟩:=bl
   obtain⟨rfl,ag⟩:=ae
   have hsF:=hsN.fz
   refine GY (cs:=[.int .i64 k,.int .i64 n]) Lw O O O O O O O hsF λbu bv H ah=>?_
   have I:=H.bxos (r:=AW.int) (l:=([k,n]:List Int)) .head ⟨_,_,O,⟨O,af⟩,⟨_,_,O,⟨O,ag⟩,O⟩⟩ (by simp [maxLen])
   obtain⟨bw,J,ai,aj⟩:=I.pubs .head
   have s:=Fz.done o (ah.trans ai) J
   exact AC s.1 ⟨Sl.mono' aj s.2,_,O⟩
  refine AQ.cons O ?_ ?_
  ·
   intro mq hh o
   intro bx t
   have hsN:=SN.st a o
   obtain⟨t,bm,rfl⟩:=t
   refine LF.callb O O O Yn O hsN (Nc (St.all _) (t.mono (λb hb=>hsN.1 b hb) (λ_ _=>rfl)) X) λbz b0 b1 bn b2 y p=>?_
   obtain⟨rfl,ak,bo⟩:=p
   exact AC ⟨y.siz,λb hb=>y.same b hb⟩ ⟨O,ak⟩
  refine AQ.cons O ?_ ?_
  ·
   intro mq hh o
   intro b3 am
   have hsN:=o.st a
   obtain⟨rfl,an⟩:=am
   exact LF.q 1 (QF.as_ O O (AE (AC (An.refl _) ⟨O,an⟩)))
  exact trivial
 intro b4 z b5 ao
 have K:=SN.st a z
 obtain⟨rfl,ap⟩:=ao
 refine LF.nil (kp [4] O) (WF.ret (λaa ww hf hw=>?_))
 cases E
 have M:=e5.trans (A.trans (SN.ext a.1 z))
 exact DC hf hw O O M ⟨O,ap,K⟩
theorem Lm {g:Value}{s:(List A4)}(hs:St S (OS BO 93 g s::L) h) {a:Int}(k:AB a) {c:Int}(m:AB c) {j:Value}{A:AF}(w:Rd S h AH j A) {r:(List A4)}(E:He N s a c A=some r):
 Bh Tryz.prog 67 #[g,.int .i64 a,.int .i64 c,j] S h (λv S' h'=>St S' (OS BO 93 v r::L) h'):=by
 refine Ag (l:=[g,.int .i64 a,.int .i64 c,j]) 46 Tryz.func67 O Tryz.ntmps67 O λB=>?_
 rw[He] at E
 refine WF.seq (WF.rl (LF.boxp O w (λe=>by cases e) O hs λq1 S2 h3 t e5 k6=>LF.q 1 (QF.as_ O O (AE (LF.nil (kp [7,0,1,2] O) (WF.seq (WF.seq (WF.rp (.inl O) (QF.fa O k6 AF.f_Hi CW O λq7 k8=>QF.ldi Af t.1 O k8 AM O λr9=>QF.leq O O O (AA (kp [13,7,0,1,2] O) ?_))))))))))
 refine WF.if_ O (λC=>?_) (λC=>?_)
 ·
  have E:=A7 C E
  refine WF.seq (WF.rp (.inl O) (QF.mv O O (QF.as_ O O (AA (kp [8] O) (WF.ret (λaa ww hf hw=>?_))))))
  cases E
  exact DC hf hw O O e5 t
 ·
  have E:=A8 C E
  refine WF.skip (WF.seq (WF.rc (.inl O) t (QF.mv O O (QF.mv O O (QF.mv O O (QF.bld (cs:=[.int .i64 a,.int .i64 c,.int .i64 0,.int .i64 0]) V1 O O O ?_))))))
  have F:Rd S2 h3 (AW.fn Tryz.prog (λx:(A4×A4)=>([.agg #[.int .i64 x.1.At,.int .i64 x.1.To,.int .i64 x.1.Vol.Lo,.int .i64 x.1.Vol.Hi],.agg #[.int .i64 x.2.At,.int .i64 x.2.To,.int .i64 x.2.Vol.Lo,.int .i64 x.2.Vol.Hi]]:List Value)) (λx:(A4×A4)=>A4.ok x.1∧A4.ok x.2) (λy:Int=> .int .i64 y) (λy:Int=>AB y)) (.func (.func 46) #[] #[]) (λx=>DT N x.1 x.2):=JZ 46 #[] WG λS' h' s' e' L hs x y h1 h2=>(KN hs (BO.mk (x:=x.1) h1.1) (BO.mk (x:=x.2) h1.2) h2).mono λ_ _ _ _ p=>p
  obtain⟨ak,G,E⟩:=bd E
  refine Ao O O O XJ O (λh' o=>DR (St.all h') ((t.oslAll mh).mono (λb hb=>Nat.lt_of_lt_of_le hb o.siz) (λb hb=>o.same b hb)) (BO.mk (x:=(⟨a,c,(⟨0,0⟩:AF)⟩:A4)) ⟨k,m,(iq (n:=0) O),(iq (n:=0) O)⟩) (F.mono (o.all t.1)) G) λam=>?_
  have an:=am
  refine QF.mv O O (QF.ext O O O (QF.ext O O O (QF.as_ O O (QF.as_ O O (Aq (kp [10,9,7,0,1,2] O) λbe d z=>WF.seq (WF.seq (WF.rp (.inl O) (QF.mv O O (AA (kp [23,9,7,0,1,2] O) (WF.if_ O (λD=>?_) (λD=>?_)))))))))))
  ·
   have E:=A7 D E
   refine WF.seq (EG 12 mo (by kernel_rfl) O d (QF.mv O O (QF.mv O O (QF.mv O O (QF.mv O O ?_)))))
   obtain⟨bf,H,E⟩:=bd E
   refine QF.ixoe d mh O O EU H O λbg I=>QF.fae O I Io O λbh J=>?_
   obtain⟨bi,K,E⟩:=bd E
   have ao:=d.epAt mh K A4.f_Vol J
   refine QF.ld Ak (λ_ x=>x) O ao Ad (λe=>by cases e) O λbj ap=>?_
   have aq:=k6.mono z
   refine QF.ld Ak d.1 O aq Ad (λe=>by cases e) O λbk ar=>?_
   obtain⟨au,M,E⟩:=bd E
   refine Ao O O O Qm O (λh' o=>JK (St.all h') (ap.mono (o.all d.1)) (ar.mono (o.all d.1)) M) λav=>?_
   obtain⟨aw,ax⟩:=av
   obtain⟨ay,Q,E⟩:=bd E
   refine Ao O O O Ql O (λh' o=>Ha (St.all h') (AH.mk (x:=au) ⟨aw,ax⟩) Q) λaz=>?_
   obtain⟨a0,a1⟩:=az
   obtain⟨bl,U,E⟩:=bd E
   refine QF.ixoe d mh O O EU U O λbm V=>QF.fae O V Io O λbn W=>DX λbo X a2=>?_
   obtain⟨a3,Y,E⟩:=bd E
   refine LF.ste (r:=BO) (l:=s) (i:=ak.1) (x:=a3) O O (AH.mk (x:=ay) ⟨a0,a1⟩) W Y A4.u_Vol Ad (λe=>by cases e) X .head λbp Z a4=>LF.nil (kp [0] O) (WF.seq (WF.rp (.inl O) (QF.mv O O (QF.as_ O O (AA (kp [8] O) (WF.ret (λaa ww hf hw=>?_)))))))
   cases E
   have ab:=e5.trans (z.trans (a2.trans a4))
   exact DC hf hw O O ab Z
  ·
   have E:=A8 D E
   refine WF.skip (WF.seq (WF.rl (LF.q 5 (QF.mv O O (QF.mv O O (QF.mv O O (QF.mv O O ?_)))))))
   have a5:=k6.mono z
   refine QF.ld Af d.1 O a5 Ad (λe=>by cases e) O λbq a6=>AE ?_
   obtain⟨u,ac,E⟩:=bd E
   refine LF.callb O O O Ql O d (Ha (St.all _) (a6.mono ⟨λb hb=>d.1 b hb,λ_ _=>rfl,Nat.le_refl _⟩) ac) λbr bt bu ad a7 bv p=>?_
   obtain⟨rfl,⟨a8,a9⟩,bc⟩:=p
   refine LF.q 1 (QF.bld (cs:=[.int .i64 a,.int .i64 c,.int .i64 u.Lo,.int .i64 u.Hi]) V1 O O O (AE (GY (cs:=[.int .i64 a,.int .i64 c,.int .i64 u.Lo,.int .i64 u.Hi]) P4 O O O O O O O ad λbw bx ae ba=>?_)))
   have af:=ae.bxos (r:=BO) (l:=([(⟨a,c,u⟩:A4)]:List A4)) .head ⟨_,_,O,⟨O,⟨k,m,a8,a9⟩⟩,O⟩ (by simp [maxLen])
   have ag:=af.sel [1,0] 0 O
   obtain⟨bz,ah,E⟩:=bd E
   refine LF.call O O O XI O (LX ag an ah) λb0 b1 b2 bb p=>?_
   have ai:=p
   refine LF.q 1 (QF.as_ O O (AE (LF.nil (kp [8] O) (WF.ret (λaa ww hf hw=>?_)))))
   cases E
   have aj:=e5.trans (z.trans (a7.trans (ba.trans bb)))
   exact DC hf hw O O aj ai
theorem IR {c:Nat}{p0_w:Ah}{s:Value}{t:Value}{u:Value}{w:Value}{x:Value}{y:Value}{z:Value}{A:Value}{g:Value}{C:Value}{j:Value}{k:Value}(hs:St S (Bx c 106 [.string p0_w.b.Name,s,.int .i64 p0_w.b.Cells,t,u,w,x,y,z,A,.int .i64 p0_w.b.Err,.int .i64 p0_w.h.Hour,g,C,j,k]::OS AH 51 g p0_w.h.Vol::OS BO 93 C p0_w.h.Queue::OS Aa 97 j p0_w.h.Links::OS AH 51 k p0_w.peaks::L) h) (X:p0_w.b.Name.size≤maxLen) (Y:Sl S h AW.str s p0_w.b.Owners) (Z:AB p0_w.b.Cells) (ab:Sl S h BF t p0_w.b.Places) (ac:Sl S h A9 u p0_w.b.Links) (ad:Sl S h E7 w p0_w.b.Towns) (ae:Sl S h De x p0_w.b.Gauges) (af:Sl S h Ex y p0_w.b.Roads) (ag:Sl S h Cd z p0_w.b.Shelters) (ah:Sl S h AW.int A p0_w.b.Room) (W:AB p0_w.b.Err) (H:AB p0_w.h.Hour) {D:Int}(J:AB D) {d:Int}(G:AB d) {F:Value}{I:AF}(Q:Rd S h AH F I) {r:(List A4)}(E:El N p0_w D d I=some r):
 Bh Tryz.prog 107 #[.pointer (some ⟨c,0,none⟩),.int .i64 D,.int .i64 d,F] S h (λv S' h'=>∃w_0_13:Value,v= .tuple #[]∧St S' (Bx c 106 [.string p0_w.b.Name,s,.int .i64 p0_w.b.Cells,t,u,w,x,y,z,A,.int .i64 p0_w.b.Err,.int .i64 p0_w.h.Hour,g,w_0_13,j,k]::OS AH 51 g p0_w.h.Vol::OS BO 93 w_0_13 r::OS Aa 97 j p0_w.h.Links::OS AH 51 k p0_w.peaks::L) h'):=by
 refine Ag (l:=[.pointer (some ⟨c,0,none⟩),.int .i64 D,.int .i64 d,F]) 30 Tryz.func107 O Tryz.ntmps107 O λB=>?_
 rw[El] at E
 refine WF.seq (WF.rl (LF.boxp O Q (λe=>by cases e) O hs λq1 S2 h3 n e5 k6=>LF.nil (kp [7,0,1,2] O) (WF.seq (WF.rp (.inl O) (QF.mv O O (QF.neq O O O (AA (kp [9,7,0,1,2] O) (WF.if_ O (λc7=>?_) (λc7=>?_)))))))))
 ·
  have E:=A7 c7 E
  refine Xa (m:=[(7,q1),(0,.pointer (some ⟨c,0,none⟩)),(1,.int .i64 D),(2,.int .i64 d)]) 16 [0] (λi v hh=>match i with|0=>v= .pointer (some ⟨c,0,none⟩)|1=>v= .pointer (some ⟨c,0,none⟩)|2=>v= .pointer (some ⟨c,0,none⟩)|3=>v= .pointer (some ⟨c,11,none⟩)|4=>v= .pointer (some ⟨c,13,none⟩)|5=>v=C|6=>v= .pointer (some ⟨c,0,none⟩)|7=>v= .pointer (some ⟨c,0,none⟩)|8=>v= .pointer (some ⟨c,11,none⟩)|9=>v= .pointer (some ⟨c,11,none⟩)|10=>v= .int .i64 p0_w.h.Hour∧AB p0_w.h.Hour|11=>v= .int .i64 (A3 (p0_w.h.Hour+1))∧AB (A3 (p0_w.h.Hour+1))|12=>v= .int .i64 d∧AB d|13=>v= .int .i64 (A3 ((A3 (p0_w.h.Hour+1))+d))∧AB (A3 ((A3 (p0_w.h.Hour+1))+d))|14=>v= .int .i64 D∧AB D|15=>Rd S2 hh AH v I|_=>False) [[],[],[(1,11)],[(2,12)],[(3,13)],[(4,14)],[],[(6,16)],[(7,17)],[(8,18)],[(9,19)],[(10,20)],[],[(11,21),(12,22)],[],[]] [(0,10),(5,15),(13,23),(14,24),(15,25)] mo (by kernel_rfl) [7,0,1,2] O (by kernel_rfl) (by kernel_rfl) (by kernel_rfl) (kp [7,0,1,2] O) (λi v h1 h2 o1 o2 hr=>?_) ?_ ?_ ?_
  ·match i,hr with
    |0,hr=>exact hr
    |1,hr=>exact hr
    |2,hr=>exact hr
    |3,hr=>exact hr
    |4,hr=>exact hr
    |5,hr=>exact hr
    |6,hr=>exact hr
    |7,hr=>exact hr
    |8,hr=>exact hr
    |9,hr=>exact hr
    |10,hr=>exact hr
    |11,hr=>exact hr
    |12,hr=>exact hr
    |13,hr=>exact hr
    |14,hr=>exact hr
    |15,hr=>exact Rd.mono hr (o2.ext λb hb=>Nat.lt_of_lt_of_le (n.1 b hb) o1.siz)
    |_+16,hr=>exact hr.elim
  ·
   refine PF.cons [] (by kernel_rfl) O O (by kernel_rfl) ?_ ?_
   ·
    intro mq hh o
    intro a hf
    exact⟨.pointer (some ⟨c,0,none⟩),Kf hf O,O⟩
   exact trivial
  ·
   refine AQ.cons O ?_ ?_
   ·
    intro mq hh o
    have hsN:=o.st n
    exact LF.q 1 (QF.mv O O (AE (AC (An.refl _) O)))
   refine AQ.cons O ?_ ?_
   ·
    intro mq hh o
    have hsN:=o.st n
    exact LF.q 1 (QF.mv O O (AE (AC (An.refl _) O)))
   refine AQ.cons O ?_ ?_
   ·
    intro mq hh o
    intro bh ar
    have hsN:=o.st n
    cases ar
    exact LF.q 1 (Dy O O (AE (AC (An.refl _) O)))
   refine AQ.cons O ?_ ?_
   ·
    intro mq hh o
    intro bi au
    have hsN:=o.st n
    cases au
    exact LF.q 1 (QF.fao O D1 O (AE (AC (An.refl _) O)))
   refine AQ.cons O ?_ ?_
   ·
    intro mq hh o
    intro bj av
    have hsN:=o.st n
    cases av
    exact LF.q 1 (QF.fao O Gt O (AE (AC (An.refl _) O)))
   refine AQ.cons O ?_ ?_
   ·
    intro mq hh o
    intro bk aw
    have hsN:=o.st n
    cases aw
    exact LF.q 1 (AI Af hsN O mh O Jf O (AE (AC (An.refl _) O)))
   refine AQ.cons O ?_ ?_
   ·
    intro mq hh o
    have hsN:=o.st n
    exact LF.q 1 (QF.mv O O (AE (AC (An.refl _) O)))
   refine AQ.cons O ?_ ?_
   ·
    intro mq hh o
    intro bl ax
    have hsN:=o.st n
    cases ax
    exact LF.q 1 (Dy O O (AE (AC (An.refl _) O)))
   refine AQ.cons O ?_ ?_
   ·
    intro mq hh o
    intro bm ay
    have hsN:=o.st n
    cases ay
    exact LF.q 1 (QF.fao O D1 O (AE (AC (An.refl _) O)))
   refine AQ.cons O ?_ ?_
   ·
    intro mq hh o
    intro bn az
    have hsN:=o.st n
    cases az
    exact LF.q 1 (QF.fao O Gu O (AE (AC (An.refl _) O)))
   refine AQ.cons O ?_ ?_
   ·
    intro mq hh o
    intro bo a0
    have hsN:=o.st n
    cases a0
    exact LF.q 1 (AI Af hsN O mh O AM O (AE (AC (An.refl _) ⟨O,H⟩)))
   refine AQ.cons O ?_ ?_
   ·
    intro mq hh o
    intro bp a1
    have hsN:=o.st n
    obtain⟨rfl,bq⟩:=a1
    exact LF.q 1 (QF.addw O O O (AE (AC (An.refl _) ⟨O,(BA _)⟩)))
   refine AQ.cons O ?_ ?_
   ·
    intro mq hh o
    have hsN:=o.st n
    exact LF.q 1 (QF.mv O O (AE (AC (An.refl _) ⟨O,G⟩)))
   refine AQ.cons O ?_ ?_
   ·
    intro mq hh o
    intro br a2 bt a3
    have hsN:=o.st n
    obtain⟨rfl,bu⟩:=a2
    obtain⟨rfl,bv⟩:=a3
    exact LF.q 1 (QF.addw O O O (AE (AC (An.refl _) ⟨O,(BA _)⟩)))
   refine AQ.cons O ?_ ?_
   ·
    intro mq hh o
    have hsN:=o.st n
    exact LF.q 1 (QF.mv O O (AE (AC (An.refl _) ⟨O,J⟩)))
   refine AQ.cons O ?_ ?_
   ·
    intro mq hh o
    have hsN:=o.st n
    refine LF.q 1 ?_
    have a4:=k6.mono (o.ext n.1)
    exact QF.ld Af hsN.1 O a4 Ad (λe=>by cases e) O λbw a5=>AE (AC (An.refl _) a5)
   exact trivial
  intro a6 ai bx a7 bz a8 b0 a9 b1 ba bb K
  have aj:=SN.st n ai
  cases a7
  cases a8
  obtain⟨rfl,bc⟩:=a9
  obtain⟨rfl,be⟩:=ba
  have K:=Rd.mono (S':=(SN S2 h3 a6)) K ⟨λb hb=> .inl hb,λ_ _=>rfl,Nat.le_refl _⟩
  have K:Rd _ _ AH bb I:=K
  have ak:=aj.pick (.tail (.tail .head))
  obtain⟨am,an,E⟩:=bd E
  refine LF.call O O O WD O (Lm ak bc be K an) λb2 b3 b4 bf p=>?_
  have U:=p
  refine LF.q 3 (Dy O O (QF.fao O D1 O (QF.fao O Gt O (AE ?_))))
  obtain⟨V,M,rfl,b5⟩:=U.oslen mh
  refine G2 (vs:=[(.slice V am.length M)]) (cs':=[.string p0_w.b.Name,s,.int .i64 p0_w.b.Cells,t,u,w,x,y,z,A,.int .i64 p0_w.b.Err,.int .i64 p0_w.h.Hour,g,(.slice V am.length M),j,k]) O O O O Jf O U (.tail .head) O O λb6 ao bg=>LF.nil J6 (WF.nil (λaa ww hf hw=>?_))
  have ap:=ao.sel [1,1,0,0,0] 0 O
  cases E
  have aq:=e5.trans ((SN.ext n.1 ai).trans (bf.trans bg))
  exact Hq hf O hw HY O aq ⟨_,O,ap⟩
 ·
  have E:=A8 c7 E
  refine WF.skip (WF.nil (λaa ww hf hw=>?_))
  cases E
  exact Hq hf O hw HY O e5 ⟨_,O,n⟩
theorem K1 {c:Nat}{p0_w:Ah}{F:Value}{G:Value}{H:Value}{I:Value}{J:Value}{K:Value}{M:Value}{Q:Value}{z:Value}{af:Value}{j:Value}{d:Value}(hs:St S (Bx c 106 [.string p0_w.b.Name,F,.int .i64 p0_w.b.Cells,G,H,I,J,K,M,Q,.int .i64 p0_w.b.Err,.int .i64 p0_w.h.Hour,z,af,j,d]::OS AH 51 z p0_w.h.Vol::OS BO 93 af p0_w.h.Queue::OS Aa 97 j p0_w.h.Links::OS AH 51 d p0_w.peaks::L) h) (au:p0_w.b.Name.size≤maxLen) (av:Sl S h AW.str F p0_w.b.Owners) (aw:AB p0_w.b.Cells) (ai:Sl S h BF G p0_w.b.Places) (ax:Sl S h A9 H p0_w.b.Links) (ay:Sl S h E7 I p0_w.b.Towns) (az:Sl S h De J p0_w.b.Gauges) (a0:Sl S h Ex K p0_w.b.Roads) (a1:Sl S h Cd M p0_w.b.Shelters) (a2:Sl S h AW.int Q p0_w.b.Room) (an:AB p0_w.b.Err) (ao:AB p0_w.h.Hour) {u:Int}(a6:AB u) {t:Value}{U:(List AO)}(bc:Sl S h Bw t U) {r:AF×(List AF)×(List A4)}(E:FM N p0_w u U=some r):
 Bh Tryz.prog 52 #[.pointer (some ⟨c,0,none⟩),.int .i64 u,t] S h (λv S' h'=>∃w_0_12 w_0_13:Value,v= .agg #[.int .i64 r.1.Lo,.int .i64 r.1.Hi]∧AF.ok r.1∧St S' (Bx c 106 [.string p0_w.b.Name,F,.int .i64 p0_w.b.Cells,G,H,I,J,K,M,Q,.int .i64 p0_w.b.Err,.int .i64 p0_w.h.Hour,w_0_12,w_0_13,j,d]::OS AH 51 w_0_12 r.2.1::OS BO 93 w_0_13 r.2.2::OS Aa 97 j p0_w.h.Links::OS AH 51 d p0_w.peaks::L) h'):=by
 refine Ag (l:=[.pointer (some ⟨c,0,none⟩),.int .i64 u,t]) 128 Tryz.func52 O Tryz.ntmps52 O λB=>?_
 rw[FM] at E
 refine WF.seq (WF.rl (LF.al EH O hs λb1 h2 C e4=>LF.nil (kp [6,0,1,2] O) (WF.seq ?_)))
 obtain⟨A,im,E⟩:=bd E
 obtain⟨ne,ck,E⟩:=bd E
 obtain⟨Y,cl,E⟩:=bd E
 refine Rw (m:=[(6,.pointer (some ⟨b1,0,none⟩)),(0,.pointer (some ⟨c,0,none⟩)),(1,.int .i64 u),(2,t)]) 17 [18] [8,12] [9,10,11,13,14] [15,16] (λi v hh=>match i with|0=>v= .pointer (some ⟨c,0,none⟩)|1=>v= .pointer (some ⟨c,0,none⟩)|2=>v= .pointer (some ⟨c,0,none⟩)|3=>v= .pointer (some ⟨c,3,none⟩)|4=>Sl S hh BF v p0_w.b.Places|5=>v= .int .i64 u∧AB u|6=>Pt S hh BF v A|7=>Rd S hh BF v A|8=>v= .pointer (some ⟨c,0,none⟩)|9=>v= .pointer (some ⟨c,0,none⟩)|10=>v= .pointer (some ⟨c,15,none⟩)|11=>v=d|12=>v= .int .i64 u∧AB u|13=>EP d (u.toNat*(AH).sz+0) v|14=>Rd S hh AH v Y|15=>PK h2 57 [.string ByteArray.empty,.int .i64 0,.int .i64 0,.int .i64 0,.slice none 0 0,.slice none 0 0,.int .i64 0,.int .i64 0,.int .i64 0,.int .i64 0,.int .i64 0,.slice none 0 0] v hh|16=>PK h2 51 [.int .i64 0,.int .i64 0] v hh|_=>False) [[],[(0,20)],[(1,21)],[(2,22)],[(3,23)],[],[(4,24),(5,25)],[(6,26)],[],[(8,28)],[(9,29)],[(10,30)],[],[(11,31),(12,32)],[(13,33)],[],[],[],[]] [(7,27),(8,28),(12,32),(15,7),(16,8)] mo (by kernel_rfl) [6,0,1,2] O (by kernel_rfl) (by kernel_rfl) (by kernel_rfl) O O (kp [6,0,1,2] O) (λi v h1 h2 o1 o2 hr=>?_) (by kernel_rfl) (JX (T:=57) O (JX (T:=51) O Nn)) ?_ ?_ ?_
 ·match i,hr with
   |0,hr=>exact hr
   |1,hr=>exact hr
   |2,hr=>exact hr
   |3,hr=>exact hr
   |4,hr=>exact Sl.mono' hr (o2.ext λb hb=>Nat.lt_of_lt_of_le (C.1 b hb) o1.siz)
   |5,hr=>exact hr
   |6,hr=>exact J7.mono hr (o2.ext λb hb=>Nat.lt_of_lt_of_le (C.1 b hb) o1.siz)
   |7,hr=>exact Rd.mono hr (o2.ext λb hb=>Nat.lt_of_lt_of_le (C.1 b hb) o1.siz)
   |8,hr=>exact hr
   |9,hr=>exact hr
   |10,hr=>exact hr
   |11,hr=>exact hr
   |12,hr=>exact hr
   |13,hr=>exact hr
   |14,hr=>exact Rd.mono hr (o2.ext λb hb=>Nat.lt_of_lt_of_le (C.1 b hb) o1.siz)
   |15,hr=>exact hr.mono o2
   |16,hr=>exact hr.mono o2
   |_+17,hr=>exact hr.elim
 ·
  refine JH.cons [] (by kernel_rfl) O O (by kernel_rfl) ?_ ?_
  ·
   intro mq hh o
   intro a hf
   exact⟨.pointer (some ⟨c,0,none⟩),Kf hf O,O⟩
  refine JH.cons [] (by kernel_rfl) O O (by kernel_rfl) ?_ ?_
  ·
   intro mq hh o
   intro a hf
   exact⟨.int .i64 u,Kf hf O,⟨O,a6⟩⟩
  exact trivial
 ·
  refine Ae.cons O O O ?_ ?_
  ·
   intro mq hh o
   have hsN:=o.st C
   exact LF.q 1 (QF.mv O O (AE (AC (An.refl _) O)))
  refine Ae.cons O O O ?_ ?_
  ·
   intro mq hh o
   intro nf io
   have hsN:=o.st C
   cases io
   exact LF.q 1 (Dy O O (AE (AC (An.refl _) O)))
  refine Ae.cons O O O ?_ ?_
  ·
   intro mq hh o
   intro ng ip
   have hsN:=o.st C
   cases ip
   exact LF.q 1 (QF.fao O FZ O (AE (AC (An.refl _) O)))
  refine Ae.cons O O O ?_ ?_
  ·
   intro mq hh o
   intro nh ir
   have hsN:=o.st C
   cases ir
   exact LF.q 1 (QF.fao O CX O (AE (AC (An.refl _) O)))
  refine Ae.cons O O O ?_ ?_
  ·
   intro mq hh o
   intro ni it
   have hsN:=o.st C
   cases it
   refine LF.q 1 (AI Af hsN O (mt mh) O Ec O (AE ?_))
   have iu:=ai.mono' (e4.trans (o.ext C.1))
   exact AC (An.refl _) iu
  refine Ae.cons O O O ?_ ?_
  ·
   intro mq hh o
   have hsN:=o.st C
   exact LF.q 1 (QF.mv O O (AE (AC (An.refl _) ⟨O,a6⟩)))
  refine Ae.cons O O O ?_ ?_
  ·
   intro mq hh o
   intro iv c6 nj iw
   have hsN:=o.st C
   have c6:Sl _ _ BF iv p0_w.b.Places:=c6
   obtain⟨rfl,nk⟩:=iw
   exact LF.q 1 (QF.ixe O O c6 D8 im O λnl iy=>AE (AC (An.refl _) iy))
  refine Ae.cons O O O ?_ ?_
  ·
   intro mq hh o
   intro iz c7
   have hsN:=o.st C
   have c7:Pt _ _ BF iz A:=c7
   exact LF.q 1 (QF.ld Af hsN.1 O c7 HS (λe=>by cases e) O λnm i0=>AE (AC (An.refl _) i0))
  refine Ae.cons O O O ?_ ?_
  ·
   intro mq hh o
   have hsN:=o.st C
   exact LF.q 1 (QF.mv O O (AE (AC (An.refl _) O)))
  refine Ae.cons O O O ?_ ?_
  ·
   intro mq hh o
   intro nn i1
   have hsN:=o.st C
   cases i1
   exact LF.q 1 (Dy O O (AE (AC (An.refl _) O)))
  refine Ae.cons O O O ?_ ?_
  ·
   intro mq hh o
   intro no i2
   have hsN:=o.st C
   cases i2
   exact LF.q 1 (QF.fao O FY O (AE (AC (An.refl _) O)))
  refine Ae.cons O O O ?_ ?_
  ·
   intro mq hh o
   intro np i3
   have hsN:=o.st C
   cases i3
   exact LF.q 1 (AI Af hsN O (mt mh) O FH O (AE (AC (An.refl _) O)))
  refine Ae.cons O O O ?_ ?_
  ·
   intro mq hh o
   have hsN:=o.st C
   exact LF.q 1 (QF.mv O O (AE (AC (An.refl _) ⟨O,a6⟩)))
  refine Ae.cons O O O ?_ ?_
  ·
   intro mq hh o
   intro nq i4 nr i5
   have hsN:=o.st C
   cases i4
   obtain⟨rfl,ns⟩:=i5
   exact LF.q 1 (QF.ixoe hsN (mt (mt (mt (mt (mt mh))))) O O DY ck O λnt en=>AE (AC (An.refl _) en))
  refine Ae.cons O O O ?_ ?_
  ·
   intro mq hh o
   intro nu i6
   have hsN:=o.st C
   refine LF.q 1 ?_
   have i7:=hsN.epAt (mt (mt (mt (mt (mt mh))))) cl ED.id i6
   exact QF.ld Af (λ_ x=>x) O i7 Ad (λe=>by cases e) O λnv i8=>AE (AC (An.refl _) i8)
  exact Ae.al O MW O O (Ae.al O EH O O (Ae.skip (by kernel_rfl) (Ae.skip (by kernel_rfl) (trivial))))
 intro j6 nw cf i9 c8 nx ja ny jb nz jc n0 jd eo
 obtain⟨be,rfl,je,jf,jg⟩:=jc
 obtain⟨ar,rfl,jh,ji,jj⟩:=jd
 have ep:=(L5.cons (L5.cons (L5.nil C cf) je jf jg List.not_mem_nil) jh ji jj (N8 (eo.at_ (s:=8) (s':=7) (by kernel_rfl) O O) List.not_mem_nil)).st
 have c8:Rd _ _ BF i9 A:=c8
 cases ja
 obtain⟨rfl,n2⟩:=jb
 obtain⟨cg,ch,ci,rfl,n3,n4,n5,cj,jk,jl,n6,n7,jm,jn,n8,jo⟩:=BF.ex c8
 refine LF.st (vs:=[.string A.Name,.int .i64 A.Kind,.int .i64 A.Office,.int .i64 A.Cap,cg,ch,.int .i64 A.Num,.int .i64 A.Den,.int .i64 A.Down,.int .i64 A.Delay,.int .i64 A.Floor,ci]) (cs':=[.string A.Name,.int .i64 A.Kind,.int .i64 A.Office,.int .i64 A.Cap,cg,ch,.int .i64 A.Num,.int .i64 A.Den,.int .i64 A.Down,.int .i64 A.Delay,.int .i64 A.Floor,ci]) O O O (AD O (AD O (AD O (AD O (AD jk.one (AD jl.one (AD O (AD O (AD O (AD O (AD O (AD jo.one EI)))))))))))) HS O ep (.tail .head) O O λn9 ab bm=>Ux ⟨λi v hh=>match i with|9=>v= .pointer (some ⟨c,0,none⟩)|10=>v= .pointer (some ⟨c,15,none⟩)|11=>v=d|13=>EP d (u.toNat*(AH).sz+0) v|14=>Rd S hh AH v Y|_=>False,[[],[],[],[],[],[],[],[],[],[],[(9,29)],[(10,30)],[],[(11,31)],[(13,33)],[],[],[],[]],[(14,34)],_,[8,7,32,28,27,6,0,1,2],O,by kernel_rfl,by kernel_rfl,by kernel_rfl,by kernel_rfl,O,λi hi v hr=>?_,λi v h1 h2 o1 o2 hr=>?_,?_,?_⟩
 ·
  rcases List.mem_cons.1 hi with rfl|hi
  ·exact hr
  rcases List.mem_cons.1 hi with rfl|hi
  ·exact hr
  rcases List.mem_cons.1 hi with rfl|hi
  ·exact hr
  rcases List.mem_cons.1 hi with rfl|hi
  ·exact hr
  rcases List.mem_cons.1 hi with rfl|hi
  ·exact Rd.mono hr bm
  cases hi
 ·match i,hr with
   |0,hr=>exact hr.elim
   |1,hr=>exact hr.elim
   |2,hr=>exact hr.elim
   |3,hr=>exact hr.elim
   |4,hr=>exact hr.elim
   |5,hr=>exact hr.elim
   |6,hr=>exact hr.elim
   |7,hr=>exact hr.elim
   |8,hr=>exact hr.elim
   |9,hr=>exact hr
   |10,hr=>exact hr
   |11,hr=>exact hr
   |12,hr=>exact hr.elim
   |13,hr=>exact hr
   |14,hr=>exact Rd.mono hr (o2.ext λb hb=>Nat.lt_of_lt_of_le (ab.1 b hb) o1.siz)
   |_+15,hr=>exact hr.elim
 ·
  refine Ae.skip (by kernel_rfl) (Ae.skip (by kernel_rfl) (Ae.skip (by kernel_rfl) (Ae.skip (by kernel_rfl) (Ae.skip (by kernel_rfl) (Ae.skip (by kernel_rfl) (Ae.skip (by kernel_rfl) (Ae.skip (by kernel_rfl) (Ae.skip (by kernel_rfl) (Ae.cons O O O ?_ ?_)))))))))
  ·
   intro mq hh o
   have hsN:=o.st ab
   exact LF.q 1 (Dy O O (AE (AC (An.refl _) O)))
  refine Ae.cons O O O ?_ ?_
  ·
   intro mq hh o
   intro j7 eq
   have hsN:=o.st ab
   cases eq
   exact LF.q 1 (QF.fao O FY O (AE (AC (An.refl _) O)))
  refine Ae.cons O O O ?_ ?_
  ·
   intro mq hh o
   intro j8 er
   have hsN:=o.st ab
   cases er
   exact LF.q 1 (AI Af hsN O (mt (mt (mt mh))) O FH O (AE (AC (An.refl _) O)))
  refine Ae.skip (by kernel_rfl) (Ae.cons O O O ?_ ?_)
  ·
   intro mq hh o
   intro j9 es
   have hsN:=o.st ab
   cases es
   exact LF.q 1 (QF.ixoe hsN (mt (mt (mt (mt (mt (mt (mt mh))))))) O O DY ck O λka c9=>AE (AC (An.refl _) c9))
  refine Ae.cons O O O ?_ ?_
  ·
   intro mq hh o
   intro kb et
   have hsN:=o.st ab
   refine LF.q 1 ?_
   have eu:=hsN.epAt (mt (mt (mt (mt (mt (mt (mt mh))))))) cl ED.id et
   exact QF.ld Af (λ_ x=>x) O eu Ad (λe=>by cases e) O λkc ev=>AE (AC (An.refl _) ev)
  exact Ae.skip (by kernel_rfl) (Ae.skip (by kernel_rfl) (Ae.skip (by kernel_rfl) (Ae.skip (by kernel_rfl) (trivial))))
 intro kd bn ew bt
 have da:=bn.st ab
 have bt:Rd _ _ AH ew Y:=bt
 obtain⟨rfl,⟨bu,bv⟩⟩:=AH.ex bt
 refine Ai (vs:=[.int .i64 Y.Lo,.int .i64 Y.Hi]) O O O O Ad O da .head O λke db bw=>LF.nil (kp [8,7,6,0,1,2] O) (WF.seq (WF.rl (LF.al Xp O db λaj kf dc bx=>LF.al Xp O dc λak kg dd bz=>Ai (vs:=[.int .i64 0]) O O O O AM O dd (.tail .head) O λkh de b0=>Ai (vs:=[.int .i64 0]) O O O O AM O de .head O λb2 df b3=>LF.nil (kp [10,9,8,7,6,0,1,2] O) (WF.seq (WF.rp (.inl O) (QF.mkf O O O (QF.as_ O O (AA (kp [11,10,9,8,7,6,0,1,2] O) ?_))))))))
 refine WF.seq (WF.seq (WF.rp (.inl O) (QF.mv O O ?_)))
 have dg:=e4.trans ((cf.ext C.1).trans (bm.trans ((bn.ext ab.1).trans (bw.trans (bx.trans (bz.trans (b0.trans b3)))))))
 have cm:=bc.mono' dg
 refine QF.len O cm TO O λki=>QF.mv O O (AA (kp [38,37,36,11,10,9,8,7,6,0,1] O) (WF.blockJ (λa w=>∃(bf:Int) (bg:Int) (b4:Value) (bo:List A4),IV B S b2 (128,[]) a w [(11,.func (.func 105) #[] #[.pointer (some ⟨ar,0,none⟩),.pointer (some ⟨aj,0,none⟩),.pointer (some ⟨ak,0,none⟩)]),(7,.pointer (some ⟨be,0,none⟩)),(6,.pointer (some ⟨b1,0,none⟩)),(0,.pointer (some ⟨c,0,none⟩)),(1,.int .i64 u)] (OS BO 93 b4 bo::Bx ak 3 [.int .i64 bf]::Bx aj 3 [.int .i64 bg]::Bx ar 51 [.int .i64 Y.Lo,.int .i64 Y.Hi]::Bx be 57 [.string A.Name,.int .i64 A.Kind,.int .i64 A.Office,.int .i64 A.Cap,cg,ch,.int .i64 A.Num,.int .i64 A.Den,.int .i64 A.Down,.int .i64 A.Delay,.int .i64 A.Floor,ci]::Bx b1 51 [.int .i64 0,.int .i64 0]::Bx c 106 [.string p0_w.b.Name,F,.int .i64 p0_w.b.Cells,G,H,I,J,K,M,Q,.int .i64 p0_w.b.Err,.int .i64 p0_w.h.Hour,z,b4,j,d]::OS AH 51 z p0_w.h.Vol::OS Aa 97 j p0_w.h.Links::OS AH 51 d p0_w.peaks::L) λ_ _=>AB bf∧AB bg∧CM N p0_w u A Y bf bg bo=some r) ?_ ?_))
 ·
  refine WF.loopF (λn1=>λa w=>∃(a3:Int) (a4:Int) (a5:Int) (bp:Value) (bh:List A4),IV B S b2 (128,[]) a w [(37,.int .i64 (↑U.length:Int)),(36,t),(11,.func (.func 105) #[] #[.pointer (some ⟨ar,0,none⟩),.pointer (some ⟨aj,0,none⟩),.pointer (some ⟨ak,0,none⟩)]),(10,.pointer (some ⟨ak,0,none⟩)),(9,.pointer (some ⟨aj,0,none⟩)),(8,.pointer (some ⟨ar,0,none⟩)),(7,.pointer (some ⟨be,0,none⟩)),(6,.pointer (some ⟨b1,0,none⟩)),(0,.pointer (some ⟨c,0,none⟩)),(1,.int .i64 u),(38,.int .i64 a3)] (OS BO 93 bp bh::Bx ak 3 [.int .i64 a4]::Bx aj 3 [.int .i64 a5]::Bx ar 51 [.int .i64 Y.Lo,.int .i64 Y.Hi]::Bx be 57 [.string A.Name,.int .i64 A.Kind,.int .i64 A.Office,.int .i64 A.Cap,cg,ch,.int .i64 A.Num,.int .i64 A.Den,.int .i64 A.Down,.int .i64 A.Delay,.int .i64 A.Floor,ci]::Bx b1 51 [.int .i64 0,.int .i64 0]::Bx c 106 [.string p0_w.b.Name,F,.int .i64 p0_w.b.Cells,G,H,I,J,K,M,Q,.int .i64 p0_w.b.Err,.int .i64 p0_w.h.Hour,z,bp,j,d]::OS AH 51 z p0_w.h.Vol::OS Aa 97 j p0_w.h.Links::OS AH 51 d p0_w.peaks::L) λ_ _=>AB a3∧AB a4∧AB a5∧CL N p0_w U Y (CM N p0_w u A Y) n1 a3 a4 a5 bh=some r) N ?_ ?_ ?_
  ·
   intro aa ww hf hw
   have dh:=df.sel [7,0,0,0,0,0,0,0,0,0] 0 O
   exact⟨0,0,0,af,p0_w.h.Queue,_,_,hf.sub (kp [37,36,11,10,9,8,7,6,0,1,38] O),hw,dh,(Bg.refl S b2),(iq (n:=0) O),(iq (n:=0) O),(iq (n:=0) O),E⟩
  ·
   rintro aa ww ⟨_,_,_,_,_,_,_,_,_,_,_,_,_,_,E⟩
   rw[CL] at E;cases E
  ·
   rintro n1 aa ww ⟨a3,a4,a5,bp,bh,am,kj,hf,hw,bk,bq,kk,b5,b6,E⟩
   refine WF.run ?_ hf hw
   clear hf hw ww aa
   rw[CL] at E
   refine WF.seq (WF.rp (.inl O) (QF.lss O O O (AA (kp [39,37,36,11,10,9,8,7,6,0,1,38] O) (WF.seq (WF.if_ O (λb7=>?_) (λb7=>?_))))))
   ·
    have E:=A7 b7 E
    refine WF.skip (WF.seq (WF.block (WF.seq (WF.rl (LF.q 2 ?_)))))
    have ey:=cm.mono' bq
    obtain⟨ap,di,E⟩:=bd E
    refine QF.ixe O O ey TO di O λkl ez=>QF.ld Af bk.1 O ez Sx (λe=>by cases e) O λkm e0=>AE (LF.al WO O bk λb8 kn dj b9=>?_)
    have e1:=e0.mono b9
    obtain⟨ko,rfl,e2,e3,cn,ca⟩:=Bw.ex e1
    obtain⟨dk,dl,rfl,jp,jq⟩:=ca.fn
    refine Ai (vs:=[.int .i64 ap.to_,.int .i64 ap.delay,.int .i64 ap.slack,(.func (.func dk) #[] dl)]) O O O O Sx O dj .head O λah g br=>LF.nil (kp [13,37,36,11,10,9,8,7,6,0,1,38] O) (WF.seq ?_)
    obtain⟨ac,dm,E⟩:=bd E
    obtain⟨ad,dn,E⟩:=bd E
    obtain⟨D,dp,E⟩:=bd E
    refine XZ (m:=[(13,.pointer (some ⟨b8,0,none⟩)),(37,.int .i64 (↑U.length:Int)),(36,t),(11,.func (.func 105) #[] #[.pointer (some ⟨ar,0,none⟩),.pointer (some ⟨aj,0,none⟩),.pointer (some ⟨ak,0,none⟩)]),(10,.pointer (some ⟨ak,0,none⟩)),(9,.pointer (some ⟨aj,0,none⟩)),(8,.pointer (some ⟨ar,0,none⟩)),(7,.pointer (some ⟨be,0,none⟩)),(6,.pointer (some ⟨b1,0,none⟩)),(0,.pointer (some ⟨c,0,none⟩)),(1,.int .i64 u),(38,.int .i64 a3)]) [15,16,17] [] [12,13,14] (λi v hh=>match i with|0=>v= .pointer (some ⟨b8,3,none⟩)|1=>Rd am hh (AW.fn Tryz.prog (λx:Int=>([.int .i64 x]:List Value)) (λx:Int=>AB x) (λy:AF=> .agg #[.int .i64 y.Lo,.int .i64 y.Hi]) (λy:AF=>AF.ok y)) v ap.asks|2=>v= .pointer (some ⟨ar,0,none⟩)|3=>v= .int .i64 Y.Lo∧AB Y.Lo|4=>v= .agg #[.int .i64 ac.Lo,.int .i64 ac.Hi]∧AB ac.Lo∧AB ac.Hi|5=>v= .pointer (some ⟨b8,3,none⟩)|6=>Rd am hh (AW.fn Tryz.prog (λx:Int=>([.int .i64 x]:List Value)) (λx:Int=>AB x) (λy:AF=> .agg #[.int .i64 y.Lo,.int .i64 y.Hi]) (λy:AF=>AF.ok y)) v ap.asks|7=>v= .pointer (some ⟨ar,1,none⟩)|8=>v= .int .i64 Y.Hi∧AB Y.Hi|9=>v= .agg #[.int .i64 ad.Lo,.int .i64 ad.Hi]∧AB ad.Lo∧AB ad.Hi|10=>v= .func (.func 105) #[] #[.pointer (some ⟨ar,0,none⟩),.pointer (some ⟨aj,0,none⟩),.pointer (some ⟨ak,0,none⟩)]|11=>v= .agg #[.int .i64 D.Lo,.int .i64 D.Hi]∧AB D.Lo∧AB D.Hi|12=>PK ah 51 [.int .i64 0,.int .i64 0] v hh|13=>PK ah 51 [.int .i64 0,.int .i64 0] v hh|14=>PK ah 51 [.int .i64 0,.int .i64 0] v hh|_=>False) [[],[(0,42)],[],[(2,44)],[(1,43),(3,45)],[],[(5,47)],[],[(7,49)],[(6,48),(8,50)],[],[(10,52)],[],[],[],[],[],[]] [(4,46),(9,51),(11,53),(12,14),(13,15),(14,16)] mo (by kernel_rfl) [13,37,36,11,10,9,8,7,6,0,1,38] O (by kernel_rfl) (by kernel_rfl) (by kernel_rfl) O (kp [13,37,36,11,10,9,8,7,6,0,1,38] O) (λi v h1 h2 o1 o2 hr=>?_) (by kernel_rfl) (JX (T:=51) O (JX (T:=51) O (JX (T:=51) O Nn))) ?_ ?_ ?_
    ·match i,hr with
      |0,hr=>exact hr
      |1,hr=>exact Rd.mono hr (o2.ext λb hb=>Nat.lt_of_lt_of_le (g.1 b hb) o1.siz)
      |2,hr=>exact hr
      |3,hr=>exact hr
      |4,hr=>exact hr
      |5,hr=>exact hr
      |6,hr=>exact Rd.mono hr (o2.ext λb hb=>Nat.lt_of_lt_of_le (g.1 b hb) o1.siz)
      |7,hr=>exact hr
      |8,hr=>exact hr
      |9,hr=>exact hr
      |10,hr=>exact hr
      |11,hr=>exact hr
      |12,hr=>exact hr.mono o2
      |13,hr=>exact hr.mono o2
      |14,hr=>exact hr.mono o2
      |_+15,hr=>exact hr.elim
    ·exact trivial
    ·
     refine Ae.cons O O O ?_ ?_
     ·
      intro mq hh o
      have hsN:=o.st g
      exact LF.q 1 (QF.fao O Pw O (AE (AC (An.refl _) O)))
     refine Ae.cons O O O ?_ ?_
     ·
      intro mq hh o
      intro kq e5
      have hsN:=o.st g
      cases e5
      refine LF.q 1 (AI Af hsN O mh O TA O (AE ?_))
      have e6:=ca.mono (br.trans (o.ext g.1))
      exact AC (An.refl _) e6
     refine Ae.cons O O O ?_ ?_
     ·
      intro mq hh o
      have hsN:=o.st g
      exact LF.q 1 (QF.fao O DD O (AE (AC (An.refl _) O)))
     refine Ae.cons O O O ?_ ?_
     ·
      intro mq hh o
      intro kr e7
      have hsN:=o.st g
      cases e7
      exact LF.q 1 (AI Af hsN O (mt (mt (mt (mt mh)))) O AM O (AE (AC (An.refl _) ⟨O,bu⟩)))
     refine Ae.cons O O O ?_ ?_
     ·
      intro mq hh o
      intro e8 bi ks e9
      have hsN:=SN.st g o
      have bi:=Rd.mono (S':=(SN am ah hh)) bi ⟨λb hb=> .inl hb,λ_ _=>rfl,Nat.le_refl _⟩
      have bi:Rd _ _ (AW.fn Tryz.prog (λx:Int=>([.int .i64 x]:List Value)) (λx:Int=>AB x) (λy:AF=> .agg #[.int .i64 y.Lo,.int .i64 y.Hi]) (λy:AF=>AF.ok y)) e8 ap.asks:=bi
      obtain⟨rfl,fb⟩:=e9
      obtain⟨jr,js,rfl,dq,dr⟩:=bi.fn
      refine LF.callb O O O dq O hsN (dr _ _ (λb hb=>hsN.1 b ((Bg.refl (SN am ah hh) hh).sub b hb)) (λb hb=>(Bg.refl (SN am ah hh) hh).same b hb) [] (St.all _) _ _ fb dm) λkt ku kv jt kw co p=>?_
      obtain⟨rfl,⟨fc,fd⟩,ju⟩:=p
      exact AC ⟨co.siz,λb hb=>co.same b hb⟩ ⟨O,fc,fd⟩
     refine Ae.cons O O O ?_ ?_
     ·
      intro mq hh o
      have hsN:=o.st g
      exact LF.q 1 (QF.fao O Pw O (AE (AC (An.refl _) O)))
     refine Ae.cons O O O ?_ ?_
     ·
      intro mq hh o
      intro kx fe
      have hsN:=o.st g
      cases fe
      refine LF.q 1 (AI Af hsN O mh O TA O (AE ?_))
      have ff:=ca.mono (br.trans (o.ext g.1))
      exact AC (An.refl _) ff
     refine Ae.cons O O O ?_ ?_
     ·
      intro mq hh o
      have hsN:=o.st g
      exact LF.q 1 (QF.fao O CW O (AE (AC (An.refl _) O)))
     refine Ae.cons O O O ?_ ?_
     ·
      intro mq hh o
      intro ky fg
      have hsN:=o.st g
      cases fg
      exact LF.q 1 (AI Af hsN O (mt (mt (mt (mt mh)))) O AM O (AE (AC (An.refl _) ⟨O,bv⟩)))
     refine Ae.cons O O O ?_ ?_
     ·
      intro mq hh o
      intro fh bj kz fi
      have hsN:=SN.st g o
      have bj:=Rd.mono (S':=(SN am ah hh)) bj ⟨λb hb=> .inl hb,λ_ _=>rfl,Nat.le_refl _⟩
      have bj:Rd _ _ (AW.fn Tryz.prog (λx:Int=>([.int .i64 x]:List Value)) (λx:Int=>AB x) (λy:AF=> .agg #[.int .i64 y.Lo,.int .i64 y.Hi]) (λy:AF=>AF.ok y)) fh ap.asks:=bj
      obtain⟨rfl,fj⟩:=fi
      obtain⟨jv,jw,rfl,ds,dt⟩:=bj.fn
      refine LF.callb O O O ds O hsN (dt _ _ (λb hb=>hsN.1 b ((Bg.refl (SN am ah hh) hh).sub b hb)) (λb hb=>(Bg.refl (SN am ah hh) hh).same b hb) [] (St.all _) _ _ fj dn) λk0 k1 k2 jx k3 cp p=>?_
      obtain⟨rfl,⟨fk,fl⟩,jy⟩:=p
      exact AC ⟨cp.siz,λb hb=>cp.same b hb⟩ ⟨O,fk,fl⟩
     refine Ae.cons O O O ?_ ?_
     ·
      intro mq hh o
      have hsN:=o.st g
      exact LF.q 1 (QF.mv O O (AE (AC (An.refl _) O)))
     refine Ae.cons O O O ?_ ?_
     ·
      intro mq hh o
      intro k4 fm
      have hsN:=SN.st g o
      cases fm
      refine LF.callb O O O Ul O hsN (HU (St.all _) (hsN.bxAll (r:=AH) (x:=Y) (mt (mt (mt (mt mh)))) ⟨O,⟨bu,bv⟩⟩) (hsN.bxAll (r:=AW.int) (x:=a5) (mt (mt (mt mh))) ⟨O,b6⟩) (hsN.bxAll (r:=AW.int) (x:=a4) (mt (mt mh)) ⟨O,b5⟩) dp) λk5 k6 k7 jz k8 cq p=>?_
      obtain⟨rfl,⟨fo,fp⟩,j0⟩:=p
      exact AC ⟨cq.siz,λb hb=>cq.same b hb⟩ ⟨O,fo,fp⟩
     exact Ae.al O EH O O (Ae.al O EH O O (Ae.al O EH O O (Ae.skip (by kernel_rfl) (Ae.skip (by kernel_rfl) (Ae.skip (by kernel_rfl) (trivial))))))
    intro k9 cb la fq lb fr lc fs le ft lf fu lg fv bl
    obtain⟨lh,rfl,fw,fx,fy⟩:=ft
    obtain⟨li,rfl,fz,f0,f1⟩:=fu
    obtain⟨lj,rfl,f2,f3,f4⟩:=fv
    have du:=(L5.cons (L5.cons (L5.cons (L5.nil g cb) fw fx fy List.not_mem_nil) fz f0 f1 (N8 (bl.of_ (s:=15) (s':=14) (by kernel_rfl) O O O O) List.not_mem_nil)) f2 f3 f4 (N8 (bl.of_ (s:=16) (s':=15) (by kernel_rfl) O O O O) (N8 (bl.of_ (s:=16) (s':=14) (by kernel_rfl) O O O O) List.not_mem_nil))).st
    obtain⟨rfl,f5,f6⟩:=fq
    obtain⟨rfl,f7,f8⟩:=fr
    obtain⟨rfl,f9,ga⟩:=fs
    refine Ai (vs:=[.int .i64 ac.Lo,.int .i64 ac.Hi]) O O O O Ad O du (.tail (.tail .head)) O λll dv cr=>Ai (vs:=[.int .i64 ad.Lo,.int .i64 ad.Hi]) O O O O Ad O dv (.tail .head) O λlm dw ct=>Ai (vs:=[.int .i64 D.Lo,.int .i64 D.Hi]) O O O O Ad O dw .head O λlo aq cu=>LF.nil (kp [14,15,16,13,37,36,11,10,9,8,7,6,0,1,38] O) (WF.seq (WF.rl (LF.q 11 (QF.fao O DD O (AI Af aq O (mt (mt mh)) O AM O (QF.fao O DD O (AI Af aq O mh O AM O (QF.min O O O (QF.fao O CW O (AI Af aq O (mt mh) O AM O ?_))))))))))
    refine QF.fao O CW O (AI Af aq O mh O AM O (QF.min O O O (QF.bld (cs:=[.int .i64 (min ac.Lo D.Lo),.int .i64 (min ad.Hi D.Hi)]) GH O O O (AE (LF.al EH O aq λlp lq dx cv=>Ai (vs:=[.int .i64 (min ac.Lo D.Lo),.int .i64 (min ad.Hi D.Hi)]) O O O O Ad O dx .head O λlr a7 cw=>LF.nil (kp [17,14,15,13,37,36,11,10,9,8,7,6,0,1,38] O) (WF.seq (WF.rl (LF.q 6 (QF.mv O O (QF.fao O T0 O (AI Af a7 O (mt (mt (mt (mt mh)))) O AM O ?_)))))))))))
    refine QF.fao O Tz O (AI Af a7 O (mt (mt (mt (mt mh)))) O AM O (QF.ldo (vs:=[.int .i64 (min ac.Lo D.Lo),.int .i64 (min ad.Hi D.Hi)]) Af a7 O mh O O Ad O O (AE ?_)))
    have dy:=a7.sel [11,11,5,10,10,0,0,0,0,0,0,0,0,0,0] 0 O
    have Z:=e4.trans ((cf.ext C.1).trans (bm.trans ((bn.ext ab.1).trans (bw.trans (bx.trans (bz.trans (b0.trans (b3.trans (bq.trans (b9.trans (br.trans ((cb.ext g.1).trans (cr.trans (ct.trans (cu.trans (cv.trans cw))))))))))))))))
    have gb:=av.mono' Z
    have gc:=ai.mono' Z
    have ge:=ax.mono' Z
    have gf:=ay.mono' Z
    have gg:=az.mono' Z
    have gh:=a0.mono' Z
    have gi:=a1.mono' Z
    have gj:=a2.mono' Z
    obtain⟨gk,dz,E⟩:=bd E
    refine LF.call O O O Uk O (IR (p0_w:=({ p0_w with h:=({ p0_w.h with Queue:=bh}:Al)}:Ah)) dy au gb aw gc ge gf gg gh gi gj an ao e2 e3 (AH.mk (x:=(⟨(min ac.Lo D.Lo),(min ad.Hi D.Hi)⟩:AF)) ⟨(G5 f5 f9),(G5 f8 ga)⟩) dz) λls lt lu gl p=>?_
    obtain⟨gm,rfl,a8⟩:=p
    refine LF.nil (kp [14,15,13,37,36,11,10,9,8,7,6,0,1,38] O) (WF.seq (EG 7 mo (by kernel_rfl) O a8 (AI Ak a8 O (mt (mt (mt (mt (mt (mt (mt (mt (mt (mt (mt mh))))))))))) O AM O (QF.fao O CW O (AI Ak a8 O (mt (mt (mt (mt (mt (mt (mt (mt mh)))))))) O AM O (QF.fao O Px O (AI Ak a8 O (mt (mt (mt (mt (mt (mt (mt (mt (mt mh))))))))) O AM O ?_)))))))
    obtain⟨lv,d0,E⟩:=bd E
    refine Ao O O O Jk O (λh' o=>DP (St.all h') f6 cn d0) λgp=>?_
    have gq:=gp
    obtain⟨cx,d1,E⟩:=bd E
    refine Ao O O O Jk O (λh' o=>DP (St.all h') b6 gq d1) λgr=>?_
    have gs:=gr
    refine DX λlw d2 gu=>Ai (vs:=[.int .i64 cx]) O O O O AM O d2 (.tail (.tail (.tail (.tail (.tail (.tail (.tail (.tail (.tail (.tail (.tail .head))))))))))) O λlx a9 gv=>LF.nil (kp [15,13,37,36,11,10,9,8,7,6,0,1,38] O) (EG 7 mo (by kernel_rfl) O a9 (AI Ak a9 O (mt (mt (mt (mt (mt (mt (mt (mt (mt (mt mh)))))))))) O AM O (QF.fao O DD O (AI Ak a9 O (mt (mt (mt (mt (mt (mt (mt mh))))))) O AM O (QF.fao O Px O (AI Ak a9 O (mt (mt (mt (mt (mt (mt (mt (mt (mt mh))))))))) O AM O ?_))))))
    obtain⟨ly,d3,E⟩:=bd E
    refine Ao O O O Hg O (λh' o=>Cz (St.all h') f7 cn d3) λgw=>?_
    have gx:=gw
    obtain⟨cy,d4,E⟩:=bd E
    refine Ao O O O Jk O (λh' o=>DP (St.all h') b5 gx d4) λgz=>?_
    have g0:=gz
    refine DX λlz d5 g1=>Ai (vs:=[.int .i64 cy]) O O O O AM O d5 (.tail (.tail (.tail (.tail (.tail (.tail (.tail (.tail (.tail (.tail .head)))))))))) O λl0 d6 g2=>LF.nil (kp [37,36,11,10,9,8,7,6,0,1,38] O) (Ap (WF.rp (.inl O) (QF.addw O O O (QF.mv O O (AA (kp [38,37,36,11,10,9,8,7,6,0,1] O) (WF.nil (λaa ww hf hw=>?_)))))))
    have d7:=d6.sel [2,9,9,9,9,9,0,0,0,0] 5 O
    have d8:=bq.trans (b9.trans (br.trans ((cb.ext g.1).trans (cr.trans (ct.trans (cu.trans (cv.trans (cw.trans (gl.trans (gu.trans (gv.trans (g1.trans g2))))))))))))
    exact⟨(A3 (a3+1)),cy,cx,gm,gk,_,_,hf.sub (kp [37,36,11,10,9,8,7,6,0,1,38] O),hw,d7,d8,(BA _),g0,gs,E⟩
   ·
    have E:=A8 b7 E
    refine WF.exit O (λaa ww hf hw=>?_)
    exact⟨a4,a5,bp,bh,_,_,hf.sub (kp [11,7,6,0,1] O),hw,bk,bq,b5,b6,E⟩
 ·
  rintro aa ww ⟨bf,bg,b4,bo,l1,l2,hf,hw,ba,g3,g4,g5,E⟩
  refine WF.run ?_ hf hw
  clear hf hw ww aa
  rw[CM] at E
  refine WF.seq (WF.rl (LF.q 1 (QF.mv O O (AE ?_))))
  obtain⟨ae,d9,E⟩:=bd E
  refine LF.callb O O O Ul O ba (HU (St.all _) (ba.bxAll (r:=AH) (x:=Y) (mt (mt (mt mh))) ⟨O,⟨bu,bv⟩⟩) (ba.bxAll (r:=AW.int) (x:=bg) (mt (mt mh)) ⟨O,g5⟩) (ba.bxAll (r:=AW.int) (x:=bf) (mt mh) ⟨O,g4⟩) d9) λl3 l4 l5 ea g6 l6 p=>?_
  obtain⟨rfl,⟨cz,c0⟩,j1⟩:=p
  refine LF.al EH O ea λcc l7 eb g7=>Ai (vs:=[.int .i64 ae.Lo,.int .i64 ae.Hi]) O O O O Ad O eb .head O λg8 k g9=>LF.nil (kp [18,7,6,0,1] O) (WF.seq ?_)
  obtain⟨W,ec,E⟩:=bd E
  obtain⟨X,ed,E⟩:=bd E
  refine IX (m:=[(18,.pointer (some ⟨cc,0,none⟩)),(7,.pointer (some ⟨be,0,none⟩)),(6,.pointer (some ⟨b1,0,none⟩)),(0,.pointer (some ⟨c,0,none⟩)),(1,.int .i64 u)]) 14 (λi v hh=>match i with|0=>v= .pointer (some ⟨cc,0,none⟩)|1=>v= .int .i64 ae.Lo∧AB ae.Lo|2=>v= .pointer (some ⟨be,3,none⟩)|3=>v= .int .i64 A.Cap∧AB A.Cap|4=>v= .int .i64 W∧AB W|5=>v= .int .i64 (max 0 W)∧AB (max 0 W)|6=>v= .pointer (some ⟨cc,1,none⟩)|7=>v= .int .i64 ae.Hi∧AB ae.Hi|8=>v= .pointer (some ⟨be,3,none⟩)|9=>v= .int .i64 A.Cap∧AB A.Cap|10=>v= .int .i64 X∧AB X|11=>v= .int .i64 (max 0 X)∧AB (max 0 X)|12=>v= .agg #[.int .i64 (max 0 W),.int .i64 (max 0 X)]∧AB (max 0 W)∧AB (max 0 X)|13=>PK g8 51 [.int .i64 0,.int .i64 0] v hh|_=>False) [[],[(0,89)],[],[(2,91)],[(1,90),(3,92)],[(4,93)],[],[(6,95)],[],[(8,97)],[(7,96),(9,98)],[(10,99)],[(5,94),(11,100)],[]] [(12,101),(13,19)] mo (by kernel_rfl) [18,7,6,0,1] O (by kernel_rfl) (by kernel_rfl) (by kernel_rfl) (kp [18,7,6,0,1] O) (λi v h1 h2 o1 o2 hr=>?_) ?_ ?_
  ·match i,hr with
    |0,hr=>exact hr
    |1,hr=>exact hr
    |2,hr=>exact hr
    |3,hr=>exact hr
    |4,hr=>exact hr
    |5,hr=>exact hr
    |6,hr=>exact hr
    |7,hr=>exact hr
    |8,hr=>exact hr
    |9,hr=>exact hr
    |10,hr=>exact hr
    |11,hr=>exact hr
    |12,hr=>exact hr
    |13,hr=>exact hr.mono o2
    |_+14,hr=>exact hr.elim
  ·
   refine AQ.cons O ?_ ?_
   ·
    intro mq hh o
    have hsN:=o.st k
    exact LF.q 1 (QF.fao O DD O (AE (AC (An.refl _) O)))
   refine AQ.cons O ?_ ?_
   ·
    intro mq hh o
    intro l8 ha
    have hsN:=o.st k
    cases ha
    exact LF.q 1 (AI Af hsN O mh O AM O (AE (AC (An.refl _) ⟨O,cz⟩)))
   refine AQ.cons O ?_ ?_
   ·
    intro mq hh o
    have hsN:=o.st k
    exact LF.q 1 (QF.fao O Ko O (AE (AC (An.refl _) O)))
   refine AQ.cons O ?_ ?_
   ·
    intro mq hh o
    intro l9 hc
    have hsN:=o.st k
    cases hc
    exact LF.q 1 (AI Af hsN O (mt (mt (mt (mt (mt mh))))) O AM O (AE (AC (An.refl _) ⟨O,cj⟩)))
   refine AQ.cons O ?_ ?_
   ·
    intro mq hh o
    intro ma hd mb he
    have hsN:=SN.st k o
    obtain⟨rfl,hg⟩:=hd
    obtain⟨rfl,hj⟩:=he
    refine LF.callb O O O Hg O hsN (Cz (St.all _) hg hj ec) λmc md me j2 mf c1 p=>?_
    obtain⟨rfl,hk,j3⟩:=p
    exact AC ⟨c1.siz,λb hb=>c1.same b hb⟩ ⟨O,hk⟩
   refine AQ.cons O ?_ ?_
   ·
    intro mq hh o
    intro mg hl
    have hsN:=o.st k
    obtain⟨rfl,hm⟩:=hl
    exact LF.q 1 (QF.max O O O (AE (AC (An.refl _) ⟨O,(GB (iq (n:=0) O) hm)⟩)))
   refine AQ.cons O ?_ ?_
   ·
    intro mq hh o
    have hsN:=o.st k
    exact LF.q 1 (QF.fao O CW O (AE (AC (An.refl _) O)))
   refine AQ.cons O ?_ ?_
   ·
    intro mq hh o
    intro mi hn
    have hsN:=o.st k
    cases hn
    exact LF.q 1 (AI Af hsN O mh O AM O (AE (AC (An.refl _) ⟨O,c0⟩)))
   refine AQ.cons O ?_ ?_
   ·
    intro mq hh o
    have hsN:=o.st k
    exact LF.q 1 (QF.fao O Ko O (AE (AC (An.refl _) O)))
   refine AQ.cons O ?_ ?_
   ·
    intro mq hh o
    intro mj ho
    have hsN:=o.st k
    cases ho
    exact LF.q 1 (AI Af hsN O (mt (mt (mt (mt (mt mh))))) O AM O (AE (AC (An.refl _) ⟨O,cj⟩)))
   refine AQ.cons O ?_ ?_
   ·
    intro mq hh o
    intro ml hp mm hq
    have hsN:=SN.st k o
    obtain⟨rfl,ht⟩:=hp
    obtain⟨rfl,hu⟩:=hq
    refine LF.callb O O O Hg O hsN (Cz (St.all _) ht hu ed) λmn mp mr j4 ms c2 p=>?_
    obtain⟨rfl,hv,j5⟩:=p
    exact AC ⟨c2.siz,λb hb=>c2.same b hb⟩ ⟨O,hv⟩
   refine AQ.cons O ?_ ?_
   ·
    intro mq hh o
    intro mu hx
    have hsN:=o.st k
    obtain⟨rfl,hy⟩:=hx
    exact LF.q 1 (QF.max O O O (AE (AC (An.refl _) ⟨O,(GB (iq (n:=0) O) hy)⟩)))
   refine AQ.cons O ?_ ?_
   ·
    intro mq hh o
    intro mw hz mx h0
    have hsN:=o.st k
    obtain⟨rfl,h3⟩:=hz
    obtain⟨rfl,h4⟩:=h0
    exact LF.q 1 (QF.bld (cs:=[.int .i64 (max 0 W),.int .i64 (max 0 X)]) GH O O O (AE (AC (An.refl _) ⟨O,h3,h4⟩)))
   refine AQ.cons O ?_ ?_
   ·
    intro mq hh o
    exact PD o EH O λ_ h' o' r'=>AC o' r'
   exact trivial
  intro my c3 mz h5 m0 h6
  obtain⟨m1,rfl,ee⟩:=h6.st k c3
  obtain⟨rfl,c4,c5⟩:=h5
  refine Ai (vs:=[.int .i64 (max 0 W),.int .i64 (max 0 X)]) O O O O Ad O ee .head O λm2 bb h7=>LF.nil (kp [19,18,7,6,0,1] O) (WF.seq (WF.rl (LF.q 6 (QF.mv O O (QF.fao O M5 O (AI Af bb O (mt (mt (mt (mt (mt (mt mh)))))) O AM O (QF.fao O Oo O (AI Af bb O (mt (mt (mt (mt (mt (mt mh)))))) O AM O (QF.ldo (vs:=[.int .i64 (max 0 W),.int .i64 (max 0 X)]) Af bb O mh O O Ad O O (AE ?_))))))))))
  have ef:=bb.sel [8,8,2,7,7,0,0,0,0,0,0,0] 0 O
  have V:=e4.trans ((cf.ext C.1).trans (bm.trans ((bn.ext ab.1).trans (bw.trans (bx.trans (bz.trans (b0.trans (b3.trans (g3.trans (g6.trans (g7.trans (g9.trans ((c3.ext k.1).trans h7)))))))))))))
  have h8:=av.mono' V
  have h9:=ai.mono' V
  have ia:=ax.mono' V
  have ib:=ay.mono' V
  have ic:=az.mono' V
  have ie:=a0.mono' V
  have ig:=a1.mono' V
  have ih:=a2.mono' V
  obtain⟨m3,eg,E⟩:=bd E
  refine LF.call O O O Uk O (IR (p0_w:=({ p0_w with h:=({ p0_w.h with Queue:=bo}:Al)}:Ah)) ef au h8 aw h9 ia ib ic ie ig ih an ao jm jn (AH.mk (x:=(⟨(max 0 W),(max 0 X)⟩:AF)) ⟨c4,c5⟩) eg) λm4 m5 m6 ii p=>?_
  obtain⟨m7,rfl,ag⟩:=p
  refine LF.nil (kp [19,18,7,6,0,1] O) (WF.seq (No 18 mo (by kernel_rfl) O (QF.mv O O (Dy O O (QF.fao O D1 O (QF.fao O FV O (AI Af ag O mh O FH O (QF.mv O O (QF.fao O DD O (AI Af ag O (mt (mt (mt (mt (mt (mt mh)))))) O AM O (QF.fao O Ko O (AI Af ag O (mt (mt (mt (mt (mt (mt (mt (mt (mt (mt mh)))))))))) O AM O (QF.min O O O ?_)))))))))))))
  refine QF.fao O CW O (AI Af ag O (mt (mt (mt (mt (mt (mt mh)))))) O AM O (QF.fao O Ko O (AI Af ag O (mt (mt (mt (mt (mt (mt (mt (mt (mt (mt mh)))))))))) O AM O (QF.min O O O (QF.bld (cs:=[.int .i64 (min ae.Lo A.Cap),.int .i64 (min ae.Hi A.Cap)]) GH O O O ?_)))))
  obtain⟨m8,eh,E⟩:=bd E
  refine QF.ixoe ag (mt mh) O O DY eh O λm9 ei=>AE ?_
  obtain⟨ij,ej,E⟩:=bd E
  refine LF.ste (r:=AH) (l:=p0_w.h.Vol) (i:=u) (x:=ij) O O (AH.mk (x:=(⟨(min ae.Lo A.Cap),(min ae.Hi A.Cap)⟩:AF)) ⟨(G5 cz cj),(G5 c0 cj)⟩) ei ej L0.id Ad (λe=>by cases e) ag (.tail .head) λna cd ik=>LF.nil (kp [19,6] O) (WF.seq (WF.rl (LF.q 1 (QF.ldo (vs:=[.int .i64 (max 0 W),.int .i64 (max 0 X)]) Af cd O (mt (mt (mt (mt (mt mh))))) O O Ad O O (AE (Ai (vs:=[.int .i64 (max 0 W),.int .i64 (max 0 X)]) O O O O Ad O cd (.tail (.tail (.tail (.tail (.tail (.tail (.tail (.tail (.tail (.tail (.tail .head))))))))))) O λnd ek il=>LF.nil (kp [6] O) (WF.ret (λaa ww hf hw=>?_))))))))
  have ce:=ek.sel [11,0,0,0,0,0] 6 O
  have el:=ce.sel [1,1,1,1,1] 1 O
  cases E
  have em:=V.trans (ii.trans (ik.trans il))
  exact Hq hf O hw (Gr (MA hf hw ce O mh Ad O) HY) O em ⟨_,_,O,⟨c4,c5⟩,el⟩
end Go.Proofs.YtibidnaedddfdaaGreat
