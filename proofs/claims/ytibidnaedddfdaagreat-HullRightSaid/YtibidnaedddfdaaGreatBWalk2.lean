import Derived.Test.YtibidnaedddfdaaGreatBWalk1
namespace Go.Proofs.YtibidnaedddfdaaGreat
open Go.RowKit
set_option linter.unusedVariables false
set_option linter.unusedSimpArgs false
set_option maxRecDepth 10000
set_option maxHeartbeats 2000000
variable {N:Nat}{S:Nat→Prop}{L:List HP}{h:Ac}
theorem Jy (hs:St S L h) {p0_:Int}(i:AB p0_) {a:Value}{c1_:HB}(c:Pt S h GX a c1_) {r:AF}(E:Cb N c1_ p0_=some r):
 Bh Tryz.prog 108 #[.int .i64 p0_,a] S h (λv S' h'=>v= .agg #[.int .i64 r.Lo,.int .i64 r.Hi]∧AF.ok r∧St S' (L) h'):=by
 refine Ag (l:=[.int .i64 p0_,a]) 7 Tryz.func108 O Tryz.ntmps108 O λB=>?_
 rw[Cb] at E
 refine WF.seq (WF.rl (LF.al EH O hs λs t d k=>LF.nil (kp [3,1] O) (WF.seq (WF.rl (LF.q 3 ?_)))))
 have m:=c.mono k
 refine QF.fa O m HB.f_Litres Pv O λu o=>QF.ldi Af d.1 O o AM O λp=>QF.bld (cs:=[.int .i64 0,.int .i64 c1_.Litres]) GH O O O (AE (Ai (vs:=[.int .i64 0,.int .i64 c1_.Litres]) O O O O Ad O d .head O λw b j=>LF.nil (kp [3] O) (WF.ret (λaa ww hf hw=>?_))))
 have g:=b.drop .head
 cases E
 exact Hq hf O hw (Gr (MA hf hw b O mh Ad O) HY) O (k.trans j) ⟨O,⟨(iq (n:=0) O),p⟩,g⟩
theorem H6 (hs:St S L h) {a:Int}(c:IntKind.has .u64 a) {b:Int}(d:IntKind.has .u64 b) {r:Int×Int}(E:EV N a b=some r):
 Bh Tryz.prog 142 #[.int .u64 a,.int .u64 b] S h (λv S' h'=>v= .tuple #[.int .u64 r.1,.int .u64 r.2]∧IntKind.has .u64 r.1∧IntKind.has .u64 r.2∧St S' (L) h'):=by
 refine Ag (l:=[.int .u64 a,.int .u64 b]) 51 Tryz.func142 O Tryz.ntmps142 O λB=>?_
 rw[EV] at E
 refine WF.seq (WF.rp (.inl O) (QF.as_ O O (QF.as_ O O (AA (kp [0,1] O) (WF.seq (WF.rp (.inl O) (QF.mv O O (QF.andk O O O (QF.as_ O O (AA (kp [6,0,1] O) (WF.seq (WF.rp (.inl O) (QF.mv O O ?_)))))))))))))
 refine QF.shrk (j:=32) O O O O (QF.as_ O O (AA (kp [7,6,0,1] O) (WF.seq (WF.rp (.inl O) (QF.mv O O (QF.andk O O O (QF.as_ O O (AA (kp [8,7,6,0,1] O) (WF.seq (WF.rp (.inl O) (QF.mv O O (QF.shrk (j:=32) O O O O (QF.as_ O O ?_)))))))))))))
 refine AA (kp [9,8,7,6,0,1] O) (WF.seq (WF.rp (.inl O) (QF.mv O O (QF.mv O O (QF.mulk O O O (QF.as_ O O (AA (kp [10,9,8,7,6,0,1] O) (WF.seq (WF.rp (.inl O) (QF.mv O O (QF.mv O O (QF.mulk O O O (QF.mv O O ?_)))))))))))))
 refine QF.shrk (j:=32) O O O O (QF.addk O O O (QF.as_ O O (AA (kp [11,9,7,6,0,1] O) (WF.seq (WF.rp (.inl O) (QF.mv O O (QF.andk O O O (QF.as_ O O (AA (kp [12,11,9,7,6,0,1] O) (WF.seq (WF.rp (.inl O) (QF.mv O O (QF.shrk (j:=32) O O O O ?_)))))))))))))
 refine QF.as_ O O (AA (kp [13,12,9,7,6,0,1] O) (WF.seq (WF.rp (.inl O) (QF.mv O O (QF.mv O O (QF.mv O O (QF.mulk O O O (QF.addk O O O (QF.as_ O O (AA (kp [12,13,9,7,0,1] O) (WF.seq (WF.rp (.inl O) (QF.mv O O ?_)))))))))))))
 refine QF.mv O O (QF.mulk O O O (QF.mv O O (QF.addk O O O (QF.mv O O (QF.shrk (j:=32) O O O O (QF.addk O O O (QF.as_ O O (AA (kp [4,0,1] O) (WF.seq (WF.rp (.inl O) (QF.mv O O (QF.mv O O (QF.mulk O O O ?_)))))))))))))
 refine QF.as_ O O (AA (kp [5,4] O) (WF.ret (λaa ww hf hw=>?_)))
 cases E
 exact Hq hf O hw (Gr (Js hf (v:=_) O) (Gr (Js hf (v:=_) O) HY)) O (Bg.refl S h) ⟨O,(C8 _ _),(C8 _ _),hs⟩
theorem Kz (hs:St S L h) {b:Int}(c:IntKind.has .u64 b) {r:Int}(E:FK N b=some r):
 Bh Tryz.prog 184 #[.int .u64 b] S h (λv S' h'=>v= .int .i64 r∧AB r∧St S' (L) h'):=by
 refine Ag (l:=[.int .u64 b]) 25 Tryz.func184 O Tryz.ntmps184 O λB=>?_
 rw[FK] at E
 refine WF.seq (WF.rp (.inl O) (QF.as_ O O (AA (kp [2,0] O) (WF.seq (WF.seq (WF.rp (.inl O) (QF.mv O O (QF.geq O O O (AA (kp [4,2,0] O) (WF.cut (λa w=>∃(u:Int) (x:Int),IV B S h (25,[]) a w [(0,.int .u64 u),(2,.int .i64 x)] (L) λ_ _=>IntKind.has .u64 u∧AB x∧Dp N u x=some r) ?_ ?_))))))))))
 ·
  refine WF.if_ O (λD=>?_) (λD=>?_)
  ·
   have E:=A7 D E
   refine WF.seq (WF.rp (.inl O) (QF.mv O O (QF.shrk (j:=32) O O O O (QF.as_ O O (AA (kp [0] O) (WF.rp (.inl O) (QF.as_ O O (AA (kp [2,0] O) (WF.nil (λaa ww hf hw=>?_))))))))))
   exact⟨(Cg .u64 b 32),32,_,_,hf.sub (kp [0,2] O),hw,hs,(Bg.refl S h),(M1 _ c _),(iq (n:=32) O),E⟩
  ·
   have E:=A8 D E
   refine WF.skip (WF.nil (λaa ww hf hw=>?_))
   exact⟨b,0,_,_,hf.sub (kp [0,2] O),hw,hs,(Bg.refl S h),c,(iq (n:=0) O),E⟩
 ·
  rintro aa ww ⟨u,x,F,G,hf,hw,y,M,K,Q,E⟩
  refine WF.run ?_ hf hw
  clear hf hw ww aa
  rw[Dp] at E
  refine WF.seq (WF.seq (WF.rp (.inl O) (QF.mv O O (QF.geq O O O (AA (kp [8,0,2] O) (WF.cut (λa w=>∃(d:Int) (g:Int),IV B F G (25,[]) a w [(0,.int .u64 d),(2,.int .i64 g)] (L) λ_ _=>IntKind.has .u64 d∧AB g∧Do N d g=some r) ?_ ?_))))))
  ·
   refine WF.if_ O (λp=>?_) (λp=>?_)
   ·
    have E:=A7 p E
    refine WF.seq (WF.rp (.inl O) (QF.mv O O (QF.shrk (j:=16) O O O O (QF.as_ O O (AA (kp [0,2] O) (WF.rp (.inl O) (QF.mv O O (QF.addw O O O (QF.as_ O O (AA (kp [2,0] O) (WF.nil (λaa ww hf hw=>?_))))))))))))
    exact⟨(Cg .u64 u 16),(A3 (x+16)),_,_,hf.sub (kp [0,2] O),hw,y,(Bg.refl F G),(M1 _ K _),(BA _),E⟩
   ·
    have E:=A8 p E
    refine WF.skip (WF.nil (λaa ww hf hw=>?_))
    exact⟨u,x,_,_,hf.sub (kp [0,2] O),hw,y,(Bg.refl F G),K,Q,E⟩
  ·
   rintro aa ww ⟨d,g,q,s,hf,hw,m,H,z,I,E⟩
   refine WF.run ?_ hf hw
   clear hf hw ww aa
   rw[Do] at E
   refine WF.seq (WF.seq (WF.rp (.inl O) (QF.mv O O (QF.geq O O O (AA (kp [14,0,2] O) (WF.cut (λa w=>∃(i:Int) (k:Int),IV B q s (25,[]) a w [(0,.int .u64 i),(2,.int .i64 k)] (L) λ_ _=>IntKind.has .u64 i∧AB k∧Dn N i k=some r) ?_ ?_))))))
   ·
    refine WF.if_ O (λt=>?_) (λt=>?_)
    ·
     have E:=A7 t E
     refine WF.seq (WF.rp (.inl O) (QF.mv O O (QF.shrk (j:=8) O O O O (QF.as_ O O (AA (kp [0,2] O) (WF.rp (.inl O) (QF.mv O O (QF.addw O O O (QF.as_ O O (AA (kp [2,0] O) (WF.nil (λaa ww hf hw=>?_))))))))))))
     exact⟨(Cg .u64 d 8),(A3 (g+8)),_,_,hf.sub (kp [0,2] O),hw,m,(Bg.refl q s),(M1 _ z _),(BA _),E⟩
    ·
     have E:=A8 t E
     refine WF.skip (WF.nil (λaa ww hf hw=>?_))
     exact⟨d,g,_,_,hf.sub (kp [0,2] O),hw,m,(Bg.refl q s),z,I,E⟩
   ·
    rintro aa ww ⟨i,k,U,V,hf,hw,A,J,W,X,E⟩
    refine WF.run ?_ hf hw
    clear hf hw ww aa
    rw[Dn] at E
    refine WF.seq (WF.rp (.inl O) (QF.mv O O (QF.mv O O (QF.convk O Ix Xv O ?_))))
    obtain⟨Y,o,E⟩:=bd E
    have Z:=Lz o
    refine QF.bixk O O Nv o O (QF.convk O Xv LH O (QF.addw O O O (QF.as_ O O (AA (kp [2] O) (WF.ret (λaa ww hf hw=>?_))))))
    cases E
    have C:=M.trans (H.trans J)
    exact DC hf hw O O C ⟨O,(BA _),A⟩
theorem Hx (hs:St S L h) {a:Int}(b:IntKind.has .u64 a) {r:Int}(E:DE N a=some r):
 Bh Tryz.prog 171 #[.int .u64 a] S h (λv S' h'=>v= .int .i64 r∧AB r∧St S' (L) h'):=by
 refine Ag (l:=[.int .u64 a]) 6 Tryz.func171 O Tryz.ntmps171 O λB=>?_
 rw[DE] at E
 refine WF.seq (WF.rp (.inl O) (QF.as_ O O (AA (kp [0] O) (WF.seq (WF.rc (.inl O) hs (QF.mv O O ?_))))))
 obtain⟨j,c,E⟩:=bd E
 refine Ao O O O W7 O (λh' o=>Kz (St.all h') b c) λg=>?_
 have k:=g
 refine QF.subw O O O (QF.as_ O O (Aq (kp [2] O) λm d i=>WF.ret (λaa ww hf hw=>?_)))
 cases E
 exact DC hf hw O O i ⟨O,(BA _),d⟩
theorem H7 (hs:St S L h) {d:Int}(Y:IntKind.has .u64 d) {b:Int}(u:IntKind.has .u64 b) {c:Int}(z:IntKind.has .u64 c) {r:Int×Int}(E:Dc N d b c=some r):
 Bh Tryz.prog 143 #[.int .u64 d,.int .u64 b,.int .u64 c] S h (λv S' h'=>v= .tuple #[.int .u64 r.1,.int .u64 r.2]∧IntKind.has .u64 r.1∧IntKind.has .u64 r.2∧St S' (L) h'):=by
 refine Ag (l:=[.int .u64 d,.int .u64 b,.int .u64 c]) 135 Tryz.func143 O Tryz.ntmps143 O λB=>?_
 rw[Dc] at E
 refine WF.seq (WF.rp (.inl O) (QF.as_ O O (QF.as_ O O (AA (kp [0,1,2] O) (WF.seq (WF.seq (WF.rp (.inl O) (QF.mv O O (QF.eql O O O (AA (kp [20,0,1,2] O) (WF.if_ O (λc1=>?_) (λc1=>?_))))))))))))
 ·
  have E:=A7 c1 E
  cases E
 ·
  have E:=A8 c1 E
  refine WF.skip (WF.seq (WF.seq (WF.rp (.inl O) (QF.mv O O (QF.mv O O (QF.leq O O O (AA (kp [24,0,1,2] O) (WF.if_ O (λc2=>?_) (λc2=>?_)))))))))
  ·
   have E:=A7 c2 E
   cases E
  ·
   have E:=A8 c2 E
   refine WF.skip (WF.seq (WF.seq (WF.rp (.inl O) (QF.mv O O (QF.eql O O O (AA (kp [27,0,1,2] O) (WF.if_ O (λc3=>?_) (λc3=>?_))))))))
   ·
    have E:=A7 c3 E
    refine WF.seq (WF.rp (.inr ⟨mo,by kernel_rfl⟩) (QF.mv O O (QF.mv O O ?_)))
    obtain⟨z4,Z,E⟩:=bd E
    have r5:IntKind.has .u64 z4:=KK Z
    refine QF.quok O O O Z (QF.mv O O (QF.mv O O ?_))
    obtain⟨z6,ab,E⟩:=bd E
    have r7:IntKind.has .u64 z6:=TY u ab
    refine QF.remk O O O ab (QF.as_ O O (QF.as_ O O (AA (kp [7,6] O) (WF.ret (λaa ww hf hw=>?_)))))
    cases E
    exact Hq hf O hw (Gr (Js hf (v:=_) O) (Gr (Js hf (v:=_) O) HY)) O (Bg.refl S h) ⟨O,r5,r7,hs⟩
   ·
    have E:=A8 c3 E
    refine WF.skip (WF.seq (WF.rc (.inl O) hs (QF.mv O O ?_)))
    obtain⟨C,am,E⟩:=bd E
    refine Ao O O O XC O (λh' o=>Hx (St.all h') z am) λr9=>?_
    have ax:=r9
    refine QF.convk O LH M9 O (QF.as_ O O (Aq (kp [8,0,1,2] O) λG ac an=>WF.seq (WF.rp (.inl O) (QF.mv O O (QF.mv O O ?_)))))
    obtain⟨g,ad,E⟩:=bd E
    refine QF.shlk (j:=g) O O O ad (QF.as_ O O (AA (kp [2,8,0,1] O) (WF.seq (WF.rp (.inl O) (QF.mv O O (QF.shrk (j:=32) O O O O (QF.as_ O O (AA (kp [9,2,8,0,1] O) (WF.seq (WF.rp (.inl O) (QF.mv O O (QF.andk O O O (QF.as_ O O ?_)))))))))))))
    refine AA (kp [10,9,2,8,0,1] O) (WF.seq (WF.rp (.inl O) (QF.mv O O (QF.mv O O ?_))))
    obtain⟨k,ae,E⟩:=bd E
    refine QF.shlk (j:=k) O O O ae (QF.mv O O (QF.mv O O (QF.subk O O O ?_)))
    obtain⟨m,af,E⟩:=bd E
    refine QF.shrk (j:=m) O O O af (QF.ork O O O (QF.as_ O O (AA (kp [11,10,9,2,8,1] O) (WF.seq (WF.rp (.inl O) (QF.mv O O (QF.mv O O ?_)))))))
    obtain⟨i,ag,E⟩:=bd E
    refine QF.shlk (j:=i) O O O ag (QF.as_ O O (AA (kp [12,11,10,9,2,8] O) (WF.seq (WF.rp (.inl O) (QF.mv O O (QF.shrk (j:=32) O O O O (QF.as_ O O (AA (kp [13,12,11,10,9,2,8] O) (WF.seq (WF.rp (.inl O) (QF.mv O O (QF.andk O O O (QF.as_ O O ?_)))))))))))))
    refine AA (kp [14,13,11,10,9,2,8] O) (WF.seq (WF.rp (.inl O) (QF.mv O O (QF.mv O O ?_))))
    obtain⟨H,D,E⟩:=bd E
    have ao:IntKind.has .u64 H:=KK D
    refine QF.quok O O O D (QF.as_ O O (AA (kp [15,14,13,11,10,9,2,8] O) (WF.seq (WF.rp (.inl O) (QF.mv O O (QF.mv O O (QF.mv O O (QF.mulk O O O (QF.subk O O O (QF.as_ O O (AA (kp [16,15,14,13,11,10,9,2,8] O) (WF.seq (WF.blockJ (λa w=>∃(n:Int),IV B S G (135,[]) a w [(14,.int .u64 (E4 .and .u64 (CF .u64 b i) 4294967295)),(13,.int .u64 (Cg .u64 (CF .u64 b i) 32)),(11,.int .u64 (E4 .or .u64 (CF .u64 d k) (Cg .u64 b m))),(10,.int .u64 (E4 .and .u64 (CF .u64 c g) 4294967295)),(9,.int .u64 (Cg .u64 (CF .u64 c g) 32)),(2,.int .u64 (CF .u64 c g)),(8,.int .u64 (IntKind.wrap .u64 C)),(15,.int .u64 n)] (L) λ_ _=>IntKind.has .u64 n∧CJ N d b c C g k m i n=some r) ?_ ?_)))))))))))))
    ·
     refine WF.loopF (λn1=>λa w=>∃(p:Int) (s:Int),IV B S G (135,[]) a w [(14,.int .u64 (E4 .and .u64 (CF .u64 b i) 4294967295)),(13,.int .u64 (Cg .u64 (CF .u64 b i) 32)),(11,.int .u64 (E4 .or .u64 (CF .u64 d k) (Cg .u64 b m))),(10,.int .u64 (E4 .and .u64 (CF .u64 c g) 4294967295)),(9,.int .u64 (Cg .u64 (CF .u64 c g) 32)),(2,.int .u64 (CF .u64 c g)),(8,.int .u64 (IntKind.wrap .u64 C)),(15,.int .u64 p),(16,.int .u64 s)] (L) λ_ _=>IntKind.has .u64 p∧IntKind.has .u64 s∧Bu N b c g i (CJ N d b c C g k m i) n1 p s=some r) N ?_ ?_ ?_
     ·
      intro aa ww hf hw
      exact⟨H,(IntKind.wrap .u64 ((E4 .or .u64 (CF .u64 d k) (Cg .u64 b m))-(IntKind.wrap .u64 (H*(Cg .u64 (CF .u64 c g) 32))))),_,_,hf.sub (kp [14,13,11,10,9,2,8,15,16] O),hw,ac,(Bg.refl S G),ao,(C8 _ _),E⟩
     ·
      rintro aa ww ⟨_,_,_,_,_,_,_,_,_,_,E⟩
      rw[Bu] at E;cases E
     ·
      rintro n1 aa ww ⟨p,s,ay,az,hf,hw,x,I,ap,a0,E⟩
      refine WF.run ?_ hf hw
      clear hf hw ww aa
      rw[Bu] at E
      refine WF.seq (WF.seq (WF.rp (.inl O) (QF.mv O O (QF.geq O O O (QF.mv O O (QF.cutv 9 78 (.bool ((decide (4294967296≤p))||(decide ((IntKind.wrap .u64 ((IntKind.wrap .u64 (4294967296*s))+(Cg .u64 (CF .u64 b i) 32)))<(IntKind.wrap .u64 (p*(E4 .and .u64 (CF .u64 c g) 4294967295))))))) ?_ ?_))))))
      ·
       cases a1:(decide (4294967296≤p))
       ·
        refine QF.gy O O O (QF.mv O O (QF.gy O O O (QF.mv O O (QF.gy O O O (QF.mulk O O O (QF.gy O O O (QF.mv O O (QF.gy O O O (QF.mulk O O O (QF.gy O O O (QF.mv O O (QF.gy O O O (QF.addk O O O ?_)))))))))))))
        exact QF.gy O O O (QF.gtr O O O (QF.pick O O O (AJ O)))
       ·exact AL O O
      refine AA (kp [78,14,13,11,10,9,2,8,15,16] O) (WF.if_ O (λJ=>?_) (λJ=>?_))
      ·
       have E:=A7 J E
       refine WF.skip (WF.block (WF.seq (WF.rp (.inl O) (QF.mv O O (QF.subk O O O (QF.as_ O O (AA (kp [15,14,13,11,10,9,2,8,16] O) (WF.seq (WF.rp (.inl O) (QF.mv O O (QF.mv O O (QF.addk O O O (QF.as_ O O ?_)))))))))))))
       refine AA (kp [16,15,14,13,11,10,9,2,8] O) (WF.seq (WF.rp (.inl O) (QF.mv O O (QF.geq O O O (AA (kp [85,16,15,14,13,11,10,9,2,8] O) (WF.if_ O (λK=>?_) (λK=>?_)))))))
       ·
        have E:=A7 K E
        refine WF.exit O (λaa ww hf hw=>?_)
        exact⟨(IntKind.wrap .u64 (p-1)),_,_,hf.sub (kp [14,13,11,10,9,2,8,15] O),hw,x,I,(C8 _ _),E⟩
       ·
        have E:=A8 K E
        refine WF.skip (Ap (WF.nil (λaa ww hf hw=>?_)))
        exact⟨(IntKind.wrap .u64 (p-1)),(IntKind.wrap .u64 (s+(Cg .u64 (CF .u64 c g) 32))),_,_,hf.sub (kp [14,13,11,10,9,2,8,15,16] O),hw,x,I,(C8 _ _),(C8 _ _),E⟩
      ·
       have E:=A8 J E
       refine WF.exit O (λaa ww hf hw=>?_)
       exact⟨p,_,_,hf.sub (kp [14,13,11,10,9,2,8,15] O),hw,x,I,ap,E⟩
    ·
     rintro aa ww ⟨n,M,Q,hf,hw,ah,aq,a2,E⟩
     refine WF.run ?_ hf hw
     clear hf hw ww aa
     rw[CJ] at E
     refine WF.seq (WF.rp (.inl O) (QF.mv O O (QF.mulk O O O (QF.mv O O (QF.addk O O O (QF.mv O O (QF.mv O O (QF.mulk O O O (QF.subk O O O (QF.as_ O O (AA (kp [17,14,10,9,2,8,15] O) (WF.seq (WF.rp (.inl O) ?_)))))))))))))
     refine QF.mv O O (QF.mv O O ?_)
     obtain⟨U,F,E⟩:=bd E
     have ar:IntKind.has .u64 U:=KK F
     refine QF.quok O O O F (QF.as_ O O (AA (kp [18,17,14,10,9,2,8,15] O) (WF.seq (WF.rp (.inl O) (QF.mv O O (QF.mv O O (QF.mv O O (QF.mulk O O O (QF.subk O O O (QF.as_ O O (AA (kp [16,18,17,14,10,9,2,8,15] O) (WF.seq (WF.blockJ (λa w=>∃(A:Int),IV B M Q (135,[]) a w [(17,.int .u64 (IntKind.wrap .u64 ((IntKind.wrap .u64 ((IntKind.wrap .u64 ((E4 .or .u64 (CF .u64 d k) (Cg .u64 b m))*4294967296))+(Cg .u64 (CF .u64 b i) 32)))-(IntKind.wrap .u64 (n*(CF .u64 c g)))))),(14,.int .u64 (E4 .and .u64 (CF .u64 b i) 4294967295)),(2,.int .u64 (CF .u64 c g)),(8,.int .u64 (IntKind.wrap .u64 C)),(15,.int .u64 n),(18,.int .u64 A)] (L) λ_ _=>IntKind.has .u64 A∧DF N d b c C g k m i n A=some r) ?_ ?_)))))))))))))
     ·
      refine WF.loopF (λn3=>λa w=>∃(t:Int) (q:Int),IV B M Q (135,[]) a w [(17,.int .u64 (IntKind.wrap .u64 ((IntKind.wrap .u64 ((IntKind.wrap .u64 ((E4 .or .u64 (CF .u64 d k) (Cg .u64 b m))*4294967296))+(Cg .u64 (CF .u64 b i) 32)))-(IntKind.wrap .u64 (n*(CF .u64 c g)))))),(14,.int .u64 (E4 .and .u64 (CF .u64 b i) 4294967295)),(10,.int .u64 (E4 .and .u64 (CF .u64 c g) 4294967295)),(9,.int .u64 (Cg .u64 (CF .u64 c g) 32)),(2,.int .u64 (CF .u64 c g)),(8,.int .u64 (IntKind.wrap .u64 C)),(15,.int .u64 n),(16,.int .u64 t),(18,.int .u64 q)] (L) λ_ _=>IntKind.has .u64 t∧IntKind.has .u64 q∧CI N b c g i (DF N d b c C g k m i n) n3 t q=some r) N ?_ ?_ ?_
      ·
       intro aa ww hf hw
       exact⟨(IntKind.wrap .u64 ((IntKind.wrap .u64 ((IntKind.wrap .u64 ((IntKind.wrap .u64 ((E4 .or .u64 (CF .u64 d k) (Cg .u64 b m))*4294967296))+(Cg .u64 (CF .u64 b i) 32)))-(IntKind.wrap .u64 (n*(CF .u64 c g)))))-(IntKind.wrap .u64 (U*(Cg .u64 (CF .u64 c g) 32))))),U,_,_,hf.sub (kp [17,14,10,9,2,8,15,16,18] O),hw,ah,(Bg.refl M Q),(C8 _ _),ar,E⟩
      ·
       rintro aa ww ⟨_,_,_,_,_,_,_,_,_,_,E⟩
       rw[CI] at E;cases E
      ·
       rintro n3 aa ww ⟨t,q,a3,a4,hf,hw,y,V,a5,au,E⟩
       refine WF.run ?_ hf hw
       clear hf hw ww aa
       rw[CI] at E
       refine WF.seq (WF.seq (WF.rp (.inl O) (QF.mv O O (QF.geq O O O (QF.mv O O (QF.cutv 9 113 (.bool ((decide (4294967296≤q))||(decide ((IntKind.wrap .u64 ((IntKind.wrap .u64 (4294967296*t))+(E4 .and .u64 (CF .u64 b i) 4294967295)))<(IntKind.wrap .u64 (q*(E4 .and .u64 (CF .u64 c g) 4294967295))))))) ?_ ?_))))))
       ·
        cases a6:(decide (4294967296≤q))
        ·
         refine QF.gy O O O (QF.mv O O (QF.gy O O O (QF.mv O O (QF.gy O O O (QF.mulk O O O (QF.gy O O O (QF.mv O O (QF.gy O O O (QF.mulk O O O (QF.gy O O O (QF.mv O O (QF.gy O O O (QF.addk O O O ?_)))))))))))))
         exact QF.gy O O O (QF.gtr O O O (QF.pick O O O (AJ O)))
        ·exact AL O O
       refine AA (kp [113,17,14,10,9,2,8,15,16,18] O) (WF.if_ O (λW=>?_) (λW=>?_))
       ·
        have E:=A7 W E
        refine WF.skip (WF.block (WF.seq (WF.rp (.inl O) (QF.mv O O (QF.subk O O O (QF.as_ O O (AA (kp [18,17,14,10,9,2,8,15,16] O) (WF.seq (WF.rp (.inl O) (QF.mv O O (QF.mv O O (QF.addk O O O (QF.as_ O O ?_)))))))))))))
        refine AA (kp [16,18,17,14,10,9,2,8,15] O) (WF.seq (WF.rp (.inl O) (QF.mv O O (QF.geq O O O (AA (kp [120,16,18,17,14,10,9,2,8,15] O) (WF.if_ O (λX=>?_) (λX=>?_)))))))
        ·
         have E:=A7 X E
         refine WF.exit O (λaa ww hf hw=>?_)
         exact⟨(IntKind.wrap .u64 (q-1)),_,_,hf.sub (kp [17,14,2,8,15,18] O),hw,y,V,(C8 _ _),E⟩
        ·
         have E:=A8 X E
         refine WF.skip (Ap (WF.nil (λaa ww hf hw=>?_)))
         exact⟨(IntKind.wrap .u64 (t+(Cg .u64 (CF .u64 c g) 32))),(IntKind.wrap .u64 (q-1)),_,_,hf.sub (kp [17,14,10,9,2,8,15,16,18] O),hw,y,V,(C8 _ _),(C8 _ _),E⟩
       ·
        have E:=A8 W E
        refine WF.exit O (λaa ww hf hw=>?_)
        exact⟨q,_,_,hf.sub (kp [17,14,2,8,15,18] O),hw,y,V,au,E⟩
     ·
      rintro aa ww ⟨A,a7,a8,hf,hw,ai,av,a9,E⟩
      refine WF.run ?_ hf hw
      clear hf hw ww aa
      rw[DF] at E
      refine WF.seq (WF.rp (.inl O) (QF.mv O O (QF.mulk O O O (QF.mv O O (QF.addk O O O (QF.mv O O (QF.mulk O O O (QF.mv O O (QF.addk O O O (QF.mv O O (QF.mv O O (QF.mulk O O O (QF.subk O O O ?_)))))))))))))
      refine QF.mv O O ?_
      obtain⟨aw,aj,E⟩:=bd E
      refine QF.shrk (j:=aw) O O O aj (QF.as_ O O (QF.as_ O O (AA (kp [7,6] O) (WF.ret (λaa ww hf hw=>?_)))))
      cases E
      have ak:=an.trans (aq.trans av)
      exact Hq hf O hw (Gr (Js hf (v:=_) O) (Gr (Js hf (v:=_) O) HY)) O ak ⟨O,(C8 _ _),(M1 _ (C8 _ _) _),ai⟩
theorem Gy (hs:St S L h) {b:Int}(w:AB b) {a:Int}(q:AB a) {c:Int}(s:AB c) {r:Int×Int×Bool}(E:Dz N b a c=some r):
 Bh Tryz.prog 152 #[.int .i64 b,.int .i64 a,.int .i64 c] S h (λv S' h'=>v= .tuple #[.int .i64 r.1,.int .i64 r.2.1,.bool r.2.2]∧AB r.1∧AB r.2.1∧St S' (L) h'):=by
 refine Ag (l:=[.int .i64 b,.int .i64 a,.int .i64 c]) 61 Tryz.func152 O Tryz.ntmps152 O λB=>?_
 rw[Dz] at E
 refine WF.seq (WF.rp (.inl O) (QF.as_ O O (QF.as_ O O (QF.as_ O O (AA (kp [0,1,2] O) (WF.seq (WF.seq (WF.rp (.inl O) (QF.mv O O (QF.lss O O O (QF.mv O O (QF.cutv 3 18 (.bool ((decide (b<0))||(decide (1125899906842624<b)))) ?_ ?_))))))))))))
 ·
  cases K:(decide (b<0))
  ·exact QF.gy O O O (QF.mv O O (QF.gy O O O (QF.gtr O O O (QF.pick O O O (AJ O)))))
  ·exact AL O O
 refine QF.mv O O (QF.cutv 3 22 (.bool (((decide (b<0))||(decide (1125899906842624<b)))||(decide (a<0)))) ?_ ?_)
 ·
  cases M:((decide (b<0))||(decide (1125899906842624<b)))
  ·exact QF.gy O O O (QF.mv O O (QF.gy O O O (QF.lss O O O (QF.pick O O O (AJ O)))))
  ·exact AL O O
 refine QF.mv O O (QF.cutv 3 26 (.bool ((((decide (b<0))||(decide (1125899906842624<b)))||(decide (a<0)))||(decide (1125899906842624<a)))) ?_ ?_)
 ·
  cases Q:(((decide (b<0))||(decide (1125899906842624<b)))||(decide (a<0)))
  ·exact QF.gy O O O (QF.mv O O (QF.gy O O O (QF.gtr O O O (QF.pick O O O (AJ O)))))
  ·exact AL O O
 refine QF.mv O O (QF.cutv 3 30 (.bool (((((decide (b<0))||(decide (1125899906842624<b)))||(decide (a<0)))||(decide (1125899906842624<a)))||(decide (c<1)))) ?_ ?_)
 ·
  cases U:((((decide (b<0))||(decide (1125899906842624<b)))||(decide (a<0)))||(decide (1125899906842624<a)))
  ·exact QF.gy O O O (QF.mv O O (QF.gy O O O (QF.lss O O O (QF.pick O O O (AJ O)))))
  ·exact AL O O
 refine QF.mv O O (QF.cutv 3 34 (.bool ((((((decide (b<0))||(decide (1125899906842624<b)))||(decide (a<0)))||(decide (1125899906842624<a)))||(decide (c<1)))||(decide (1125899906842624<c)))) ?_ ?_)
 ·
  cases V:(((((decide (b<0))||(decide (1125899906842624<b)))||(decide (a<0)))||(decide (1125899906842624<a)))||(decide (c<1)))
  ·exact QF.gy O O O (QF.mv O O (QF.gy O O O (QF.gtr O O O (QF.pick O O O (AJ O)))))
  ·exact AL O O
 refine AA (kp [34,0,1,2] O) (WF.if_ O (λy=>?_) (λy=>?_))
 ·
  have E:=A7 y E
  refine WF.seq (WF.rp (.inl O) (QF.as_ O O (QF.as_ O O (QF.as_ O O (AA (kp [8,7,6] O) (WF.ret (λaa ww hf hw=>?_)))))))
  cases E
  exact Hq hf O hw (Gr (Js hf (v:=_) O) (Gr (Js hf (v:=_) O) (Gr (Js hf (v:=_) O) HY))) O (Bg.refl S h) ⟨O,(iq (n:=0) O),(iq (n:=0) O),hs⟩
 ·
  have E:=A8 y E
  refine WF.skip (WF.seq (WF.rc (.inl O) hs (QF.mv O O (QF.convk O LH Ix O (QF.mv O O (QF.convk O LH Ix O ?_))))))
  obtain⟨x,z,E⟩:=bd E
  refine F6 (v:= .tuple #[.int .u64 x.1,.int .u64 x.2]) (Ψ:=IntKind.has .u64 x.1∧IntKind.has .u64 x.2) O O O Uf O (λh' o=>(H6 (St.all h') (C8 _ _) (C8 _ _) z).mono λ_ _ _ _ p=>⟨p.1,⟨p.2.1,p.2.2.1⟩⟩) λD=>?_
  obtain⟨F,A⟩:=D
  refine QF.mv O O (QF.ext O O O (QF.ext O O O (QF.as_ O O (QF.as_ O O (Aq (kp [10,9,2] O) λG g j=>WF.seq (WF.seq (WF.rp (.inl O) (QF.mv O O (QF.mv O O (QF.convk O LH Ix O (QF.geq O O O (AA (kp [46,10,9,2] O) ?_))))))))))))
  refine WF.if_ O (λk=>?_) (λk=>?_)
  ·
   have E:=A7 k E
   refine WF.seq (WF.rp (.inl O) (QF.as_ O O (QF.as_ O O (QF.as_ O O (AA (kp [8,7,6] O) (WF.ret (λaa ww hf hw=>?_)))))))
   cases E
   exact Hq hf O hw (Gr (Js hf (v:=_) O) (Gr (Js hf (v:=_) O) (Gr (Js hf (v:=_) O) HY))) O j ⟨O,(iq (n:=0) O),(iq (n:=0) O),g⟩
  ·
   have E:=A8 k E
   refine WF.skip (WF.seq (WF.rc (.inl O) g (QF.mv O O (QF.mv O O (QF.mv O O (QF.convk O LH Ix O ?_))))))
   obtain⟨d,t,E⟩:=bd E
   refine F6 (v:= .tuple #[.int .u64 d.1,.int .u64 d.2]) (Ψ:=IntKind.has .u64 d.1∧IntKind.has .u64 d.2) O O O Ue O (λh' o=>(H7 (St.all h') F A (C8 _ _) t).mono λ_ _ _ _ p=>⟨p.1,⟨p.2.1,p.2.2.1⟩⟩) λC=>?_
   obtain⟨H,I⟩:=C
   refine QF.mv O O (QF.ext O O O (QF.ext O O O (QF.as_ O O (QF.as_ O O (Aq (kp [12,11] O) λJ i u=>WF.seq (WF.seq (WF.rp (.inl O) (QF.mv O O (QF.gtr O O O (AA (kp [56,12,11] O) (WF.if_ O (λm=>?_) (λm=>?_))))))))))))
   ·
    have E:=A7 m E
    refine WF.seq (WF.rp (.inl O) (QF.as_ O O (QF.as_ O O (QF.as_ O O (AA (kp [8,7,6] O) (WF.ret (λaa ww hf hw=>?_)))))))
    cases E
    exact Hq hf O hw (Gr (Js hf (v:=_) O) (Gr (Js hf (v:=_) O) (Gr (Js hf (v:=_) O) HY))) O (j.trans u) ⟨O,(iq (n:=0) O),(iq (n:=0) O),i⟩
   ·
    have E:=A8 m E
    refine WF.skip (WF.seq (WF.rp (.inl O) (QF.mv O O (QF.convk O Ix LH O (QF.mv O O (QF.convk O Ix LH O (QF.as_ O O (QF.as_ O O (QF.as_ O O (AA (kp [8,7,6] O) (WF.ret (λaa ww hf hw=>?_))))))))))))
    cases E
    exact Hq hf O hw (Gr (Js hf (v:=_) O) (Gr (Js hf (v:=_) O) (Gr (Js hf (v:=_) O) HY))) O (j.trans u) ⟨O,(BA _),(BA _),i⟩
theorem Gj (hs:St S L h) {c:Int}(i:AB c) {a:Int}(d:AB a) {b:Int}(g:AB b) {r:Int}(E:FP N c a b=some r):
 Bh Tryz.prog 173 #[.int .i64 c,.int .i64 a,.int .i64 b] S h (λv S' h'=>v= .int .i64 r∧AB r∧St S' (L) h'):=by
 refine Ag (l:=[.int .i64 c,.int .i64 a,.int .i64 b]) 21 Tryz.func173 O Tryz.ntmps173 O λB=>?_
 rw[FP] at E
 refine WF.seq (WF.rp (.inl O) (QF.as_ O O (AA (kp [0,1,2] O) (WF.seq (WF.rc (.inl O) hs (QF.mv O O (QF.mv O O (QF.mv O O ?_))))))))
 obtain⟨j,m,E⟩:=bd E
 refine F6 (v:= .tuple #[.int .i64 j.1,.int .i64 j.2.1,.bool j.2.2]) (Ψ:=AB j.1∧AB j.2.1) O O O O3 O (λh' o=>(Gy (St.all h') i d g m).mono λ_ _ _ _ p=>⟨p.1,⟨p.2.1,p.2.2.1⟩⟩) λt=>?_
 obtain⟨u,w⟩:=t
 refine QF.mv O O (QF.ext O O O (QF.ext O O O (QF.ext O O O (QF.as_ O O (QF.as_ O O (QF.as_ O O (Aq (kp [9,7] O) λx k s=>WF.seq (WF.seq (WF.rp (.inl O) (QF.mv O O (QF.not O O (AA (kp [19,7] O) ?_))))))))))))
 refine WF.if_ O (λq=>?_) (λq=>?_)
 ·
  have E:=A7 q E
  refine WF.seq (WF.rp (.inl O) (QF.as_ O O (AA (kp [6] O) (WF.ret (λaa ww hf hw=>?_)))))
  cases E
  exact DC hf hw O O s ⟨O,(iq (n:=0) O),k⟩
 ·
  have E:=A8 q E
  refine WF.skip (WF.seq (WF.rp (.inl O) (QF.mv O O (QF.as_ O O (AA (kp [6] O) (WF.ret (λaa ww hf hw=>?_)))))))
  cases E
  exact DC hf hw O O s ⟨O,u,k⟩
theorem Ny (hs:St S L h) {c:Value}{k:AT}(j:Rd S h A9 c k) {a:Int}(b:AB a) {d:Int}(g:AB d) {r:Int}(E:Hu N k a d=some r):
 Bh Tryz.prog 175 #[c,.int .i64 a,.int .i64 d] S h (λv S' h'=>v= .int .i64 r∧AB r∧St S' (L) h'):=by
 refine Ag (l:=[c,.int .i64 a,.int .i64 d]) 20 Tryz.func175 O Tryz.ntmps175 O λB=>?_
 rw[Hu] at E
 refine WF.seq (WF.rl (LF.boxp O j (λe=>by cases e) O hs λV W X i H u=>LF.q 1 (QF.as_ O O (AE (LF.nil (kp [3,1,2] O) (WF.seq (WF.seq (WF.rp (.inl O) (QF.fa O u AT.f_To Es O λY I=>QF.ldi Af i.1 O I AM O λZ=>QF.eql O O O (AA (kp [9,3,1,2] O) ?_))))))))))
 refine WF.if_ O (λm=>?_) (λm=>?_)
 ·
  have E:=A7 m E
  refine WF.seq (WF.rp (.inl O) (QF.mv O O (QF.as_ O O (AA (kp [6] O) (WF.ret (λaa ww hf hw=>?_))))))
  cases E
  exact DC hf hw O O H ⟨O,b,i⟩
 ·
  have E:=A8 m E
  refine WF.skip (WF.seq (WF.rc (.inl O) i (QF.mv O O (QF.mv O O (QF.fa O u F9 Hb O λJ w=>QF.ldi Ak i.1 O w AM O λx=>QF.fa O u FC G7 O λK y=>QF.ldi Ak i.1 O y AM O λz=>?_)))))
  obtain⟨M,p,E⟩:=bd E
  refine Ao O O O Nj O (λh' o=>Gj (St.all h') g x z p) λA=>?_
  have C:=A
  obtain⟨Q,s,E⟩:=bd E
  refine Ao O O O Hg O (λh' o=>Cz (St.all h') b C s) λD=>?_
  have F:=D
  refine QF.max O O O (QF.as_ O O (Aq (kp [6] O) λU t G=>WF.ret (λaa ww hf hw=>?_)))
  cases E
  exact DC hf hw O O (H.trans G) ⟨O,(GB (iq (n:=0) O) F),t⟩
theorem Ea (hs:St S L h) {i:Value}{k:(List AX)}(d:Sl S h BH i k) {r:Bool}(E:Cy N k=some r):
 Bh Tryz.prog 89 #[i] S h (λv S' h'=>v= .bool r∧St S' (L) h'):=by
 refine Ag (l:=[i]) 63 Tryz.func89 O Tryz.ntmps89 O λB=>?_
 rw[Cy] at E
 refine WF.seq (WF.rp (.inl O) (QF.as_ O O (AA (kp [0] O) (WF.seq (WF.seq (WF.rp (.inl O) (QF.mv O O (QF.len O d Fw O λb1=>QF.lss O O O (QF.mv O O (QF.cutv 4 12 (.bool ((decide ((↑k.length:Int)<1))||(decide (32<(↑k.length:Int))))) ?_ ?_))))))))))
 ·
  cases c2:(decide ((↑k.length:Int)<1))
  ·exact QF.gy O O O (QF.mv O O (QF.gy O O O (QF.len O d Fw O λb3=>QF.gy O O O (QF.gtr O O O (QF.pick O O O (AJ O))))))
  ·exact AL O O
 refine AA (kp [12,0] O) (WF.if_ O (λZ=>?_) (λZ=>?_))
 ·
  have E:=A7 Z E
  refine WF.seq (WF.rp (.inl O) (QF.as_ O O (AA (kp [2] O) (WF.ret (λaa ww hf hw=>?_)))))
  cases E
  exact DC hf hw O O (Bg.refl S h) ⟨O,hs⟩
 ·
  have E:=A8 Z E
  refine WF.skip (WF.seq (WF.seq (WF.rp (.inl O) (QF.mv O O (QF.len O d Fw O λb5=>QF.mv O O (AA (kp [15,14,13,0] O) (WF.blockJ (λa w=>IV B S h (63,[]) a w [] (L) λ_ _=>EE N=some r) ?_ ?_)))))))
  ·
   refine WF.loopF (λn1=>λa w=>∃(y:Int),IV B S h (63,[]) a w [(14,.int .i64 (↑k.length:Int)),(13,i),(0,i),(15,.int .i64 y)] (L) λ_ _=>AB y∧Cx N k (EE N) n1 y=some r) N ?_ ?_ ?_
   ·
    intro aa ww hf hw
    exact⟨0,_,_,hf.sub (kp [14,13,0,15] O),hw,hs,(Bg.refl S h),(iq (n:=0) O),E⟩
   ·
    rintro aa ww ⟨_,_,_,_,_,_,_,_,E⟩
    rw[Cx] at E;cases E
   ·
    rintro n1 aa ww ⟨y,aq,ar,hf,hw,p,m,r9,E⟩
    refine WF.run ?_ hf hw
    clear hf hw ww aa
    rw[Cx] at E
    refine WF.seq (WF.rp (.inl O) (QF.lss O O O (AA (kp [16,14,13,0,15] O) (WF.seq (WF.if_ O (λt=>?_) (λt=>?_))))))
    ·
     have E:=A7 t E
     refine WF.skip (WF.seq (WF.block (WF.seq (WF.rl (LF.q 3 (QF.mv O O ?_))))))
     have ab:=d.mono' m
     obtain⟨b,z,E⟩:=bd E
     refine QF.ixe O O ab Fw z O λau ac=>QF.ld Af p.1 O ac MX (λe=>by cases e) O λav ad=>AE (LF.al Qy O p λaw ax A o=>LF.q 1 (QF.as_ O O (AE ?_)))
     have ae:=ad.mono o
     obtain⟨rfl,⟨ay,az⟩⟩:=BH.ex ae
     refine Ai (vs:=[.int .i64 b.X,.int .i64 b.Y]) O O O O MX O A .head O λa0 c s=>LF.nil (kp [3,4,14,13,0,15] O) (WF.seq (WF.seq (WF.rp (.inl O) (QF.fao O Gs O (AI Af c O mh O AM O (QF.lss O O O (QF.mv O O (QF.cutv 4 27 (.bool ((decide (b.X<0))||(decide (1125899906842624<b.X)))) ?_ ?_))))))))
     ·
      cases a1:(decide (b.X<0))
      ·exact QF.gy O O O (QF.fao O Gs O (QF.gy O O O (AI Af c O mh O AM O (QF.gy O O O (QF.gtr O O O (QF.pick O O O (AJ O)))))))
      ·exact AL O O
     refine QF.mv O O (QF.cutv 4 32 (.bool (((decide (b.X<0))||(decide (1125899906842624<b.X)))||(decide (b.Y<0)))) ?_ ?_)
     ·
      cases a2:((decide (b.X<0))||(decide (1125899906842624<b.X)))
      ·exact QF.gy O O O (QF.fao O GK O (QF.gy O O O (AI Af c O mh O AM O (QF.gy O O O (QF.lss O O O (QF.pick O O O (AJ O)))))))
      ·exact AL O O
     refine QF.mv O O (QF.cutv 4 37 (.bool ((((decide (b.X<0))||(decide (1125899906842624<b.X)))||(decide (b.Y<0)))||(decide (1125899906842624<b.Y)))) ?_ ?_)
     ·
      cases a3:(((decide (b.X<0))||(decide (1125899906842624<b.X)))||(decide (b.Y<0)))
      ·exact QF.gy O O O (QF.fao O GK O (QF.gy O O O (AI Af c O mh O AM O (QF.gy O O O (QF.gtr O O O (QF.pick O O O (AJ O)))))))
      ·exact AL O O
     refine AA (kp [37,3,4,14,13,0,15] O) (WF.if_ O (λu=>?_) (λu=>?_))
     ·
      have E:=A7 u E
      refine WF.seq (WF.rp (.inl O) (QF.as_ O O (AA (kp [2] O) (WF.ret (λaa ww hf hw=>?_)))))
      have C:=c.drop .head
      cases E
      have D:=m.trans (o.trans s)
      exact DC hf hw O O D ⟨O,C⟩
     ·
      have E:=A8 u E
      refine WF.skip (WF.seq (WF.rp (.inr ⟨mo,by kernel_rfl⟩) (QF.mv O O (QF.gtr O O O (QF.mv O O ?_)))))
      obtain⟨af,g,E⟩:=bd E
      refine QF.cutv 21 61 (.bool af) ?_ ?_
      ·
       cases F:(decide (0<y))
       ·
        have g:=A8 F g
        cases g
        exact AL O O
       ·
        have g:=A7 F g
        refine QF.gy O O O (QF.fao O Gs O (QF.gy O O O (AI Af c O mh O AM O (QF.gy O O O (QF.mv O O (QF.gy O O O (QF.mv O O (QF.gy O O O (QF.subw O O O (QF.gy O O O ?_))))))))))
        have G:=m.trans (o.trans s)
        have ag:=d.mono' G
        obtain⟨ah,H,g⟩:=bd g
        refine QF.ixe O O ag Fw H O λa4 ai=>QF.gy O O O (QF.fa O ai Ic Gs O λa5 aj=>QF.gy O O O (QF.ldi Af c.1 O aj AM O λa6=>QF.gy O O O (QF.leq O O O (QF.gy O O O (QF.mv O O ?_)))))
        obtain⟨ak,j,g⟩:=bd g
        refine QF.cutv 10 60 (.bool ak) ?_ ?_
        ·
         cases I:(decide (b.X≤ah.X))
         ·
          have j:=A8 I j
          refine QF.gy O O O (QF.fao O GK O (QF.gy O O O (AI Af c O mh O AM O (QF.gy O O O (QF.mv O O (QF.gy O O O (QF.mv O O (QF.gy O O O (QF.subw O O O (QF.gy O O O ?_))))))))))
          have J:=m.trans (o.trans s)
          have am:=d.mono' J
          obtain⟨a7,K,j⟩:=bd j
          refine QF.ixe O O am Fw K O λa8 an=>QF.gy O O O (QF.fa O an Ib GK O λa9 ao=>QF.gy O O O (QF.ldi Af c.1 O ao AM O λba=>QF.gy O O O (QF.lss O O O (QF.gy O O O (QF.pick O O O ?_)))))
          cases j
          exact AJ O
         ·
          have j:=A7 I j
          cases j
          exact AL O O
        refine QF.pick O O O ?_
        cases g
        exact AJ O
      refine AA (kp [61,14,13,0,15] O) (WF.if_ O (λx=>?_) (λx=>?_))
      ·
       have E:=A7 x E
       refine WF.seq (WF.rp (.inl O) (QF.as_ O O (AA (kp [2] O) (WF.ret (λaa ww hf hw=>?_)))))
       have M:=c.drop .head
       cases E
       have Q:=m.trans (o.trans s)
       exact DC hf hw O O Q ⟨O,M⟩
      ·
       have E:=A8 x E
       refine WF.skip (Ap (WF.rp (.inl O) (QF.addw O O O (QF.mv O O (AA (kp [15,14,13,0] O) (WF.nil (λaa ww hf hw=>?_)))))))
       have U:=c.drop .head
       have V:=m.trans (o.trans s)
       exact⟨(A3 (y+1)),_,_,hf.sub (kp [14,13,0,15] O),hw,U,V,(BA _),E⟩
    ·
     have E:=A8 t E
     refine WF.exit O (λaa ww hf hw=>?_)
     exact⟨_,_,hf.sub J6,hw,p,m,E⟩
  ·
   rintro aa ww ⟨bb,bc,hf,hw,W,ap,E⟩
   refine WF.run ?_ hf hw
   clear hf hw ww aa
   rw[EE] at E
   refine WF.seq (WF.rp (.inl O) (QF.as_ O O (AA (kp [2] O) (WF.ret (λaa ww hf hw=>?_)))))
   cases E
   exact DC hf hw O O ap ⟨O,W⟩
theorem Mo (hs:St S L h) {d:Int}(q:AB d) {c:Value}{p:(Int→Option Bool)}(s:Rd S h (AW.fn Tryz.prog (λx:Int=>([.int .i64 x]:List Value)) (λx:Int=>AB x) (λy:Bool=> .bool y) (λy:Bool=>True)) c p) {r:Int}(E:Hk N d p=some r):
 Bh Tryz.prog 165 #[.int .i64 d,c] S h (λv S' h'=>v= .int .i64 r∧AB r∧St S' (L) h'):=by
 refine Ag (l:=[.int .i64 d,c]) 26 Tryz.func165 O Tryz.ntmps165 O λB=>?_
 rw[Hk] at E
 obtain⟨H,I,rfl,J,K⟩:=s.fn
 refine WF.seq (WF.rp (.inl O) (QF.as_ O O (AA (kp [0,1] O) (WF.seq (WF.rp (.inl O) (QF.mv O O (QF.as_ O O (QF.as_ O O (AA (kp [6,5,1] O) (WF.seq (WF.blockJ (λa w=>∃(G:Int),IV B S h (26,[]) a w [(5,.int .i64 G)] (L) λ_ _=>AB G∧Fb N G=some r) ?_ ?_)))))))))))
 ·
  refine WF.loopF (λU=>λa w=>∃(g:Int) (i:Int),IV B S h (26,[]) a w [(1,(.func (.func H) #[] I)),(5,.int .i64 g),(6,.int .i64 i)] (L) λ_ _=>AB g∧AB i∧Dm N p (Fb N) U g i=some r) N ?_ ?_ ?_
  ·
   intro aa ww hf hw
   exact⟨0,d,_,_,hf.sub (kp [1,5,6] O),hw,hs,(Bg.refl S h),(iq (n:=0) O),q,E⟩
  ·
   rintro aa ww ⟨_,_,_,_,_,_,_,_,_,_,E⟩
   rw[Dm] at E;cases E
  ·
   rintro U aa ww ⟨g,i,V,W,hf,hw,k,m,A,M,E⟩
   refine WF.run ?_ hf hw
   clear hf hw ww aa
   rw[Dm] at E
   refine WF.seq (WF.seq (WF.rp (.inl O) (QF.mv O O (QF.mv O O (QF.lss O O O (AA (kp [11,1,5,6] O) (WF.if_ O (λu=>?_) (λu=>?_))))))))
   ·
    have E:=A7 u E
    refine WF.skip (WF.block (WF.seq (WF.rp (.inl O) (QF.mv O O (QF.mv O O (QF.addw O O O (QF.convk O LH M9 O (QF.shrk (j:=1) O O O O (QF.convk O M9 LH O (QF.as_ O O (AA (kp [7,1,5,6] O) (WF.seq (WF.rc (.inl O) k ?_)))))))))))))
    refine QF.mv O O (QF.mv O O ?_)
    obtain⟨X,C,E⟩:=bd E
    refine Ab O O O J O (λh' o=>K _ h' (λb hb=>Nat.lt_of_lt_of_le (k.1 b (m.sub b hb)) o.siz) (λb hb=>(o.same b (k.1 b (m.sub b hb))).trans (m.same b hb)) [] (St.all h') _ _ (BA _) C) (QF.not O O (Aq (kp [21,7,1,5,6] O) λY t D=>WF.if_ O (λz=>?_) (λz=>?_)))
    ·
     have E:=A7 z E
     refine WF.rp (.inl O) (QF.mv O O (QF.addw O O O (QF.as_ O O (AA (kp [5,1,6] O) (Ap (WF.nil (λaa ww hf hw=>?_)))))))
     exact⟨(A3 ((A3 (Cg .u64 (IntKind.wrap .u64 (A3 (g+i))) 1))+1)),i,_,_,hf.sub (kp [1,5,6] O),hw,t,(m.trans D),(BA _),M,E⟩
    ·
     have E:=A8 z E
     refine WF.rp (.inl O) (QF.mv O O (QF.as_ O O (AA (kp [6,1,5] O) (Ap (WF.nil (λaa ww hf hw=>?_))))))
     exact⟨g,(A3 (Cg .u64 (IntKind.wrap .u64 (A3 (g+i))) 1)),_,_,hf.sub (kp [1,5,6] O),hw,t,(m.trans D),A,(BA _),E⟩
   ·
    have E:=A8 u E
    refine WF.exit O (λaa ww hf hw=>?_)
    exact⟨g,_,_,hf.sub (kp [5] O),hw,k,m,A,E⟩
 ·
  rintro aa ww ⟨G,Z,ab,hf,hw,F,Q,r6,E⟩
  refine WF.run ?_ hf hw
  clear hf hw ww aa
  rw[Fb] at E
  refine WF.seq (WF.rp (.inl O) (QF.mv O O (QF.as_ O O (AA (kp [4] O) (WF.ret (λaa ww hf hw=>?_))))))
  cases E
  exact DC hf hw O O Q ⟨O,r6,F⟩
end Go.Proofs.YtibidnaedddfdaaGreat
