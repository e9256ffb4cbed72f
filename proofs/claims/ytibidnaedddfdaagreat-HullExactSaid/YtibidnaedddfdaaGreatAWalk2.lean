import Derived.Test.YtibidnaedddfdaaGreatAWalk1
namespace Go.Proofs.YtibidnaedddfdaaGreat
open Go.RowKit
set_option linter.unusedVariables false
set_option linter.unusedSimpArgs false
set_option maxRecDepth 10000
set_option maxHeartbeats 2000000
variable {N:Nat}{S:Nat→Prop}{L:List HP}{h:Ad}
theorem KN (hs:St S L h) {p0_:Int}(i:AB p0_) {a:Value}{c1_:Ht}(c:Pt S h Ho a c1_) {r:AF}(E:Dz N c1_ p0_=some r):
 BP Tryz.prog 108 #[.int .i64 p0_,a] S h (λv S' h'=>v= .agg #[.int .i64 r.Lo,.int .i64 r.Hi]∧AF.ok r∧St S' (L) h'):=by
 refine Ac (l:=[.int .i64 p0_,a]) 7 Tryz.func108 O Tryz.ntmps108 O λB=>?_
 rw[Dz] at E
 refine WF.seq (WF.rl (LF.al EL O hs λs t d k=>LF.nil (kp [3,1] O) (WF.seq (WF.rl (LF.q 3 ?_)))))
 have m:=c.mono k
 refine QF.fa O m Ht.f_Litres Pq O λu o=>QF.ldi Aa d.1 O o AN O λp=>QF.bld (cs:=[.int .i64 0,.int .i64 c1_.Litres]) Ga O O O (AE (Aj (vs:=[.int .i64 0,.int .i64 c1_.Litres]) O O O O Ag O d .head O λw b j=>LF.nil (kp [3] O) (WF.ret (λaa ww hf hw=>?_))))
 have g:=b.drop .head
 cases E
 exact Hb hf O hw (GF (Md hf hw b O mh Ag O) HW) O (k.trans j) ⟨O,⟨(iq (n:=0) O),p⟩,g⟩
theorem IP (hs:St S L h) {a:Int}(c:IntKind.has .u64 a) {b:Int}(d:IntKind.has .u64 b) {r:Int×Int}(E:Ec N a b=some r):
 BP Tryz.prog 142 #[.int .u64 a,.int .u64 b] S h (λv S' h'=>v= .tuple #[.int .u64 r.1,.int .u64 r.2]∧IntKind.has .u64 r.1∧IntKind.has .u64 r.2∧St S' (L) h'):=by
 refine Ac (l:=[.int .u64 a,.int .u64 b]) 51 Tryz.func142 O Tryz.ntmps142 O λB=>?_
 rw[Ec] at E
 refine WF.seq (WF.rp (.inl O) (QF.as_ O O (QF.as_ O O (AA (kp [0,1] O) (WF.seq (WF.rp (.inl O) (QF.mv O O (QF.andk O O O (QF.as_ O O (AA (kp [6,0,1] O) (WF.seq (WF.rp (.inl O) (QF.mv O O ?_)))))))))))))
 refine QF.shrk (j:=32) O O O O (QF.as_ O O (AA (kp [7,6,0,1] O) (WF.seq (WF.rp (.inl O) (QF.mv O O (QF.andk O O O (QF.as_ O O (AA (kp [8,7,6,0,1] O) (WF.seq (WF.rp (.inl O) (QF.mv O O (QF.shrk (j:=32) O O O O (QF.as_ O O ?_)))))))))))))
 refine AA (kp [9,8,7,6,0,1] O) (WF.seq (WF.rp (.inl O) (QF.mv O O (QF.mv O O (QF.mulk O O O (QF.as_ O O (AA (kp [10,9,8,7,6,0,1] O) (WF.seq (WF.rp (.inl O) (QF.mv O O (QF.mv O O (QF.mulk O O O (QF.mv O O ?_)))))))))))))
 refine QF.shrk (j:=32) O O O O (QF.addk O O O (QF.as_ O O (AA (kp [11,9,7,6,0,1] O) (WF.seq (WF.rp (.inl O) (QF.mv O O (QF.andk O O O (QF.as_ O O (AA (kp [12,11,9,7,6,0,1] O) (WF.seq (WF.rp (.inl O) (QF.mv O O (QF.shrk (j:=32) O O O O ?_)))))))))))))
 refine QF.as_ O O (AA (kp [13,12,9,7,6,0,1] O) (WF.seq (WF.rp (.inl O) (QF.mv O O (QF.mv O O (QF.mv O O (QF.mulk O O O (QF.addk O O O (QF.as_ O O (AA (kp [12,13,9,7,0,1] O) (WF.seq (WF.rp (.inl O) (QF.mv O O ?_)))))))))))))
 refine QF.mv O O (QF.mulk O O O (QF.mv O O (QF.addk O O O (QF.mv O O (QF.shrk (j:=32) O O O O (QF.addk O O O (QF.as_ O O (AA (kp [4,0,1] O) (WF.seq (WF.rp (.inl O) (QF.mv O O (QF.mv O O (QF.mulk O O O ?_)))))))))))))
 refine QF.as_ O O (AA (kp [5,4] O) (WF.ret (λaa ww hf hw=>?_)))
 cases E
 exact Hb hf O hw (GF (IG hf (v:=_) O) (GF (IG hf (v:=_) O) HW)) O (BO.refl S h) ⟨O,(Cf _ _),(Cf _ _),hs⟩
theorem LQ (hs:St S L h) {b:Int}(c:IntKind.has .u64 b) {r:Int}(E:FX N b=some r):
 BP Tryz.prog 184 #[.int .u64 b] S h (λv S' h'=>v= .int .i64 r∧AB r∧St S' (L) h'):=by
 refine Ac (l:=[.int .u64 b]) 25 Tryz.func184 O Tryz.ntmps184 O λB=>?_
 rw[FX] at E
 refine WF.seq (WF.rp (.inl O) (QF.as_ O O (AA (kp [2,0] O) (WF.seq (WF.seq (WF.rp (.inl O) (QF.mv O O (QF.geq O O O (AA (kp [4,2,0] O) (WF.cut (λa w=>∃(u:Int) (x:Int),IV B S h (25,[]) a w [(0,.int .u64 u),(2,.int .i64 x)] (L) λ_ _=>IntKind.has .u64 u∧AB x∧DV N u x=some r) ?_ ?_))))))))))
 ·
  refine WF.if_ O (λD=>?_) (λD=>?_)
  ·
   have E:=Av D E
   refine WF.seq (WF.rp (.inl O) (QF.mv O O (QF.shrk (j:=32) O O O O (QF.as_ O O (AA (kp [0] O) (WF.rp (.inl O) (QF.as_ O O (AA (kp [2,0] O) (WF.nil (λaa ww hf hw=>?_))))))))))
   exact⟨(Ci .u64 b 32),32,_,_,hf.sub (kp [0,2] O),hw,hs,(BO.refl S h),(NJ _ c _),(iq (n:=32) O),E⟩
  ·
   have E:=Aw D E
   refine WF.skip (WF.nil (λaa ww hf hw=>?_))
   exact⟨b,0,_,_,hf.sub (kp [0,2] O),hw,hs,(BO.refl S h),c,(iq (n:=0) O),E⟩
 ·
  rintro aa ww ⟨u,x,F,G,hf,hw,y,M,K,Q,E⟩
  refine WF.run ?_ hf hw
  clear hf hw ww aa
  rw[DV] at E
  refine WF.seq (WF.seq (WF.rp (.inl O) (QF.mv O O (QF.geq O O O (AA (kp [8,0,2] O) (WF.cut (λa w=>∃(d:Int) (g:Int),IV B F G (25,[]) a w [(0,.int .u64 d),(2,.int .i64 g)] (L) λ_ _=>IntKind.has .u64 d∧AB g∧DU N d g=some r) ?_ ?_))))))
  ·
   refine WF.if_ O (λp=>?_) (λp=>?_)
   ·
    have E:=Av p E
    refine WF.seq (WF.rp (.inl O) (QF.mv O O (QF.shrk (j:=16) O O O O (QF.as_ O O (AA (kp [0,2] O) (WF.rp (.inl O) (QF.mv O O (QF.addw O O O (QF.as_ O O (AA (kp [2,0] O) (WF.nil (λaa ww hf hw=>?_))))))))))))
    exact⟨(Ci .u64 u 16),(Ar (x+16)),_,_,hf.sub (kp [0,2] O),hw,y,(BO.refl F G),(NJ _ K _),(Au _),E⟩
   ·
    have E:=Aw p E
    refine WF.skip (WF.nil (λaa ww hf hw=>?_))
    exact⟨u,x,_,_,hf.sub (kp [0,2] O),hw,y,(BO.refl F G),K,Q,E⟩
  ·
   rintro aa ww ⟨d,g,q,s,hf,hw,m,H,z,I,E⟩
   refine WF.run ?_ hf hw
   clear hf hw ww aa
   rw[DU] at E
   refine WF.seq (WF.seq (WF.rp (.inl O) (QF.mv O O (QF.geq O O O (AA (kp [14,0,2] O) (WF.cut (λa w=>∃(i:Int) (k:Int),IV B q s (25,[]) a w [(0,.int .u64 i),(2,.int .i64 k)] (L) λ_ _=>IntKind.has .u64 i∧AB k∧DT N i k=some r) ?_ ?_))))))
   ·
    refine WF.if_ O (λt=>?_) (λt=>?_)
    ·
     have E:=Av t E
     refine WF.seq (WF.rp (.inl O) (QF.mv O O (QF.shrk (j:=8) O O O O (QF.as_ O O (AA (kp [0,2] O) (WF.rp (.inl O) (QF.mv O O (QF.addw O O O (QF.as_ O O (AA (kp [2,0] O) (WF.nil (λaa ww hf hw=>?_))))))))))))
     exact⟨(Ci .u64 d 8),(Ar (g+8)),_,_,hf.sub (kp [0,2] O),hw,m,(BO.refl q s),(NJ _ z _),(Au _),E⟩
    ·
     have E:=Aw t E
     refine WF.skip (WF.nil (λaa ww hf hw=>?_))
     exact⟨d,g,_,_,hf.sub (kp [0,2] O),hw,m,(BO.refl q s),z,I,E⟩
   ·
    rintro aa ww ⟨i,k,U,V,hf,hw,A,J,W,X,E⟩
    refine WF.run ?_ hf hw
    clear hf hw ww aa
    rw[DT] at E
    refine WF.seq (WF.rp (.inl O) (QF.mv O O (QF.mv O O (QF.convk O JH W3 O ?_))))
    obtain⟨Y,o,E⟩:=bd E
    have Z:=MR o
    refine QF.bixk O O N5 o O (QF.convk O W3 Lh O (QF.addw O O O (QF.as_ O O (AA (kp [2] O) (WF.ret (λaa ww hf hw=>?_))))))
    cases E
    have C:=M.trans (H.trans J)
    exact CS hf hw O O C ⟨O,(Au _),A⟩
theorem II (hs:St S L h) {a:Int}(b:IntKind.has .u64 a) {r:Int}(E:Cm N a=some r):
 BP Tryz.prog 171 #[.int .u64 a] S h (λv S' h'=>v= .int .i64 r∧AB r∧St S' (L) h'):=by
 refine Ac (l:=[.int .u64 a]) 6 Tryz.func171 O Tryz.ntmps171 O λB=>?_
 rw[Cm] at E
 refine WF.seq (WF.rp (.inl O) (QF.as_ O O (AA (kp [0] O) (WF.seq (WF.rc (.inl O) hs (QF.mv O O ?_))))))
 obtain⟨j,c,E⟩:=bd E
 refine Af O O O WC O (λh' o=>LQ (St.all h') b c) λg=>?_
 have k:=g
 refine QF.subw O O O (QF.as_ O O (Ai (kp [2] O) λm d i=>WF.ret (λaa ww hf hw=>?_)))
 cases E
 exact CS hf hw O O i ⟨O,(Au _),d⟩
theorem IQ (hs:St S L h) {d:Int}(Y:IntKind.has .u64 d) {b:Int}(u:IntKind.has .u64 b) {c:Int}(z:IntKind.has .u64 c) {r:Int×Int}(E:Ed N d b c=some r):
 BP Tryz.prog 143 #[.int .u64 d,.int .u64 b,.int .u64 c] S h (λv S' h'=>v= .tuple #[.int .u64 r.1,.int .u64 r.2]∧IntKind.has .u64 r.1∧IntKind.has .u64 r.2∧St S' (L) h'):=by
 refine Ac (l:=[.int .u64 d,.int .u64 b,.int .u64 c]) 135 Tryz.func143 O Tryz.ntmps143 O λB=>?_
 rw[Ed] at E
 refine WF.seq (WF.rp (.inl O) (QF.as_ O O (QF.as_ O O (AA (kp [0,1,2] O) (WF.seq (WF.seq (WF.rp (.inl O) (QF.mv O O (QF.eql O O O (AA (kp [20,0,1,2] O) (WF.if_ O (λc1=>?_) (λc1=>?_))))))))))))
 ·
  have E:=Av c1 E
  cases E
 ·
  have E:=Aw c1 E
  refine WF.skip (WF.seq (WF.seq (WF.rp (.inl O) (QF.mv O O (QF.mv O O (QF.leq O O O (AA (kp [24,0,1,2] O) (WF.if_ O (λc2=>?_) (λc2=>?_)))))))))
  ·
   have E:=Av c2 E
   cases E
  ·
   have E:=Aw c2 E
   refine WF.skip (WF.seq (WF.seq (WF.rp (.inl O) (QF.mv O O (QF.eql O O O (AA (kp [27,0,1,2] O) (WF.if_ O (λc3=>?_) (λc3=>?_))))))))
   ·
    have E:=Av c3 E
    refine WF.seq (WF.rp (.inr ⟨mo,by kernel_rfl⟩) (QF.mv O O (QF.mv O O ?_)))
    obtain⟨z4,Z,E⟩:=bd E
    have r5:IntKind.has .u64 z4:=Km Z
    refine QF.quok O O O Z (QF.mv O O (QF.mv O O ?_))
    obtain⟨z6,ab,E⟩:=bd E
    have r7:IntKind.has .u64 z6:=Sh u ab
    refine QF.remk O O O ab (QF.as_ O O (QF.as_ O O (AA (kp [7,6] O) (WF.ret (λaa ww hf hw=>?_)))))
    cases E
    exact Hb hf O hw (GF (IG hf (v:=_) O) (GF (IG hf (v:=_) O) HW)) O (BO.refl S h) ⟨O,r5,r7,hs⟩
   ·
    have E:=Aw c3 E
    refine WF.skip (WF.seq (WF.rc (.inl O) hs (QF.mv O O ?_)))
    obtain⟨C,am,E⟩:=bd E
    refine Af O O O WI O (λh' o=>II (St.all h') z am) λr9=>?_
    have ax:=r9
    refine QF.convk O Lh NP O (QF.as_ O O (Ai (kp [8,0,1,2] O) λG ac an=>WF.seq (WF.rp (.inl O) (QF.mv O O (QF.mv O O ?_)))))
    obtain⟨g,ad,E⟩:=bd E
    refine QF.shlk (j:=g) O O O ad (QF.as_ O O (AA (kp [2,8,0,1] O) (WF.seq (WF.rp (.inl O) (QF.mv O O (QF.shrk (j:=32) O O O O (QF.as_ O O (AA (kp [9,2,8,0,1] O) (WF.seq (WF.rp (.inl O) (QF.mv O O (QF.andk O O O (QF.as_ O O ?_)))))))))))))
    refine AA (kp [10,9,2,8,0,1] O) (WF.seq (WF.rp (.inl O) (QF.mv O O (QF.mv O O ?_))))
    obtain⟨k,ae,E⟩:=bd E
    refine QF.shlk (j:=k) O O O ae (QF.mv O O (QF.mv O O (QF.subk O O O ?_)))
    obtain⟨m,af,E⟩:=bd E
    refine QF.shrk (j:=m) O O O af (QF.ork O O O (QF.as_ O O (AA (kp [11,10,9,2,8,1] O) (WF.seq (WF.rp (.inl O) (QF.mv O O (QF.mv O O ?_)))))))
    obtain⟨i,ag,E⟩:=bd E
    refine QF.shlk (j:=i) O O O ag (QF.as_ O O (AA (kp [12,11,10,9,2,8] O) (WF.seq (WF.rp (.inl O) (QF.mv O O (QF.shrk (j:=32) O O O O (QF.as_ O O (AA (kp [13,12,11,10,9,2,8] O) (WF.seq (WF.rp (.inl O) (QF.mv O O (QF.andk O O O (QF.as_ O O ?_)))))))))))))
    refine AA (kp [14,13,11,10,9,2,8] O) (WF.seq (WF.rp (.inl O) (QF.mv O O (QF.mv O O ?_))))
    obtain⟨H,D,E⟩:=bd E
    have ao:IntKind.has .u64 H:=Km D
    refine QF.quok O O O D (QF.as_ O O (AA (kp [15,14,13,11,10,9,2,8] O) (WF.seq (WF.rp (.inl O) (QF.mv O O (QF.mv O O (QF.mv O O (QF.mulk O O O (QF.subk O O O (QF.as_ O O (AA (kp [16,15,14,13,11,10,9,2,8] O) (WF.seq (WF.blockJ (λa w=>∃(n:Int),IV B S G (135,[]) a w [(14,.int .u64 (F8 .and .u64 (Cu .u64 b i) 4294967295)),(13,.int .u64 (Ci .u64 (Cu .u64 b i) 32)),(11,.int .u64 (F8 .or .u64 (Cu .u64 d k) (Ci .u64 b m))),(10,.int .u64 (F8 .and .u64 (Cu .u64 c g) 4294967295)),(9,.int .u64 (Ci .u64 (Cu .u64 c g) 32)),(2,.int .u64 (Cu .u64 c g)),(8,.int .u64 (IntKind.wrap .u64 C)),(15,.int .u64 n)] (L) λ_ _=>IntKind.has .u64 n∧DX N d b c C g k m i n=some r) ?_ ?_)))))))))))))
    ·
     refine WF.loopF (λn1=>λa w=>∃(p:Int) (s:Int),IV B S G (135,[]) a w [(14,.int .u64 (F8 .and .u64 (Cu .u64 b i) 4294967295)),(13,.int .u64 (Ci .u64 (Cu .u64 b i) 32)),(11,.int .u64 (F8 .or .u64 (Cu .u64 d k) (Ci .u64 b m))),(10,.int .u64 (F8 .and .u64 (Cu .u64 c g) 4294967295)),(9,.int .u64 (Ci .u64 (Cu .u64 c g) 32)),(2,.int .u64 (Cu .u64 c g)),(8,.int .u64 (IntKind.wrap .u64 C)),(15,.int .u64 p),(16,.int .u64 s)] (L) λ_ _=>IntKind.has .u64 p∧IntKind.has .u64 s∧Co N b c g i (DX N d b c C g k m i) n1 p s=some r) N ?_ ?_ ?_
     ·
      intro aa ww hf hw
      exact⟨H,(IntKind.wrap .u64 ((F8 .or .u64 (Cu .u64 d k) (Ci .u64 b m))-(IntKind.wrap .u64 (H*(Ci .u64 (Cu .u64 c g) 32))))),_,_,hf.sub (kp [14,13,11,10,9,2,8,15,16] O),hw,ac,(BO.refl S G),ao,(Cf _ _),E⟩
     ·
      rintro aa ww ⟨_,_,_,_,_,_,_,_,_,_,E⟩
      rw[Co] at E;cases E
     ·
      rintro n1 aa ww ⟨p,s,ay,az,hf,hw,x,I,ap,a0,E⟩
      refine WF.run ?_ hf hw
      clear hf hw ww aa
      rw[Co] at E
      refine WF.seq (WF.seq (WF.rp (.inl O) (QF.mv O O (QF.geq O O O (QF.mv O O (QF.cutv 9 78 (.bool ((decide (4294967296≤p))||(decide ((IntKind.wrap .u64 ((IntKind.wrap .u64 (4294967296*s))+(Ci .u64 (Cu .u64 b i) 32)))<(IntKind.wrap .u64 (p*(F8 .and .u64 (Cu .u64 c g) 4294967295))))))) ?_ ?_))))))
      ·
       cases a1:(decide (4294967296≤p))
       ·
        refine QF.gy O O O (QF.mv O O (QF.gy O O O (QF.mv O O (QF.gy O O O (QF.mulk O O O (QF.gy O O O (QF.mv O O (QF.gy O O O (QF.mulk O O O (QF.gy O O O (QF.mv O O (QF.gy O O O (QF.addk O O O ?_)))))))))))))
        exact QF.gy O O O (QF.gtr O O O (QF.pick O O O (AH O)))
       ·exact AL O O
      refine AA (kp [78,14,13,11,10,9,2,8,15,16] O) (WF.if_ O (λJ=>?_) (λJ=>?_))
      ·
       have E:=Av J E
       refine WF.skip (WF.block (WF.seq (WF.rp (.inl O) (QF.mv O O (QF.subk O O O (QF.as_ O O (AA (kp [15,14,13,11,10,9,2,8,16] O) (WF.seq (WF.rp (.inl O) (QF.mv O O (QF.mv O O (QF.addk O O O (QF.as_ O O ?_)))))))))))))
       refine AA (kp [16,15,14,13,11,10,9,2,8] O) (WF.seq (WF.rp (.inl O) (QF.mv O O (QF.geq O O O (AA (kp [85,16,15,14,13,11,10,9,2,8] O) (WF.if_ O (λK=>?_) (λK=>?_)))))))
       ·
        have E:=Av K E
        refine WF.exit O (λaa ww hf hw=>?_)
        exact⟨(IntKind.wrap .u64 (p-1)),_,_,hf.sub (kp [14,13,11,10,9,2,8,15] O),hw,x,I,(Cf _ _),E⟩
       ·
        have E:=Aw K E
        refine WF.skip (Al (WF.nil (λaa ww hf hw=>?_)))
        exact⟨(IntKind.wrap .u64 (p-1)),(IntKind.wrap .u64 (s+(Ci .u64 (Cu .u64 c g) 32))),_,_,hf.sub (kp [14,13,11,10,9,2,8,15,16] O),hw,x,I,(Cf _ _),(Cf _ _),E⟩
      ·
       have E:=Aw J E
       refine WF.exit O (λaa ww hf hw=>?_)
       exact⟨p,_,_,hf.sub (kp [14,13,11,10,9,2,8,15] O),hw,x,I,ap,E⟩
    ·
     rintro aa ww ⟨n,M,Q,hf,hw,ah,aq,a2,E⟩
     refine WF.run ?_ hf hw
     clear hf hw ww aa
     rw[DX] at E
     refine WF.seq (WF.rp (.inl O) (QF.mv O O (QF.mulk O O O (QF.mv O O (QF.addk O O O (QF.mv O O (QF.mv O O (QF.mulk O O O (QF.subk O O O (QF.as_ O O (AA (kp [17,14,10,9,2,8,15] O) (WF.seq (WF.rp (.inl O) ?_)))))))))))))
     refine QF.mv O O (QF.mv O O ?_)
     obtain⟨U,F,E⟩:=bd E
     have ar:IntKind.has .u64 U:=Km F
     refine QF.quok O O O F (QF.as_ O O (AA (kp [18,17,14,10,9,2,8,15] O) (WF.seq (WF.rp (.inl O) (QF.mv O O (QF.mv O O (QF.mv O O (QF.mulk O O O (QF.subk O O O (QF.as_ O O (AA (kp [16,18,17,14,10,9,2,8,15] O) (WF.seq (WF.blockJ (λa w=>∃(A:Int),IV B M Q (135,[]) a w [(17,.int .u64 (IntKind.wrap .u64 ((IntKind.wrap .u64 ((IntKind.wrap .u64 ((F8 .or .u64 (Cu .u64 d k) (Ci .u64 b m))*4294967296))+(Ci .u64 (Cu .u64 b i) 32)))-(IntKind.wrap .u64 (n*(Cu .u64 c g)))))),(14,.int .u64 (F8 .and .u64 (Cu .u64 b i) 4294967295)),(2,.int .u64 (Cu .u64 c g)),(8,.int .u64 (IntKind.wrap .u64 C)),(15,.int .u64 n),(18,.int .u64 A)] (L) λ_ _=>IntKind.has .u64 A∧DW N d b c C g k m i n A=some r) ?_ ?_)))))))))))))
     ·
      refine WF.loopF (λn3=>λa w=>∃(t:Int) (q:Int),IV B M Q (135,[]) a w [(17,.int .u64 (IntKind.wrap .u64 ((IntKind.wrap .u64 ((IntKind.wrap .u64 ((F8 .or .u64 (Cu .u64 d k) (Ci .u64 b m))*4294967296))+(Ci .u64 (Cu .u64 b i) 32)))-(IntKind.wrap .u64 (n*(Cu .u64 c g)))))),(14,.int .u64 (F8 .and .u64 (Cu .u64 b i) 4294967295)),(10,.int .u64 (F8 .and .u64 (Cu .u64 c g) 4294967295)),(9,.int .u64 (Ci .u64 (Cu .u64 c g) 32)),(2,.int .u64 (Cu .u64 c g)),(8,.int .u64 (IntKind.wrap .u64 C)),(15,.int .u64 n),(16,.int .u64 t),(18,.int .u64 q)] (L) λ_ _=>IntKind.has .u64 t∧IntKind.has .u64 q∧Cn N b c g i (DW N d b c C g k m i n) n3 t q=some r) N ?_ ?_ ?_
      ·
       intro aa ww hf hw
       exact⟨(IntKind.wrap .u64 ((IntKind.wrap .u64 ((IntKind.wrap .u64 ((IntKind.wrap .u64 ((F8 .or .u64 (Cu .u64 d k) (Ci .u64 b m))*4294967296))+(Ci .u64 (Cu .u64 b i) 32)))-(IntKind.wrap .u64 (n*(Cu .u64 c g)))))-(IntKind.wrap .u64 (U*(Ci .u64 (Cu .u64 c g) 32))))),U,_,_,hf.sub (kp [17,14,10,9,2,8,15,16,18] O),hw,ah,(BO.refl M Q),(Cf _ _),ar,E⟩
      ·
       rintro aa ww ⟨_,_,_,_,_,_,_,_,_,_,E⟩
       rw[Cn] at E;cases E
      ·
       rintro n3 aa ww ⟨t,q,a3,a4,hf,hw,y,V,a5,au,E⟩
       refine WF.run ?_ hf hw
       clear hf hw ww aa
       rw[Cn] at E
       refine WF.seq (WF.seq (WF.rp (.inl O) (QF.mv O O (QF.geq O O O (QF.mv O O (QF.cutv 9 113 (.bool ((decide (4294967296≤q))||(decide ((IntKind.wrap .u64 ((IntKind.wrap .u64 (4294967296*t))+(F8 .and .u64 (Cu .u64 b i) 4294967295)))<(IntKind.wrap .u64 (q*(F8 .and .u64 (Cu .u64 c g) 4294967295))))))) ?_ ?_))))))
       ·
        cases a6:(decide (4294967296≤q))
        ·
         refine QF.gy O O O (QF.mv O O (QF.gy O O O (QF.mv O O (QF.gy O O O (QF.mulk O O O (QF.gy O O O (QF.mv O O (QF.gy O O O (QF.mulk O O O (QF.gy O O O (QF.mv O O (QF.gy O O O (QF.addk O O O ?_)))))))))))))
         exact QF.gy O O O (QF.gtr O O O (QF.pick O O O (AH O)))
        ·exact AL O O
       refine AA (kp [113,17,14,10,9,2,8,15,16,18] O) (WF.if_ O (λW=>?_) (λW=>?_))
       ·
        have E:=Av W E
        refine WF.skip (WF.block (WF.seq (WF.rp (.inl O) (QF.mv O O (QF.subk O O O (QF.as_ O O (AA (kp [18,17,14,10,9,2,8,15,16] O) (WF.seq (WF.rp (.inl O) (QF.mv O O (QF.mv O O (QF.addk O O O (QF.as_ O O ?_)))))))))))))
        refine AA (kp [16,18,17,14,10,9,2,8,15] O) (WF.seq (WF.rp (.inl O) (QF.mv O O (QF.geq O O O (AA (kp [120,16,18,17,14,10,9,2,8,15] O) (WF.if_ O (λX=>?_) (λX=>?_)))))))
        ·
         have E:=Av X E
         refine WF.exit O (λaa ww hf hw=>?_)
         exact⟨(IntKind.wrap .u64 (q-1)),_,_,hf.sub (kp [17,14,2,8,15,18] O),hw,y,V,(Cf _ _),E⟩
        ·
         have E:=Aw X E
         refine WF.skip (Al (WF.nil (λaa ww hf hw=>?_)))
         exact⟨(IntKind.wrap .u64 (t+(Ci .u64 (Cu .u64 c g) 32))),(IntKind.wrap .u64 (q-1)),_,_,hf.sub (kp [17,14,10,9,2,8,15,16,18] O),hw,y,V,(Cf _ _),(Cf _ _),E⟩
       ·
        have E:=Aw W E
        refine WF.exit O (λaa ww hf hw=>?_)
        exact⟨q,_,_,hf.sub (kp [17,14,2,8,15,18] O),hw,y,V,au,E⟩
     ·
      rintro aa ww ⟨A,a7,a8,hf,hw,ai,av,a9,E⟩
      refine WF.run ?_ hf hw
      clear hf hw ww aa
      rw[DW] at E
      refine WF.seq (WF.rp (.inl O) (QF.mv O O (QF.mulk O O O (QF.mv O O (QF.addk O O O (QF.mv O O (QF.mulk O O O (QF.mv O O (QF.addk O O O (QF.mv O O (QF.mv O O (QF.mulk O O O (QF.subk O O O ?_)))))))))))))
      refine QF.mv O O ?_
      obtain⟨aw,aj,E⟩:=bd E
      refine QF.shrk (j:=aw) O O O aj (QF.as_ O O (QF.as_ O O (AA (kp [7,6] O) (WF.ret (λaa ww hf hw=>?_)))))
      cases E
      have ak:=an.trans (aq.trans av)
      exact Hb hf O hw (GF (IG hf (v:=_) O) (GF (IG hf (v:=_) O) HW)) O ak ⟨O,(Cf _ _),(NJ _ (Cf _ _) _),ai⟩
theorem HN (hs:St S L h) {b:Int}(w:AB b) {a:Int}(q:AB a) {c:Int}(s:AB c) {r:Int×Int×Bool}(E:Ez N b a c=some r):
 BP Tryz.prog 152 #[.int .i64 b,.int .i64 a,.int .i64 c] S h (λv S' h'=>v= .tuple #[.int .i64 r.1,.int .i64 r.2.1,.bool r.2.2]∧AB r.1∧AB r.2.1∧St S' (L) h'):=by
 refine Ac (l:=[.int .i64 b,.int .i64 a,.int .i64 c]) 61 Tryz.func152 O Tryz.ntmps152 O λB=>?_
 rw[Ez] at E
 refine WF.seq (WF.rp (.inl O) (QF.as_ O O (QF.as_ O O (QF.as_ O O (AA (kp [0,1,2] O) (WF.seq (WF.seq (WF.rp (.inl O) (QF.mv O O (QF.lss O O O (QF.mv O O (QF.cutv 3 18 (.bool ((decide (b<0))||(decide (1125899906842624<b)))) ?_ ?_))))))))))))
 ·
  cases K:(decide (b<0))
  ·exact QF.gy O O O (QF.mv O O (QF.gy O O O (QF.gtr O O O (QF.pick O O O (AH O)))))
  ·exact AL O O
 refine QF.mv O O (QF.cutv 3 22 (.bool (((decide (b<0))||(decide (1125899906842624<b)))||(decide (a<0)))) ?_ ?_)
 ·
  cases M:((decide (b<0))||(decide (1125899906842624<b)))
  ·exact QF.gy O O O (QF.mv O O (QF.gy O O O (QF.lss O O O (QF.pick O O O (AH O)))))
  ·exact AL O O
 refine QF.mv O O (QF.cutv 3 26 (.bool ((((decide (b<0))||(decide (1125899906842624<b)))||(decide (a<0)))||(decide (1125899906842624<a)))) ?_ ?_)
 ·
  cases Q:(((decide (b<0))||(decide (1125899906842624<b)))||(decide (a<0)))
  ·exact QF.gy O O O (QF.mv O O (QF.gy O O O (QF.gtr O O O (QF.pick O O O (AH O)))))
  ·exact AL O O
 refine QF.mv O O (QF.cutv 3 30 (.bool (((((decide (b<0))||(decide (1125899906842624<b)))||(decide (a<0)))||(decide (1125899906842624<a)))||(decide (c<1)))) ?_ ?_)
 ·
  cases U:((((decide (b<0))||(decide (1125899906842624<b)))||(decide (a<0)))||(decide (1125899906842624<a)))
  ·exact QF.gy O O O (QF.mv O O (QF.gy O O O (QF.lss O O O (QF.pick O O O (AH O)))))
  ·exact AL O O
 refine QF.mv O O (QF.cutv 3 34 (.bool ((((((decide (b<0))||(decide (1125899906842624<b)))||(decide (a<0)))||(decide (1125899906842624<a)))||(decide (c<1)))||(decide (1125899906842624<c)))) ?_ ?_)
 ·
  cases V:(((((decide (b<0))||(decide (1125899906842624<b)))||(decide (a<0)))||(decide (1125899906842624<a)))||(decide (c<1)))
  ·exact QF.gy O O O (QF.mv O O (QF.gy O O O (QF.gtr O O O (QF.pick O O O (AH O)))))
  ·exact AL O O
 refine AA (kp [34,0,1,2] O) (WF.if_ O (λy=>?_) (λy=>?_))
 ·
  have E:=Av y E
  refine WF.seq (WF.rp (.inl O) (QF.as_ O O (QF.as_ O O (QF.as_ O O (AA (kp [8,7,6] O) (WF.ret (λaa ww hf hw=>?_)))))))
  cases E
  exact Hb hf O hw (GF (IG hf (v:=_) O) (GF (IG hf (v:=_) O) (GF (IG hf (v:=_) O) HW))) O (BO.refl S h) ⟨O,(iq (n:=0) O),(iq (n:=0) O),hs⟩
 ·
  have E:=Aw y E
  refine WF.skip (WF.seq (WF.rc (.inl O) hs (QF.mv O O (QF.convk O Lh JH O (QF.mv O O (QF.convk O Lh JH O ?_))))))
  obtain⟨x,z,E⟩:=bd E
  refine GL (v:= .tuple #[.int .u64 x.1,.int .u64 x.2]) (Ψ:=IntKind.has .u64 x.1∧IntKind.has .u64 x.2) O O O Ts O (λh' o=>(IP (St.all h') (Cf _ _) (Cf _ _) z).mono λ_ _ _ _ p=>⟨p.1,⟨p.2.1,p.2.2.1⟩⟩) λD=>?_
  obtain⟨F,A⟩:=D
  refine QF.mv O O (QF.ext O O O (QF.ext O O O (QF.as_ O O (QF.as_ O O (Ai (kp [10,9,2] O) λG g j=>WF.seq (WF.seq (WF.rp (.inl O) (QF.mv O O (QF.mv O O (QF.convk O Lh JH O (QF.geq O O O (AA (kp [46,10,9,2] O) ?_))))))))))))
  refine WF.if_ O (λk=>?_) (λk=>?_)
  ·
   have E:=Av k E
   refine WF.seq (WF.rp (.inl O) (QF.as_ O O (QF.as_ O O (QF.as_ O O (AA (kp [8,7,6] O) (WF.ret (λaa ww hf hw=>?_)))))))
   cases E
   exact Hb hf O hw (GF (IG hf (v:=_) O) (GF (IG hf (v:=_) O) (GF (IG hf (v:=_) O) HW))) O j ⟨O,(iq (n:=0) O),(iq (n:=0) O),g⟩
  ·
   have E:=Aw k E
   refine WF.skip (WF.seq (WF.rc (.inl O) g (QF.mv O O (QF.mv O O (QF.mv O O (QF.convk O Lh JH O ?_))))))
   obtain⟨d,t,E⟩:=bd E
   refine GL (v:= .tuple #[.int .u64 d.1,.int .u64 d.2]) (Ψ:=IntKind.has .u64 d.1∧IntKind.has .u64 d.2) O O O Tr O (λh' o=>(IQ (St.all h') F A (Cf _ _) t).mono λ_ _ _ _ p=>⟨p.1,⟨p.2.1,p.2.2.1⟩⟩) λC=>?_
   obtain⟨H,I⟩:=C
   refine QF.mv O O (QF.ext O O O (QF.ext O O O (QF.as_ O O (QF.as_ O O (Ai (kp [12,11] O) λJ i u=>WF.seq (WF.seq (WF.rp (.inl O) (QF.mv O O (QF.gtr O O O (AA (kp [56,12,11] O) (WF.if_ O (λm=>?_) (λm=>?_))))))))))))
   ·
    have E:=Av m E
    refine WF.seq (WF.rp (.inl O) (QF.as_ O O (QF.as_ O O (QF.as_ O O (AA (kp [8,7,6] O) (WF.ret (λaa ww hf hw=>?_)))))))
    cases E
    exact Hb hf O hw (GF (IG hf (v:=_) O) (GF (IG hf (v:=_) O) (GF (IG hf (v:=_) O) HW))) O (j.trans u) ⟨O,(iq (n:=0) O),(iq (n:=0) O),i⟩
   ·
    have E:=Aw m E
    refine WF.skip (WF.seq (WF.rp (.inl O) (QF.mv O O (QF.convk O JH Lh O (QF.mv O O (QF.convk O JH Lh O (QF.as_ O O (QF.as_ O O (QF.as_ O O (AA (kp [8,7,6] O) (WF.ret (λaa ww hf hw=>?_))))))))))))
    cases E
    exact Hb hf O hw (GF (IG hf (v:=_) O) (GF (IG hf (v:=_) O) (GF (IG hf (v:=_) O) HW))) O (j.trans u) ⟨O,(Au _),(Au _),i⟩
theorem G9 (hs:St S L h) {c:Int}(i:AB c) {a:Int}(d:AB a) {b:Int}(g:AB b) {r:Int}(E:Gj N c a b=some r):
 BP Tryz.prog 173 #[.int .i64 c,.int .i64 a,.int .i64 b] S h (λv S' h'=>v= .int .i64 r∧AB r∧St S' (L) h'):=by
 refine Ac (l:=[.int .i64 c,.int .i64 a,.int .i64 b]) 21 Tryz.func173 O Tryz.ntmps173 O λB=>?_
 rw[Gj] at E
 refine WF.seq (WF.rp (.inl O) (QF.as_ O O (AA (kp [0,1,2] O) (WF.seq (WF.rc (.inl O) hs (QF.mv O O (QF.mv O O (QF.mv O O ?_))))))))
 obtain⟨j,m,E⟩:=bd E
 refine GL (v:= .tuple #[.int .i64 j.1,.int .i64 j.2.1,.bool j.2.2]) (Ψ:=AB j.1∧AB j.2.1) O O O O6 O (λh' o=>(HN (St.all h') i d g m).mono λ_ _ _ _ p=>⟨p.1,⟨p.2.1,p.2.2.1⟩⟩) λt=>?_
 obtain⟨u,w⟩:=t
 refine QF.mv O O (QF.ext O O O (QF.ext O O O (QF.ext O O O (QF.as_ O O (QF.as_ O O (QF.as_ O O (Ai (kp [9,7] O) λx k s=>WF.seq (WF.seq (WF.rp (.inl O) (QF.mv O O (QF.not O O (AA (kp [19,7] O) ?_))))))))))))
 refine WF.if_ O (λq=>?_) (λq=>?_)
 ·
  have E:=Av q E
  refine WF.seq (WF.rp (.inl O) (QF.as_ O O (AA (kp [6] O) (WF.ret (λaa ww hf hw=>?_)))))
  cases E
  exact CS hf hw O O s ⟨O,(iq (n:=0) O),k⟩
 ·
  have E:=Aw q E
  refine WF.skip (WF.seq (WF.rp (.inl O) (QF.mv O O (QF.as_ O O (AA (kp [6] O) (WF.ret (λaa ww hf hw=>?_)))))))
  cases E
  exact CS hf hw O O s ⟨O,u,k⟩
theorem N9 (hs:St S L h) {c:Value}{k:AX}(j:Rd S h A0 c k) {a:Int}(b:AB a) {d:Int}(g:AB d) {r:Int}(E:Kx N k a d=some r):
 BP Tryz.prog 175 #[c,.int .i64 a,.int .i64 d] S h (λv S' h'=>v= .int .i64 r∧AB r∧St S' (L) h'):=by
 refine Ac (l:=[c,.int .i64 a,.int .i64 d]) 20 Tryz.func175 O Tryz.ntmps175 O λB=>?_
 rw[Kx] at E
 refine WF.seq (WF.rl (LF.boxp O j (λe=>by cases e) O hs λV W X i H u=>LF.q 1 (QF.as_ O O (AE (LF.nil (kp [3,1,2] O) (WF.seq (WF.seq (WF.rp (.inl O) (QF.fa O u AX.f_To E8 O λY I=>QF.ldi Aa i.1 O I AN O λZ=>QF.eql O O O (AA (kp [9,3,1,2] O) ?_))))))))))
 refine WF.if_ O (λm=>?_) (λm=>?_)
 ·
  have E:=Av m E
  refine WF.seq (WF.rp (.inl O) (QF.mv O O (QF.as_ O O (AA (kp [6] O) (WF.ret (λaa ww hf hw=>?_))))))
  cases E
  exact CS hf hw O O H ⟨O,b,i⟩
 ·
  have E:=Aw m E
  refine WF.skip (WF.seq (WF.rc (.inl O) i (QF.mv O O (QF.mv O O (QF.fa O u GO Hw O λJ w=>QF.ldi Ak i.1 O w AN O λx=>QF.fa O u FQ HZ O λK y=>QF.ldi Ak i.1 O y AN O λz=>?_)))))
  obtain⟨M,p,E⟩:=bd E
  refine Af O O O Nw O (λh' o=>G9 (St.all h') g x z p) λA=>?_
  have C:=A
  obtain⟨Q,s,E⟩:=bd E
  refine Af O O O H2 O (λh' o=>CW (St.all h') b C s) λD=>?_
  have F:=D
  refine QF.max O O O (QF.as_ O O (Ai (kp [6] O) λU t G=>WF.ret (λaa ww hf hw=>?_)))
  cases E
  exact CS hf hw O O (H.trans G) ⟨O,(GQ (iq (n:=0) O) F),t⟩
theorem El (hs:St S L h) {i:Value}{k:(List BA)}(d:Sl S h A8 i k) {r:Bool}(E:DD N k=some r):
 BP Tryz.prog 89 #[i] S h (λv S' h'=>v= .bool r∧St S' (L) h'):=by
 refine Ac (l:=[i]) 63 Tryz.func89 O Tryz.ntmps89 O λB=>?_
 rw[DD] at E
 refine WF.seq (WF.rp (.inl O) (QF.as_ O O (AA (kp [0] O) (WF.seq (WF.seq (WF.rp (.inl O) (QF.mv O O (QF.len O d GG O λb1=>QF.lss O O O (QF.mv O O (QF.cutv 4 12 (.bool ((decide ((↑k.length:Int)<1))||(decide (32<(↑k.length:Int))))) ?_ ?_))))))))))
 ·
  cases c2:(decide ((↑k.length:Int)<1))
  ·exact QF.gy O O O (QF.mv O O (QF.gy O O O (QF.len O d GG O λb3=>QF.gy O O O (QF.gtr O O O (QF.pick O O O (AH O))))))
  ·exact AL O O
 refine AA (kp [12,0] O) (WF.if_ O (λZ=>?_) (λZ=>?_))
 ·
  have E:=Av Z E
  refine WF.seq (WF.rp (.inl O) (QF.as_ O O (AA (kp [2] O) (WF.ret (λaa ww hf hw=>?_)))))
  cases E
  exact CS hf hw O O (BO.refl S h) ⟨O,hs⟩
 ·
  have E:=Aw Z E
  refine WF.skip (WF.seq (WF.seq (WF.rp (.inl O) (QF.mv O O (QF.len O d GG O λb5=>QF.mv O O (AA (kp [15,14,13,0] O) (WF.blockJ (λa w=>IV B S h (63,[]) a w [] (L) λ_ _=>F4 N=some r) ?_ ?_)))))))
  ·
   refine WF.loopF (λn1=>λa w=>∃(y:Int),IV B S h (63,[]) a w [(14,.int .i64 (↑k.length:Int)),(13,i),(0,i),(15,.int .i64 y)] (L) λ_ _=>AB y∧EA N k (F4 N) n1 y=some r) N ?_ ?_ ?_
   ·
    intro aa ww hf hw
    exact⟨0,_,_,hf.sub (kp [14,13,0,15] O),hw,hs,(BO.refl S h),(iq (n:=0) O),E⟩
   ·
    rintro aa ww ⟨_,_,_,_,_,_,_,_,E⟩
    rw[EA] at E;cases E
   ·
    rintro n1 aa ww ⟨y,aq,ar,hf,hw,p,m,r9,E⟩
    refine WF.run ?_ hf hw
    clear hf hw ww aa
    rw[EA] at E
    refine WF.seq (WF.rp (.inl O) (QF.lss O O O (AA (kp [16,14,13,0,15] O) (WF.seq (WF.if_ O (λt=>?_) (λt=>?_))))))
    ·
     have E:=Av t E
     refine WF.skip (WF.seq (WF.block (WF.seq (WF.rl (LF.q 3 (QF.mv O O ?_))))))
     have ab:=d.mono' m
     obtain⟨b,z,E⟩:=bd E
     refine QF.ixe O O ab GG z O λau ac=>QF.ld Aa p.1 O ac Ms (λe=>by cases e) O λav ad=>AE (LF.al Qh O p λaw ax A o=>LF.q 1 (QF.as_ O O (AE ?_)))
     have ae:=ad.mono o
     obtain⟨rfl,⟨ay,az⟩⟩:=A8.ex ae
     refine Aj (vs:=[.int .i64 b.X,.int .i64 b.Y]) O O O O Ms O A .head O λa0 c s=>LF.nil (kp [3,4,14,13,0,15] O) (WF.seq (WF.seq (WF.rp (.inl O) (QF.fao O HF O (AI Aa c O mh O AN O (QF.lss O O O (QF.mv O O (QF.cutv 4 27 (.bool ((decide (b.X<0))||(decide (1125899906842624<b.X)))) ?_ ?_))))))))
     ·
      cases a1:(decide (b.X<0))
      ·exact QF.gy O O O (QF.fao O HF O (QF.gy O O O (AI Aa c O mh O AN O (QF.gy O O O (QF.gtr O O O (QF.pick O O O (AH O)))))))
      ·exact AL O O
     refine QF.mv O O (QF.cutv 4 32 (.bool (((decide (b.X<0))||(decide (1125899906842624<b.X)))||(decide (b.Y<0)))) ?_ ?_)
     ·
      cases a2:((decide (b.X<0))||(decide (1125899906842624<b.X)))
      ·exact QF.gy O O O (QF.fao O GW O (QF.gy O O O (AI Aa c O mh O AN O (QF.gy O O O (QF.lss O O O (QF.pick O O O (AH O)))))))
      ·exact AL O O
     refine QF.mv O O (QF.cutv 4 37 (.bool ((((decide (b.X<0))||(decide (1125899906842624<b.X)))||(decide (b.Y<0)))||(decide (1125899906842624<b.Y)))) ?_ ?_)
     ·
      cases a3:(((decide (b.X<0))||(decide (1125899906842624<b.X)))||(decide (b.Y<0)))
      ·exact QF.gy O O O (QF.fao O GW O (QF.gy O O O (AI Aa c O mh O AN O (QF.gy O O O (QF.gtr O O O (QF.pick O O O (AH O)))))))
      ·exact AL O O
     refine AA (kp [37,3,4,14,13,0,15] O) (WF.if_ O (λu=>?_) (λu=>?_))
     ·
      have E:=Av u E
      refine WF.seq (WF.rp (.inl O) (QF.as_ O O (AA (kp [2] O) (WF.ret (λaa ww hf hw=>?_)))))
      have C:=c.drop .head
      cases E
      have D:=m.trans (o.trans s)
      exact CS hf hw O O D ⟨O,C⟩
     ·
      have E:=Aw u E
      refine WF.skip (WF.seq (WF.rp (.inr ⟨mo,by kernel_rfl⟩) (QF.mv O O (QF.gtr O O O (QF.mv O O ?_)))))
      obtain⟨af,g,E⟩:=bd E
      refine QF.cutv 21 61 (.bool af) ?_ ?_
      ·
       cases F:(decide (0<y))
       ·
        have g:=Aw F g
        cases g
        exact AL O O
       ·
        have g:=Av F g
        refine QF.gy O O O (QF.fao O HF O (QF.gy O O O (AI Aa c O mh O AN O (QF.gy O O O (QF.mv O O (QF.gy O O O (QF.mv O O (QF.gy O O O (QF.subw O O O (QF.gy O O O ?_))))))))))
        have G:=m.trans (o.trans s)
        have ag:=d.mono' G
        obtain⟨ah,H,g⟩:=bd g
        refine QF.ixe O O ag GG H O λa4 ai=>QF.gy O O O (QF.fa O ai I0 HF O λa5 aj=>QF.gy O O O (QF.ldi Aa c.1 O aj AN O λa6=>QF.gy O O O (QF.leq O O O (QF.gy O O O (QF.mv O O ?_)))))
        obtain⟨ak,j,g⟩:=bd g
        refine QF.cutv 10 60 (.bool ak) ?_ ?_
        ·
         cases I:(decide (b.X≤ah.X))
         ·
          have j:=Aw I j
          refine QF.gy O O O (QF.fao O GW O (QF.gy O O O (AI Aa c O mh O AN O (QF.gy O O O (QF.mv O O (QF.gy O O O (QF.mv O O (QF.gy O O O (QF.subw O O O (QF.gy O O O ?_))))))))))
          have J:=m.trans (o.trans s)
          have am:=d.mono' J
          obtain⟨a7,K,j⟩:=bd j
          refine QF.ixe O O am GG K O λa8 an=>QF.gy O O O (QF.fa O an Iz GW O λa9 ao=>QF.gy O O O (QF.ldi Aa c.1 O ao AN O λba=>QF.gy O O O (QF.lss O O O (QF.gy O O O (QF.pick O O O ?_)))))
          cases j
          exact AH O
         ·
          have j:=Av I j
          cases j
          exact AL O O
        refine QF.pick O O O ?_
        cases g
        exact AH O
      refine AA (kp [61,14,13,0,15] O) (WF.if_ O (λx=>?_) (λx=>?_))
      ·
       have E:=Av x E
       refine WF.seq (WF.rp (.inl O) (QF.as_ O O (AA (kp [2] O) (WF.ret (λaa ww hf hw=>?_)))))
       have M:=c.drop .head
       cases E
       have Q:=m.trans (o.trans s)
       exact CS hf hw O O Q ⟨O,M⟩
      ·
       have E:=Aw x E
       refine WF.skip (Al (WF.rp (.inl O) (QF.addw O O O (QF.mv O O (AA (kp [15,14,13,0] O) (WF.nil (λaa ww hf hw=>?_)))))))
       have U:=c.drop .head
       have V:=m.trans (o.trans s)
       exact⟨(Ar (y+1)),_,_,hf.sub (kp [14,13,0,15] O),hw,U,V,(Au _),E⟩
    ·
     have E:=Aw t E
     refine WF.exit O (λaa ww hf hw=>?_)
     exact⟨_,_,hf.sub KI,hw,p,m,E⟩
  ·
   rintro aa ww ⟨bb,bc,hf,hw,W,ap,E⟩
   refine WF.run ?_ hf hw
   clear hf hw ww aa
   rw[F4] at E
   refine WF.seq (WF.rp (.inl O) (QF.as_ O O (AA (kp [2] O) (WF.ret (λaa ww hf hw=>?_)))))
   cases E
   exact CS hf hw O O ap ⟨O,W⟩
theorem M7 (hs:St S L h) {d:Int}(q:AB d) {c:Value}{p:(Int→Option Bool)}(s:Rd S h (AW.fn Tryz.prog (λx:Int=>([.int .i64 x]:List Value)) (λx:Int=>AB x) (λy:Bool=> .bool y) (λy:Bool=>True)) c p) {r:Int}(E:H3 N d p=some r):
 BP Tryz.prog 165 #[.int .i64 d,c] S h (λv S' h'=>v= .int .i64 r∧AB r∧St S' (L) h'):=by
 refine Ac (l:=[.int .i64 d,c]) 26 Tryz.func165 O Tryz.ntmps165 O λB=>?_
 rw[H3] at E
 obtain⟨H,I,rfl,J,K⟩:=s.fn
 refine WF.seq (WF.rp (.inl O) (QF.as_ O O (AA (kp [0,1] O) (WF.seq (WF.rp (.inl O) (QF.mv O O (QF.as_ O O (QF.as_ O O (AA (kp [6,5,1] O) (WF.seq (WF.blockJ (λa w=>∃(G:Int),IV B S h (26,[]) a w [(5,.int .i64 G)] (L) λ_ _=>AB G∧Fy N G=some r) ?_ ?_)))))))))))
 ·
  refine WF.loopF (λU=>λa w=>∃(g:Int) (i:Int),IV B S h (26,[]) a w [(1,(.func (.func H) #[] I)),(5,.int .i64 g),(6,.int .i64 i)] (L) λ_ _=>AB g∧AB i∧DR N p (Fy N) U g i=some r) N ?_ ?_ ?_
  ·
   intro aa ww hf hw
   exact⟨0,d,_,_,hf.sub (kp [1,5,6] O),hw,hs,(BO.refl S h),(iq (n:=0) O),q,E⟩
  ·
   rintro aa ww ⟨_,_,_,_,_,_,_,_,_,_,E⟩
   rw[DR] at E;cases E
  ·
   rintro U aa ww ⟨g,i,V,W,hf,hw,k,m,A,M,E⟩
   refine WF.run ?_ hf hw
   clear hf hw ww aa
   rw[DR] at E
   refine WF.seq (WF.seq (WF.rp (.inl O) (QF.mv O O (QF.mv O O (QF.lss O O O (AA (kp [11,1,5,6] O) (WF.if_ O (λu=>?_) (λu=>?_))))))))
   ·
    have E:=Av u E
    refine WF.skip (WF.block (WF.seq (WF.rp (.inl O) (QF.mv O O (QF.mv O O (QF.addw O O O (QF.convk O Lh NP O (QF.shrk (j:=1) O O O O (QF.convk O NP Lh O (QF.as_ O O (AA (kp [7,1,5,6] O) (WF.seq (WF.rc (.inl O) k ?_)))))))))))))
    refine QF.mv O O (QF.mv O O ?_)
    obtain⟨X,C,E⟩:=bd E
    refine AZ O O O J O (λh' o=>K _ h' (λb hb=>Nat.lt_of_lt_of_le (k.1 b (m.sub b hb)) o.siz) (λb hb=>(o.same b (k.1 b (m.sub b hb))).trans (m.same b hb)) [] (St.all h') _ _ (Au _) C) (QF.not O O (Ai (kp [21,7,1,5,6] O) λY t D=>WF.if_ O (λz=>?_) (λz=>?_)))
    ·
     have E:=Av z E
     refine WF.rp (.inl O) (QF.mv O O (QF.addw O O O (QF.as_ O O (AA (kp [5,1,6] O) (Al (WF.nil (λaa ww hf hw=>?_)))))))
     exact⟨(Ar ((Ar (Ci .u64 (IntKind.wrap .u64 (Ar (g+i))) 1))+1)),i,_,_,hf.sub (kp [1,5,6] O),hw,t,(m.trans D),(Au _),M,E⟩
    ·
     have E:=Aw z E
     refine WF.rp (.inl O) (QF.mv O O (QF.as_ O O (AA (kp [6,1,5] O) (Al (WF.nil (λaa ww hf hw=>?_))))))
     exact⟨g,(Ar (Ci .u64 (IntKind.wrap .u64 (Ar (g+i))) 1)),_,_,hf.sub (kp [1,5,6] O),hw,t,(m.trans D),A,(Au _),E⟩
   ·
    have E:=Aw u E
    refine WF.exit O (λaa ww hf hw=>?_)
    exact⟨g,_,_,hf.sub (kp [5] O),hw,k,m,A,E⟩
 ·
  rintro aa ww ⟨G,Z,ab,hf,hw,F,Q,r6,E⟩
  refine WF.run ?_ hf hw
  clear hf hw ww aa
  rw[Fy] at E
  refine WF.seq (WF.rp (.inl O) (QF.mv O O (QF.as_ O O (AA (kp [4] O) (WF.ret (λaa ww hf hw=>?_))))))
  cases E
  exact CS hf hw O O Q ⟨O,r6,F⟩
end Go.Proofs.YtibidnaedddfdaaGreat
