import Derived.Test.YtibidnaedddfdaaGreatCWalk9
namespace Go.Proofs.YtibidnaedddfdaaGreat
open Go.RowKit
set_option linter.unusedVariables false
set_option linter.unusedSimpArgs false
set_option maxRecDepth 10000
set_option maxHeartbeats 2000000
variable {N:Nat}{S:Nat→Prop}{L:List HP}{h:AX}
theorem HR (hs:St S L h) {a:Value}{c0_:AD}(i:Pt S h AF a c0_) {b:Value}{c1_:Int}(j:Pt S h AV.int b c1_) {c:Value}{c2_:Int}(k:Pt S h AV.int c c2_) {r:AD}(E:EL N c0_ c1_ c2_=some r):
 Bf Tryz.prog 105 #[a,b,c] S h (λv S' h'=>v= .agg #[.int .i64 r.Lo,.int .i64 r.Hi]∧AD.ok r∧St S' (L) h'):=by
 refine Ab (l:=[a,b,c]) 18 Tryz.func105 O Tryz.ntmps105 O λB=>?_
 rw[EL] at E
 refine WF.seq (WF.rl (LF.al Ee O hs λb1 h2 d x=>LF.nil (kp [3,0,1,2] O) (WF.seq (Ed 14 mo (by kernel_rfl) O d ?_))))
 have y:=i.mono x
 refine QF.fa O y AD.f_Lo DE O λq6 V=>QF.ldi Ai d.1 O V AL O λW=>?_
 have X:=j.mono x
 refine QF.ldi Ai d.1 O X AL O λz=>?_
 obtain⟨m,p,E⟩:=bd E
 refine Ao O O O H0 O (λh' o=>DT (St.all h') W z p) λA=>?_
 have C:=A
 refine QF.max O O O (QF.fa O y AD.f_Hi Cn O λY D=>QF.ldi Ai d.1 O D AL O λF=>QF.fa O y AD.f_Hi Cn O λZ G=>QF.ldi Ai d.1 O G AL O λH=>?_)
 have I:=k.mono x
 refine QF.ldi Ai d.1 O I AL O λJ=>?_
 obtain⟨q,s,E⟩:=bd E
 refine Ao O O O H0 O (λh' o=>DT (St.all h') H J s) λK=>?_
 have M:=K
 refine QF.min O O O (QF.max O O O (QF.bld (cs:=[.int .i64 (max 0 m),.int .i64 (max 0 (min c0_.Hi q))]) HD O O O (Dj λab t Q=>Ad (vs:=[.int .i64 (max 0 m),.int .i64 (max 0 (min c0_.Hi q))]) O O O O Ag O t .head O λac g U=>LF.nil (kp [3] O) (WF.ret (λaa ww hf hw=>?_)))))
 have u:=g.drop .head
 cases E
 have w:=x.trans (Q.trans U)
 exact HQ hf O hw (Gk (LD hf hw g O mh Ag O) HC) O w ⟨O,⟨(Fj (iq (n:=0) O) C),(Fj (iq (n:=0) O) (Gg F M))⟩,u⟩
theorem DV (hs:St S L h) {i:Value}{k:(List Az)}(t:Sl S h BS i k) {d:Value}{c:Az}(u:Rd S h BS d c) {p:Value}{m:((Az×Az)→Option Int)}(F:Rd S h (AV.fn Tryz.prog (λx:(Az×Az)=>([.agg #[.int .i64 x.1.At,.int .i64 x.1.To,.int .i64 x.1.Vol.Lo,.int .i64 x.1.Vol.Hi],.agg #[.int .i64 x.2.At,.int .i64 x.2.To,.int .i64 x.2.Vol.Lo,.int .i64 x.2.Vol.Hi]]:List Value)) (λx:(Az×Az)=>Az.ok x.1∧Az.ok x.2) (λy:Int=> .int .i64 y) (λy:Int=>AB y)) p m) {r:Int×Bool}(E:AW N k c m=some r):
 Bf Tryz.prog 124 #[i,d,p] S h (λv S' h'=>v= .tuple #[.int .i64 r.1,.bool r.2]∧AB r.1∧St S' (L) h'):=by
 refine Ab (l:=[i,d,p]) 49 Tryz.func124 O Tryz.ntmps124 O λB=>?_
 rw[AW] at E
 obtain⟨Q,U,rfl,V,W⟩:=F.fn
 refine WF.seq (WF.rl (LF.boxp O u (λe=>by cases e) O hs λq5 S6 h7 ai I X=>LF.q 2 (QF.as_ O O (QF.as_ O O (AG (LF.nil (kp [4,0,2] O) (WF.seq (WF.rp (.inl O) (QF.mv O O ?_)))))))))
 have aj:=t.mono' I
 refine QF.len O aj Fc O λak=>QF.as_ O O (AA (kp [8,4,0,2] O) (WF.seq (WF.rp (.inl O) (QF.mv O O (QF.as_ O O (QF.as_ O O (AA (kp [10,9,8,4,0,2] O) (WF.seq (WF.blockJ (λa w=>∃(H:Int),IV B S6 h7 (49,[]) a w [(8,.int .i64 (↑k.length:Int)),(4,q5),(0,i),(2,(.func (.func Q) #[] U)),(9,.int .i64 H)] (L) λ_ _=>AB H∧AS N k c m H=some r) ?_ ?_)))))))))
 ·
  refine WF.loopF (λn1=>λa w=>∃(z:Int) (D:Int),IV B S6 h7 (49,[]) a w [(8,.int .i64 (↑k.length:Int)),(4,q5),(0,i),(2,(.func (.func Q) #[] U)),(9,.int .i64 z),(10,.int .i64 D)] (L) λ_ _=>AB z∧AB D∧AN N k c m (AS N k c m) n1 z D=some r) N ?_ ?_ ?_
  ·
   intro aa ww hf hw
   exact⟨0,(↑k.length:Int),_,_,hf.sub (kp [8,4,0,2,9,10] O),hw,ai,(Bc.refl S6 h7),(iq (n:=0) O),(Jk ak),E⟩
  ·
   rintro aa ww ⟨_,_,_,_,_,_,_,_,_,_,E⟩
   rw[AN] at E;cases E
  ·
   rintro n1 aa ww ⟨z,D,bl,bm,hf,hw,s,A,Y,am,E⟩
   refine WF.run ?_ hf hw
   clear hf hw ww aa
   rw[AN] at E
   refine WF.seq (WF.seq (WF.rp (.inl O) (QF.mv O O (QF.mv O O (QF.lss O O O (AA (kp [17,8,4,0,2,9,10] O) (WF.if_ O (λK=>?_) (λK=>?_))))))))
   ·
    have E:=A0 K E
    refine WF.skip (WF.block (WF.seq (WF.rp (.inl O) (QF.mv O O (QF.mv O O (QF.addw O O O (QF.convk O LA NB O (QF.shrk (j:=1) O O O O (QF.convk O NB LA O (QF.as_ O O (AA (kp [11,8,4,0,2,9,10] O) (WF.seq (WF.rc (.inr ⟨mo,by kernel_rfl⟩) s ?_)))))))))))))
    refine QF.mv O O (QF.mv O O (QF.mv O O ?_))
    have an:=t.mono' (I.trans A)
    obtain⟨bn,Z,E⟩:=bd E
    refine QF.ixe O O an Fc Z O λbo ao=>QF.ld Ai s.1 O ao Jz (λe=>by cases e) O λbp ap=>?_
    have aq:=X.mono A
    refine QF.ld Ai s.1 O aq Jz (λe=>by cases e) O λbq ar=>?_
    obtain⟨rfl,⟨au,av,aw,ax⟩⟩:=BS.ex ap
    obtain⟨rfl,⟨ay,az,a0,a1⟩⟩:=BS.ex ar
    obtain⟨br,ab,E⟩:=bd E
    refine Ao O O O V O (λh' o=>W _ h' (λb hb=>Nat.lt_of_lt_of_le (s.1 b ((I.trans A).sub b hb)) o.siz) (λb hb=>(o.same b (s.1 b ((I.trans A).sub b hb))).trans ((I.trans A).same b hb)) [] (St.all h') _ _ ⟨⟨au,av,aw,ax⟩,⟨ay,az,a0,a1⟩⟩ ab) λa2=>?_
    have bt:=a2
    refine QF.lss O O O (Ak (kp [31,11,8,4,0,2,9,10] O) λbu J ac=>WF.if_ O (λM=>?_) (λM=>?_))
    ·
     have E:=A0 M E
     refine WF.rp (.inl O) (QF.mv O O (QF.addw O O O (QF.as_ O O (AA (kp [9,8,4,0,2,10] O) (Ap (WF.nil (λaa ww hf hw=>?_)))))))
     exact⟨(Aw ((Aw (Ce .u64 (IntKind.wrap .u64 (Aw (z+D))) 1))+1)),D,_,_,hf.sub (kp [8,4,0,2,9,10] O),hw,J,(A.trans ac),(BA _),am,E⟩
    ·
     have E:=A3 M E
     refine WF.rp (.inl O) (QF.mv O O (QF.as_ O O (AA (kp [10,8,4,0,2,9] O) (Ap (WF.nil (λaa ww hf hw=>?_))))))
     exact⟨z,(Aw (Ce .u64 (IntKind.wrap .u64 (Aw (z+D))) 1)),_,_,hf.sub (kp [8,4,0,2,9,10] O),hw,J,(A.trans ac),Y,(BA _),E⟩
   ·
    have E:=A3 K E
    refine WF.exit O (λaa ww hf hw=>?_)
    exact⟨z,_,_,hf.sub (kp [8,4,0,2,9] O),hw,s,A,Y,E⟩
 ·
  rintro aa ww ⟨H,bv,bw,hf,hw,C,G,a3,E⟩
  refine WF.run ?_ hf hw
  clear hf hw ww aa
  rw[AS] at E
  refine WF.seq (WF.rc (.inr ⟨mo,by kernel_rfl⟩) C (QF.mv O O (QF.mv O O (QF.mv O O (QF.lss O O O (QF.mv O O ?_))))))
  obtain⟨a4,g,E⟩:=bd E
  refine QF.cutv 9 48 (.bool a4) ?_ ?_
  ·
   cases ad:(decide (H<(↑k.length:Int)))
   ·
    have g:=A3 ad g
    cases g
    exact AK O O
   ·
    have g:=A0 ad g
    refine QF.gy O O O (QF.mv O O (QF.gy O O O (QF.mv O O (QF.gy O O O (QF.mv O O (QF.gy O O O ?_))))))
    have a5:=t.mono' (I.trans G)
    obtain⟨bx,ae,g⟩:=bd g
    refine QF.ixe O O a5 Fc ae O λbz a6=>QF.gy O O O (QF.ld Ai C.1 O a6 Jz (λe=>by cases e) O λb0 a7=>QF.gy O O O ?_)
    have a8:=X.mono G
    refine QF.ld Ai C.1 O a8 Jz (λe=>by cases e) O λb1 a9=>QF.gy O O O ?_
    obtain⟨rfl,⟨ba,bb,bc,be⟩⟩:=BS.ex a7
    obtain⟨rfl,⟨bf,bg,bh,bi⟩⟩:=BS.ex a9
    obtain⟨b2,af,g⟩:=bd g
    refine Ao O O O V O (λh' o=>W _ h' (λb hb=>Nat.lt_of_lt_of_le (C.1 b ((I.trans G).sub b hb)) o.siz) (λb hb=>(o.same b (C.1 b ((I.trans G).sub b hb))).trans ((I.trans G).same b hb)) [] (St.all h') _ _ ⟨⟨ba,bb,bc,be⟩,⟨bf,bg,bh,bi⟩⟩ af) λbj=>?_
    have b3:=bj
    refine QF.gy O O O (QF.eql O O O (QF.pick O O O ?_))
    cases g
    exact AH O
  refine QF.as_ O O (QF.as_ O O (Ak (kp [7,6] O) λb4 ag bk=>WF.ret (λaa ww hf hw=>?_)))
  cases E
  have ah:=I.trans (G.trans bk)
  exact HQ hf O hw (Gk (Jj hf (v:=_) O) (Gk (Jj hf (v:=_) O) HC)) O ah ⟨O,a3,ag⟩
theorem Oy {g:Value}{s:(List Az)}(hs:St S (OS BS 93 g s::L) h) {a:Int}(k:AB a) {c:Int}(m:AB c) {j:Value}{A:AD}(w:Rd S h AF j A) {r:(List Az)}(E:IR N s a c A=some r):
 Bf Tryz.prog 67 #[g,.int .i64 a,.int .i64 c,j] S h (λv S' h'=>St S' (OS BS 93 v r::L) h'):=by
 refine Ab (l:=[g,.int .i64 a,.int .i64 c,j]) 46 Tryz.func67 O Tryz.ntmps67 O λB=>?_
 rw[IR] at E
 refine WF.seq (WF.rl (LF.boxp O w (λe=>by cases e) O hs λq1 S2 h3 t e5 k6=>LF.q 1 (QF.as_ O O (AG (LF.nil (kp [7,0,1,2] O) (WF.seq (WF.seq (WF.rp (.inl O) (QF.fa O k6 AD.f_Hi Cn O λq7 k8=>QF.ldi Af t.1 O k8 AL O λr9=>QF.leq O O O (AA (kp [13,7,0,1,2] O) ?_))))))))))
 refine WF.if_ O (λC=>?_) (λC=>?_)
 ·
  have E:=A0 C E
  refine WF.seq (WF.rp (.inl O) (QF.mv O O (QF.as_ O O (AA (kp [8] O) (WF.ret (λaa ww hf hw=>?_))))))
  cases E
  exact DD hf hw O O e5 t
 ·
  have E:=A3 C E
  refine WF.skip (WF.seq (WF.rc (.inl O) t (QF.mv O O (QF.mv O O (QF.mv O O (QF.bld (cs:=[.int .i64 a,.int .i64 c,.int .i64 0,.int .i64 0]) WU O O O ?_))))))
  have F:Rd S2 h3 (AV.fn Tryz.prog (λx:(Az×Az)=>([.agg #[.int .i64 x.1.At,.int .i64 x.1.To,.int .i64 x.1.Vol.Lo,.int .i64 x.1.Vol.Hi],.agg #[.int .i64 x.2.At,.int .i64 x.2.To,.int .i64 x.2.Vol.Lo,.int .i64 x.2.Vol.Hi]]:List Value)) (λx:(Az×Az)=>Az.ok x.1∧Az.ok x.2) (λy:Int=> .int .i64 y) (λy:Int=>AB y)) (.func (.func 46) #[] #[]) (λx=>DX N x.1 x.2):=JV 46 #[] Wh λS' h' s' e' L hs x y h1 h2=>(J7 hs (BS.mk (x:=x.1) h1.1) (BS.mk (x:=x.2) h1.2) h2).mono λ_ _ _ _ p=>p
  obtain⟨ak,G,E⟩:=bd E
  refine Ao O O O Xn O (λh' o=>DV (St.all h') ((t.oslAll mh).mono (λb hb=>Nat.lt_of_lt_of_le hb o.siz) (λb hb=>o.same b hb)) (BS.mk (x:=(⟨a,c,(⟨0,0⟩:AD)⟩:Az)) ⟨k,m,(iq (n:=0) O),(iq (n:=0) O)⟩) (F.mono (o.all t.1)) G) λam=>?_
  have an:=am
  refine QF.mv O O (QF.ext O O O (QF.ext O O O (QF.as_ O O (QF.as_ O O (Ak (kp [10,9,7,0,1,2] O) λbe d z=>WF.seq (WF.seq (WF.rp (.inl O) (QF.mv O O (AA (kp [23,9,7,0,1,2] O) (WF.if_ O (λD=>?_) (λD=>?_)))))))))))
  ·
   have E:=A0 D E
   refine WF.seq (Ed 12 mo (by kernel_rfl) O d (QF.mv O O (QF.mv O O (QF.mv O O (QF.mv O O ?_)))))
   obtain⟨bf,H,E⟩:=bd E
   refine QF.ixoe d mh O O Fc H O λbg I=>QF.fae O I Kc O λbh J=>?_
   obtain⟨bi,K,E⟩:=bd E
   have ao:=d.epAt mh K Az.f_Vol J
   refine QF.ld Ai (λ_ x=>x) O ao Ag (λe=>by cases e) O λbj ap=>?_
   have aq:=k6.mono z
   refine QF.ld Ai d.1 O aq Ag (λe=>by cases e) O λbk ar=>?_
   obtain⟨au,M,E⟩:=bd E
   refine Ao O O O Q5 O (λh' o=>JL (St.all h') (ap.mono (o.all d.1)) (ar.mono (o.all d.1)) M) λav=>?_
   obtain⟨aw,ax⟩:=av
   obtain⟨ay,Q,E⟩:=bd E
   refine Ao O O O Q4 O (λh' o=>HW (St.all h') (AF.mk (x:=au) ⟨aw,ax⟩) Q) λaz=>?_
   obtain⟨a0,a1⟩:=az
   obtain⟨bl,U,E⟩:=bd E
   refine QF.ixoe d mh O O Fc U O λbm V=>QF.fae O V Kc O λbn W=>Dj λbo X a2=>?_
   obtain⟨a3,Y,E⟩:=bd E
   refine LF.ste (r:=BS) (l:=s) (i:=ak.1) (x:=a3) O O (AF.mk (x:=ay) ⟨a0,a1⟩) W Y Az.u_Vol Ag (λe=>by cases e) X .head λbp Z a4=>LF.nil (kp [0] O) (WF.seq (WF.rp (.inl O) (QF.mv O O (QF.as_ O O (AA (kp [8] O) (WF.ret (λaa ww hf hw=>?_)))))))
   cases E
   have ab:=e5.trans (z.trans (a2.trans a4))
   exact DD hf hw O O ab Z
  ·
   have E:=A3 D E
   refine WF.skip (WF.seq (WF.rl (LF.q 5 (QF.mv O O (QF.mv O O (QF.mv O O (QF.mv O O ?_)))))))
   have a5:=k6.mono z
   refine QF.ld Af d.1 O a5 Ag (λe=>by cases e) O λbq a6=>AG ?_
   obtain⟨u,ac,E⟩:=bd E
   refine LF.callb O O O Q4 O d (HW (St.all _) (a6.mono ⟨λb hb=>d.1 b hb,λ_ _=>rfl,Nat.le_refl _⟩) ac) λbr bt bu ad a7 bv p=>?_
   obtain⟨rfl,⟨a8,a9⟩,bc⟩:=p
   refine LF.q 1 (QF.bld (cs:=[.int .i64 a,.int .i64 c,.int .i64 u.Lo,.int .i64 u.Hi]) WU O O O (AG (Hd (cs:=[.int .i64 a,.int .i64 c,.int .i64 u.Lo,.int .i64 u.Hi]) QB O O O O O O O ad λbw bx ae ba=>?_)))
   have af:=ae.bxos (r:=BS) (l:=([(⟨a,c,u⟩:Az)]:List Az)) .head ⟨_,_,O,⟨O,⟨k,m,a8,a9⟩⟩,O⟩ (by simp [maxLen])
   have ag:=af.sel [1,0] 0 O
   obtain⟨bz,ah,E⟩:=bd E
   refine LF.call O O O Xm O (LX ag an ah) λb0 b1 b2 bb p=>?_
   have ai:=p
   refine LF.q 1 (QF.as_ O O (AG (LF.nil (kp [8] O) (WF.ret (λaa ww hf hw=>?_)))))
   cases E
   have aj:=e5.trans (z.trans (a7.trans (ba.trans bb)))
   exact DD hf hw O O aj ai
theorem IP {c:Nat}{p0_w:Ac}{s:Value}{t:Value}{u:Value}{w:Value}{x:Value}{y:Value}{z:Value}{A:Value}{g:Value}{C:Value}{j:Value}{k:Value}(hs:St S (Bx c 106 [.string p0_w.b.Name,s,.int .i64 p0_w.b.Cells,t,u,w,x,y,z,A,.int .i64 p0_w.b.Err,.int .i64 p0_w.h.Hour,g,C,j,k]::OS AF 51 g p0_w.h.Vol::OS BS 93 C p0_w.h.Queue::OS AZ 97 j p0_w.h.Links::OS AF 51 k p0_w.peaks::L) h) (X:p0_w.b.Name.size≤maxLen) (Y:Sl S h AV.str s p0_w.b.Owners) (Z:AB p0_w.b.Cells) (ab:Sl S h BO t p0_w.b.Places) (ac:Sl S h A9 u p0_w.b.Links) (ad:Sl S h EK w p0_w.b.Towns) (ae:Sl S h Di x p0_w.b.Gauges) (af:Sl S h Et y p0_w.b.Roads) (ag:Sl S h Cc z p0_w.b.Shelters) (ah:Sl S h AV.int A p0_w.b.Room) (W:AB p0_w.b.Err) (H:AB p0_w.h.Hour) {D:Int}(J:AB D) {d:Int}(G:AB d) {F:Value}{I:AD}(Q:Rd S h AF F I) {r:(List Az)}(E:E0 N p0_w D d I=some r):
 Bf Tryz.prog 107 #[.pointer (some ⟨c,0,none⟩),.int .i64 D,.int .i64 d,F] S h (λv S' h'=>∃w_0_13:Value,v= .tuple #[]∧St S' (Bx c 106 [.string p0_w.b.Name,s,.int .i64 p0_w.b.Cells,t,u,w,x,y,z,A,.int .i64 p0_w.b.Err,.int .i64 p0_w.h.Hour,g,w_0_13,j,k]::OS AF 51 g p0_w.h.Vol::OS BS 93 w_0_13 r::OS AZ 97 j p0_w.h.Links::OS AF 51 k p0_w.peaks::L) h'):=by
 refine Ab (l:=[.pointer (some ⟨c,0,none⟩),.int .i64 D,.int .i64 d,F]) 30 Tryz.func107 O Tryz.ntmps107 O λB=>?_
 rw[E0] at E
 refine WF.seq (WF.rl (LF.boxp O Q (λe=>by cases e) O hs λq1 S2 h3 n e5 k6=>LF.nil (kp [7,0,1,2] O) (WF.seq (WF.rp (.inl O) (QF.mv O O (QF.neq O O O (AA (kp [9,7,0,1,2] O) (WF.if_ O (λc7=>?_) (λc7=>?_)))))))))
 ·
  have E:=A0 c7 E
  refine X6 (m:=[(7,q1),(0,.pointer (some ⟨c,0,none⟩)),(1,.int .i64 D),(2,.int .i64 d)]) 16 [0] (λi v hh=>match i with|0=>v= .pointer (some ⟨c,0,none⟩)|1=>v= .pointer (some ⟨c,0,none⟩)|2=>v= .pointer (some ⟨c,0,none⟩)|3=>v= .pointer (some ⟨c,11,none⟩)|4=>v= .pointer (some ⟨c,13,none⟩)|5=>v=C|6=>v= .pointer (some ⟨c,0,none⟩)|7=>v= .pointer (some ⟨c,0,none⟩)|8=>v= .pointer (some ⟨c,11,none⟩)|9=>v= .pointer (some ⟨c,11,none⟩)|10=>v= .int .i64 p0_w.h.Hour∧AB p0_w.h.Hour|11=>v= .int .i64 (Aw (p0_w.h.Hour+1))∧AB (Aw (p0_w.h.Hour+1))|12=>v= .int .i64 d∧AB d|13=>v= .int .i64 (Aw ((Aw (p0_w.h.Hour+1))+d))∧AB (Aw ((Aw (p0_w.h.Hour+1))+d))|14=>v= .int .i64 D∧AB D|15=>Rd S2 hh AF v I|_=>False) [[],[],[(1,11)],[(2,12)],[(3,13)],[(4,14)],[],[(6,16)],[(7,17)],[(8,18)],[(9,19)],[(10,20)],[],[(11,21),(12,22)],[],[]] [(0,10),(5,15),(13,23),(14,24),(15,25)] mo (by kernel_rfl) [7,0,1,2] O (by kernel_rfl) (by kernel_rfl) (by kernel_rfl) (kp [7,0,1,2] O) (λi v h1 h2 o1 o2 hr=>?_) ?_ ?_ ?_
  ·match i,hr with
    |0,hr=>exact hr
    |1,hr=>exact hr
    |2,hr=>exact hr
    |3,hr=>exact hr
    |4,hr=>exact hr
    |5,hr=>exact hr
    |6,hr=>exact hr
    |7,hr=>exact hr
    |8,hr=>exact hr
    |9,hr=>exact hr
    |10,hr=>exact hr
    |11,hr=>exact hr
    |12,hr=>exact hr
    |13,hr=>exact hr
    |14,hr=>exact hr
    |15,hr=>exact Rd.mono hr (o2.ext λb hb=>Nat.lt_of_lt_of_le (n.1 b hb) o1.siz)
    |_+16,hr=>exact hr.elim
  ·
   refine PO.cons [] (by kernel_rfl) O O (by kernel_rfl) ?_ ?_
   ·
    intro mq hh o
    intro a hf
    exact⟨.pointer (some ⟨c,0,none⟩),KU hf O,O⟩
   exact trivial
  ·
   refine CG.cons O ?_ ?_
   ·
    intro mq hh o
    have hsN:=o.st n
    exact LF.q 1 (QF.mv O O (AG (AM (BX.refl _) O)))
   refine CG.cons O ?_ ?_
   ·
    intro mq hh o
    have hsN:=o.st n
    exact LF.q 1 (QF.mv O O (AG (AM (BX.refl _) O)))
   refine CG.cons O ?_ ?_
   ·
    intro mq hh o
    intro bh ar
    have hsN:=o.st n
    cases ar
    exact LF.q 1 (D8 O O (AG (AM (BX.refl _) O)))
   refine CG.cons O ?_ ?_
   ·
    intro mq hh o
    intro bi au
    have hsN:=o.st n
    cases au
    exact LF.q 1 (QF.fao O EE O (AG (AM (BX.refl _) O)))
   refine CG.cons O ?_ ?_
   ·
    intro mq hh o
    intro bj av
    have hsN:=o.st n
    cases av
    exact LF.q 1 (QF.fao O Ke O (AG (AM (BX.refl _) O)))
   refine CG.cons O ?_ ?_
   ·
    intro mq hh o
    intro bk aw
    have hsN:=o.st n
    cases aw
    exact LF.q 1 (AI Af hsN O mh O OE O (AG (AM (BX.refl _) O)))
   refine CG.cons O ?_ ?_
   ·
    intro mq hh o
    have hsN:=o.st n
    exact LF.q 1 (QF.mv O O (AG (AM (BX.refl _) O)))
   refine CG.cons O ?_ ?_
   ·
    intro mq hh o
    intro bl ax
    have hsN:=o.st n
    cases ax
    exact LF.q 1 (D8 O O (AG (AM (BX.refl _) O)))
   refine CG.cons O ?_ ?_
   ·
    intro mq hh o
    intro bm ay
    have hsN:=o.st n
    cases ay
    exact LF.q 1 (QF.fao O EE O (AG (AM (BX.refl _) O)))
   refine CG.cons O ?_ ?_
   ·
    intro mq hh o
    intro bn az
    have hsN:=o.st n
    cases az
    exact LF.q 1 (QF.fao O Iq O (AG (AM (BX.refl _) O)))
   refine CG.cons O ?_ ?_
   ·
    intro mq hh o
    intro bo a0
    have hsN:=o.st n
    cases a0
    exact LF.q 1 (AI Af hsN O mh O AL O (AG (AM (BX.refl _) ⟨O,H⟩)))
   refine CG.cons O ?_ ?_
   ·
    intro mq hh o
    intro bp a1
    have hsN:=o.st n
    obtain⟨rfl,bq⟩:=a1
    exact LF.q 1 (QF.addw O O O (AG (AM (BX.refl _) ⟨O,(BA _)⟩)))
   refine CG.cons O ?_ ?_
   ·
    intro mq hh o
    have hsN:=o.st n
    exact LF.q 1 (QF.mv O O (AG (AM (BX.refl _) ⟨O,G⟩)))
   refine CG.cons O ?_ ?_
   ·
    intro mq hh o
    intro br a2 bt a3
    have hsN:=o.st n
    obtain⟨rfl,bu⟩:=a2
    obtain⟨rfl,bv⟩:=a3
    exact LF.q 1 (QF.addw O O O (AG (AM (BX.refl _) ⟨O,(BA _)⟩)))
   refine CG.cons O ?_ ?_
   ·
    intro mq hh o
    have hsN:=o.st n
    exact LF.q 1 (QF.mv O O (AG (AM (BX.refl _) ⟨O,J⟩)))
   refine CG.cons O ?_ ?_
   ·
    intro mq hh o
    have hsN:=o.st n
    refine LF.q 1 ?_
    have a4:=k6.mono (o.ext n.1)
    exact QF.ld Af hsN.1 O a4 Ag (λe=>by cases e) O λbw a5=>AG (AM (BX.refl _) a5)
   exact trivial
  intro a6 ai bx a7 bz a8 b0 a9 b1 ba bb K
  have aj:=SN.st n ai
  cases a7
  cases a8
  obtain⟨rfl,bc⟩:=a9
  obtain⟨rfl,be⟩:=ba
  have K:=Rd.mono (S':=(SN S2 h3 a6)) K ⟨λb hb=> .inl hb,λ_ _=>rfl,Nat.le_refl _⟩
  have K:Rd _ _ AF bb I:=K
  have ak:=aj.pick (.tail (.tail .head))
  obtain⟨am,an,E⟩:=bd E
  refine LF.call O O O ZM O (Oy ak bc be K an) λb2 b3 b4 bf p=>?_
  have U:=p
  refine LF.q 3 (D8 O O (QF.fao O EE O (QF.fao O Ke O (AG ?_))))
  obtain⟨V,M,rfl,b5⟩:=U.oslen mh
  refine H3 (vs:=[(.slice V am.length M)]) (cs':=[.string p0_w.b.Name,s,.int .i64 p0_w.b.Cells,t,u,w,x,y,z,A,.int .i64 p0_w.b.Err,.int .i64 p0_w.h.Hour,g,(.slice V am.length M),j,k]) O O O O OE O U (.tail .head) O O λb6 ao bg=>LF.nil JH (WF.nil (λaa ww hf hw=>?_))
  have ap:=ao.sel [1,1,0,0,0] 0 O
  cases E
  have aq:=e5.trans ((SN.ext n.1 ai).trans (bf.trans bg))
  exact HQ hf O hw HC O aq ⟨_,O,ap⟩
 ·
  have E:=A3 c7 E
  refine WF.skip (WF.nil (λaa ww hf hw=>?_))
  cases E
  exact HQ hf O hw HC O e5 ⟨_,O,n⟩
theorem Kr {c:Nat}{p0_w:Ac}{F:Value}{G:Value}{H:Value}{I:Value}{J:Value}{K:Value}{M:Value}{Q:Value}{z:Value}{af:Value}{j:Value}{d:Value}(hs:St S (Bx c 106 [.string p0_w.b.Name,F,.int .i64 p0_w.b.Cells,G,H,I,J,K,M,Q,.int .i64 p0_w.b.Err,.int .i64 p0_w.h.Hour,z,af,j,d]::OS AF 51 z p0_w.h.Vol::OS BS 93 af p0_w.h.Queue::OS AZ 97 j p0_w.h.Links::OS AF 51 d p0_w.peaks::L) h) (au:p0_w.b.Name.size≤maxLen) (av:Sl S h AV.str F p0_w.b.Owners) (aw:AB p0_w.b.Cells) (ai:Sl S h BO G p0_w.b.Places) (ax:Sl S h A9 H p0_w.b.Links) (ay:Sl S h EK I p0_w.b.Towns) (az:Sl S h Di J p0_w.b.Gauges) (a0:Sl S h Et K p0_w.b.Roads) (a1:Sl S h Cc M p0_w.b.Shelters) (a2:Sl S h AV.int Q p0_w.b.Room) (an:AB p0_w.b.Err) (ao:AB p0_w.h.Hour) {u:Int}(a6:AB u) {t:Value}{U:(List AO)}(bc:Sl S h Bv t U) {r:AD×(List AD)×(List Az)}(E:qZ N p0_w u U=some r):
 Bf Tryz.prog 52 #[.pointer (some ⟨c,0,none⟩),.int .i64 u,t] S h (λv S' h'=>∃w_0_12 w_0_13:Value,v= .agg #[.int .i64 r.1.Lo,.int .i64 r.1.Hi]∧AD.ok r.1∧St S' (Bx c 106 [.string p0_w.b.Name,F,.int .i64 p0_w.b.Cells,G,H,I,J,K,M,Q,.int .i64 p0_w.b.Err,.int .i64 p0_w.h.Hour,w_0_12,w_0_13,j,d]::OS AF 51 w_0_12 r.2.1::OS BS 93 w_0_13 r.2.2::OS AZ 97 j p0_w.h.Links::OS AF 51 d p0_w.peaks::L) h'):=by
 refine Ab (l:=[.pointer (some ⟨c,0,none⟩),.int .i64 u,t]) 128 Tryz.func52 O Tryz.ntmps52 O λB=>?_
 rw[qZ] at E
 refine WF.seq (WF.rl (LF.al Ee O hs λb1 h2 C e4=>LF.nil (kp [6,0,1,2] O) (WF.seq ?_)))
 obtain⟨A,im,E⟩:=bd E
 obtain⟨ne,ck,E⟩:=bd E
 obtain⟨Y,cl,E⟩:=bd E
 refine SC (m:=[(6,.pointer (some ⟨b1,0,none⟩)),(0,.pointer (some ⟨c,0,none⟩)),(1,.int .i64 u),(2,t)]) 17 [18] [8,12] [9,10,11,13,14] [15,16] (λi v hh=>match i with|0=>v= .pointer (some ⟨c,0,none⟩)|1=>v= .pointer (some ⟨c,0,none⟩)|2=>v= .pointer (some ⟨c,0,none⟩)|3=>v= .pointer (some ⟨c,3,none⟩)|4=>Sl S hh BO v p0_w.b.Places|5=>v= .int .i64 u∧AB u|6=>Pt S hh BO v A|7=>Rd S hh BO v A|8=>v= .pointer (some ⟨c,0,none⟩)|9=>v= .pointer (some ⟨c,0,none⟩)|10=>v= .pointer (some ⟨c,15,none⟩)|11=>v=d|12=>v= .int .i64 u∧AB u|13=>EP d (u.toNat*(AF).sz+0) v|14=>Rd S hh AF v Y|15=>Od h2 57 [.string ByteArray.empty,.int .i64 0,.int .i64 0,.int .i64 0,.slice none 0 0,.slice none 0 0,.int .i64 0,.int .i64 0,.int .i64 0,.int .i64 0,.int .i64 0,.slice none 0 0] v hh|16=>Od h2 51 [.int .i64 0,.int .i64 0] v hh|_=>False) [[],[(0,20)],[(1,21)],[(2,22)],[(3,23)],[],[(4,24),(5,25)],[(6,26)],[],[(8,28)],[(9,29)],[(10,30)],[],[(11,31),(12,32)],[(13,33)],[],[],[],[]] [(7,27),(8,28),(12,32),(15,7),(16,8)] mo (by kernel_rfl) [6,0,1,2] O (by kernel_rfl) (by kernel_rfl) (by kernel_rfl) O O (kp [6,0,1,2] O) (λi v h1 h2 o1 o2 hr=>?_) (by kernel_rfl) (Kk (T:=57) O (Kk (T:=51) O PH)) ?_ ?_ ?_
 ·match i,hr with
   |0,hr=>exact hr
   |1,hr=>exact hr
   |2,hr=>exact hr
   |3,hr=>exact hr
   |4,hr=>exact Sl.mono' hr (o2.ext λb hb=>Nat.lt_of_lt_of_le (C.1 b hb) o1.siz)
   |5,hr=>exact hr
   |6,hr=>exact K1.mono hr (o2.ext λb hb=>Nat.lt_of_lt_of_le (C.1 b hb) o1.siz)
   |7,hr=>exact Rd.mono hr (o2.ext λb hb=>Nat.lt_of_lt_of_le (C.1 b hb) o1.siz)
   |8,hr=>exact hr
   |9,hr=>exact hr
   |10,hr=>exact hr
   |11,hr=>exact hr
   |12,hr=>exact hr
   |13,hr=>exact hr
   |14,hr=>exact Rd.mono hr (o2.ext λb hb=>Nat.lt_of_lt_of_le (C.1 b hb) o1.siz)
   |15,hr=>exact hr.mono o2
   |16,hr=>exact hr.mono o2
   |_+17,hr=>exact hr.elim
 ·
  refine JG.cons [] (by kernel_rfl) O O (by kernel_rfl) ?_ ?_
  ·
   intro mq hh o
   intro a hf
   exact⟨.pointer (some ⟨c,0,none⟩),KU hf O,O⟩
  refine JG.cons [] (by kernel_rfl) O O (by kernel_rfl) ?_ ?_
  ·
   intro mq hh o
   intro a hf
   exact⟨.int .i64 u,KU hf O,⟨O,a6⟩⟩
  exact trivial
 ·
  refine An.cons O O O ?_ ?_
  ·
   intro mq hh o
   have hsN:=o.st C
   exact LF.q 1 (QF.mv O O (AG (AM (BX.refl _) O)))
  refine An.cons O O O ?_ ?_
  ·
   intro mq hh o
   intro nf io
   have hsN:=o.st C
   cases io
   exact LF.q 1 (D8 O O (AG (AM (BX.refl _) O)))
  refine An.cons O O O ?_ ?_
  ·
   intro mq hh o
   intro ng ip
   have hsN:=o.st C
   cases ip
   exact LF.q 1 (QF.fao O Fl O (AG (AM (BX.refl _) O)))
  refine An.cons O O O ?_ ?_
  ·
   intro mq hh o
   intro nh ir
   have hsN:=o.st C
   cases ir
   exact LF.q 1 (QF.fao O DW O (AG (AM (BX.refl _) O)))
  refine An.cons O O O ?_ ?_
  ·
   intro mq hh o
   intro ni it
   have hsN:=o.st C
   cases it
   refine LF.q 1 (AI Af hsN O (mt mh) O Ff O (AG ?_))
   have iu:=ai.mono' (e4.trans (o.ext C.1))
   exact AM (BX.refl _) iu
  refine An.cons O O O ?_ ?_
  ·
   intro mq hh o
   have hsN:=o.st C
   exact LF.q 1 (QF.mv O O (AG (AM (BX.refl _) ⟨O,a6⟩)))
  refine An.cons O O O ?_ ?_
  ·
   intro mq hh o
   intro iv c6 nj iw
   have hsN:=o.st C
   have c6:Sl _ _ BO iv p0_w.b.Places:=c6
   obtain⟨rfl,nk⟩:=iw
   exact LF.q 1 (QF.ixe O O c6 E5 im O λnl iy=>AG (AM (BX.refl _) iy))
  refine An.cons O O O ?_ ?_
  ·
   intro mq hh o
   intro iz c7
   have hsN:=o.st C
   have c7:Pt _ _ BO iz A:=c7
   exact LF.q 1 (QF.ld Af hsN.1 O c7 Im (λe=>by cases e) O λnm i0=>AG (AM (BX.refl _) i0))
  refine An.cons O O O ?_ ?_
  ·
   intro mq hh o
   have hsN:=o.st C
   exact LF.q 1 (QF.mv O O (AG (AM (BX.refl _) O)))
  refine An.cons O O O ?_ ?_
  ·
   intro mq hh o
   intro nn i1
   have hsN:=o.st C
   cases i1
   exact LF.q 1 (D8 O O (AG (AM (BX.refl _) O)))
  refine An.cons O O O ?_ ?_
  ·
   intro mq hh o
   intro no i2
   have hsN:=o.st C
   cases i2
   exact LF.q 1 (QF.fao O Fk O (AG (AM (BX.refl _) O)))
  refine An.cons O O O ?_ ?_
  ·
   intro mq hh o
   intro np i3
   have hsN:=o.st C
   cases i3
   exact LF.q 1 (AI Af hsN O (mt mh) O Gn O (AG (AM (BX.refl _) O)))
  refine An.cons O O O ?_ ?_
  ·
   intro mq hh o
   have hsN:=o.st C
   exact LF.q 1 (QF.mv O O (AG (AM (BX.refl _) ⟨O,a6⟩)))
  refine An.cons O O O ?_ ?_
  ·
   intro mq hh o
   intro nq i4 nr i5
   have hsN:=o.st C
   cases i4
   obtain⟨rfl,ns⟩:=i5
   exact LF.q 1 (QF.ixoe hsN (mt (mt (mt (mt (mt mh))))) O O FM ck O λnt en=>AG (AM (BX.refl _) en))
  refine An.cons O O O ?_ ?_
  ·
   intro mq hh o
   intro nu i6
   have hsN:=o.st C
   refine LF.q 1 ?_
   have i7:=hsN.epAt (mt (mt (mt (mt (mt mh))))) cl EO.id i6
   exact QF.ld Af (λ_ x=>x) O i7 Ag (λe=>by cases e) O λnv i8=>AG (AM (BX.refl _) i8)
  exact An.al O OB O O (An.al O Ee O O (An.skip (by kernel_rfl) (An.skip (by kernel_rfl) (trivial))))
 intro j6 nw cf i9 c8 nx ja ny jb nz jc n0 jd eo
 obtain⟨be,rfl,je,jf,jg⟩:=jc
 obtain⟨ar,rfl,jh,ji,jj⟩:=jd
 have ep:=(OA.cons (OA.cons (OA.nil C cf) je jf jg List.not_mem_nil) jh ji jj (Y6 (eo.at_ (s:=8) (s':=7) (by kernel_rfl) O O) List.not_mem_nil)).st
 have c8:Rd _ _ BO i9 A:=c8
 cases ja
 obtain⟨rfl,n2⟩:=jb
 obtain⟨cg,ch,ci,rfl,n3,n4,n5,cj,jk,jl,n6,n7,jm,jn,n8,jo⟩:=BO.ex c8
 refine LF.st (vs:=[.string A.Name,.int .i64 A.Kind,.int .i64 A.Office,.int .i64 A.Cap,cg,ch,.int .i64 A.Num,.int .i64 A.Den,.int .i64 A.Down,.int .i64 A.Delay,.int .i64 A.Floor,ci]) (cs':=[.string A.Name,.int .i64 A.Kind,.int .i64 A.Office,.int .i64 A.Cap,cg,ch,.int .i64 A.Num,.int .i64 A.Den,.int .i64 A.Down,.int .i64 A.Delay,.int .i64 A.Floor,ci]) O O O (AC O (AC O (AC O (AC O (AC jk.one (AC jl.one (AC O (AC O (AC O (AC O (AC O (AC jo.one Eo)))))))))))) Im O ep (.tail .head) O O λn9 ab bm=>VB ⟨λi v hh=>match i with|9=>v= .pointer (some ⟨c,0,none⟩)|10=>v= .pointer (some ⟨c,15,none⟩)|11=>v=d|13=>EP d (u.toNat*(AF).sz+0) v|14=>Rd S hh AF v Y|_=>False,[[],[],[],[],[],[],[],[],[],[],[(9,29)],[(10,30)],[],[(11,31)],[(13,33)],[],[],[],[]],[(14,34)],_,[8,7,32,28,27,6,0,1,2],O,by kernel_rfl,by kernel_rfl,by kernel_rfl,by kernel_rfl,O,λi hi v hr=>?_,λi v h1 h2 o1 o2 hr=>?_,?_,?_⟩
 ·
  rcases List.mem_cons.1 hi with rfl|hi
  ·exact hr
  rcases List.mem_cons.1 hi with rfl|hi
  ·exact hr
  rcases List.mem_cons.1 hi with rfl|hi
  ·exact hr
  rcases List.mem_cons.1 hi with rfl|hi
  ·exact hr
  rcases List.mem_cons.1 hi with rfl|hi
  ·exact Rd.mono hr bm
  cases hi
 ·match i,hr with
   |0,hr=>exact hr.elim
   |1,hr=>exact hr.elim
   |2,hr=>exact hr.elim
   |3,hr=>exact hr.elim
   |4,hr=>exact hr.elim
   |5,hr=>exact hr.elim
   |6,hr=>exact hr.elim
   |7,hr=>exact hr.elim
   |8,hr=>exact hr.elim
   |9,hr=>exact hr
   |10,hr=>exact hr
   |11,hr=>exact hr
   |12,hr=>exact hr.elim
   |13,hr=>exact hr
   |14,hr=>exact Rd.mono hr (o2.ext λb hb=>Nat.lt_of_lt_of_le (ab.1 b hb) o1.siz)
   |_+15,hr=>exact hr.elim
 ·
  refine An.skip (by kernel_rfl) (An.skip (by kernel_rfl) (An.skip (by kernel_rfl) (An.skip (by kernel_rfl) (An.skip (by kernel_rfl) (An.skip (by kernel_rfl) (An.skip (by kernel_rfl) (An.skip (by kernel_rfl) (An.skip (by kernel_rfl) (An.cons O O O ?_ ?_)))))))))
  ·
   intro mq hh o
   have hsN:=o.st ab
   exact LF.q 1 (D8 O O (AG (AM (BX.refl _) O)))
  refine An.cons O O O ?_ ?_
  ·
   intro mq hh o
   intro j7 eq
   have hsN:=o.st ab
   cases eq
   exact LF.q 1 (QF.fao O Fk O (AG (AM (BX.refl _) O)))
  refine An.cons O O O ?_ ?_
  ·
   intro mq hh o
   intro j8 er
   have hsN:=o.st ab
   cases er
   exact LF.q 1 (AI Af hsN O (mt (mt (mt mh))) O Gn O (AG (AM (BX.refl _) O)))
  refine An.skip (by kernel_rfl) (An.cons O O O ?_ ?_)
  ·
   intro mq hh o
   intro j9 es
   have hsN:=o.st ab
   cases es
   exact LF.q 1 (QF.ixoe hsN (mt (mt (mt (mt (mt (mt (mt mh))))))) O O FM ck O λka c9=>AG (AM (BX.refl _) c9))
  refine An.cons O O O ?_ ?_
  ·
   intro mq hh o
   intro kb et
   have hsN:=o.st ab
   refine LF.q 1 ?_
   have eu:=hsN.epAt (mt (mt (mt (mt (mt (mt (mt mh))))))) cl EO.id et
   exact QF.ld Af (λ_ x=>x) O eu Ag (λe=>by cases e) O λkc ev=>AG (AM (BX.refl _) ev)
  exact An.skip (by kernel_rfl) (An.skip (by kernel_rfl) (An.skip (by kernel_rfl) (An.skip (by kernel_rfl) (trivial))))
 intro kd bn ew bt
 have da:=bn.st ab
 have bt:Rd _ _ AF ew Y:=bt
 obtain⟨rfl,⟨bu,bv⟩⟩:=AF.ex bt
 refine Ad (vs:=[.int .i64 Y.Lo,.int .i64 Y.Hi]) O O O O Ag O da .head O λke db bw=>LF.nil (kp [8,7,6,0,1,2] O) (WF.seq (WF.rl (LF.al VI O db λaj kf dc bx=>LF.al VI O dc λak kg dd bz=>Ad (vs:=[.int .i64 0]) O O O O AL O dd (.tail .head) O λkh de b0=>Ad (vs:=[.int .i64 0]) O O O O AL O de .head O λb2 df b3=>LF.nil (kp [10,9,8,7,6,0,1,2] O) (WF.seq (WF.rp (.inl O) (QF.mkf O O O (QF.as_ O O (AA (kp [11,10,9,8,7,6,0,1,2] O) ?_))))))))
 refine WF.seq (WF.seq (WF.rp (.inl O) (QF.mv O O ?_)))
 have dg:=e4.trans ((cf.ext C.1).trans (bm.trans ((bn.ext ab.1).trans (bw.trans (bx.trans (bz.trans (b0.trans b3)))))))
 have cm:=bc.mono' dg
 refine QF.len O cm TU O λki=>QF.mv O O (AA (kp [38,37,36,11,10,9,8,7,6,0,1] O) (WF.blockJ (λa w=>∃(bf:Int) (bg:Int) (b4:Value) (bo:List Az),IV B S b2 (128,[]) a w [(11,.func (.func 105) #[] #[.pointer (some ⟨ar,0,none⟩),.pointer (some ⟨aj,0,none⟩),.pointer (some ⟨ak,0,none⟩)]),(7,.pointer (some ⟨be,0,none⟩)),(6,.pointer (some ⟨b1,0,none⟩)),(0,.pointer (some ⟨c,0,none⟩)),(1,.int .i64 u)] (OS BS 93 b4 bo::Bx ak 3 [.int .i64 bf]::Bx aj 3 [.int .i64 bg]::Bx ar 51 [.int .i64 Y.Lo,.int .i64 Y.Hi]::Bx be 57 [.string A.Name,.int .i64 A.Kind,.int .i64 A.Office,.int .i64 A.Cap,cg,ch,.int .i64 A.Num,.int .i64 A.Den,.int .i64 A.Down,.int .i64 A.Delay,.int .i64 A.Floor,ci]::Bx b1 51 [.int .i64 0,.int .i64 0]::Bx c 106 [.string p0_w.b.Name,F,.int .i64 p0_w.b.Cells,G,H,I,J,K,M,Q,.int .i64 p0_w.b.Err,.int .i64 p0_w.h.Hour,z,b4,j,d]::OS AF 51 z p0_w.h.Vol::OS AZ 97 j p0_w.h.Links::OS AF 51 d p0_w.peaks::L) λ_ _=>AB bf∧AB bg∧CO N p0_w u A Y bf bg bo=some r) ?_ ?_))
 ·
  refine WF.loopF (λn1=>λa w=>∃(a3:Int) (a4:Int) (a5:Int) (bp:Value) (bh:List Az),IV B S b2 (128,[]) a w [(37,.int .i64 (↑U.length:Int)),(36,t),(11,.func (.func 105) #[] #[.pointer (some ⟨ar,0,none⟩),.pointer (some ⟨aj,0,none⟩),.pointer (some ⟨ak,0,none⟩)]),(10,.pointer (some ⟨ak,0,none⟩)),(9,.pointer (some ⟨aj,0,none⟩)),(8,.pointer (some ⟨ar,0,none⟩)),(7,.pointer (some ⟨be,0,none⟩)),(6,.pointer (some ⟨b1,0,none⟩)),(0,.pointer (some ⟨c,0,none⟩)),(1,.int .i64 u),(38,.int .i64 a3)] (OS BS 93 bp bh::Bx ak 3 [.int .i64 a4]::Bx aj 3 [.int .i64 a5]::Bx ar 51 [.int .i64 Y.Lo,.int .i64 Y.Hi]::Bx be 57 [.string A.Name,.int .i64 A.Kind,.int .i64 A.Office,.int .i64 A.Cap,cg,ch,.int .i64 A.Num,.int .i64 A.Den,.int .i64 A.Down,.int .i64 A.Delay,.int .i64 A.Floor,ci]::Bx b1 51 [.int .i64 0,.int .i64 0]::Bx c 106 [.string p0_w.b.Name,F,.int .i64 p0_w.b.Cells,G,H,I,J,K,M,Q,.int .i64 p0_w.b.Err,.int .i64 p0_w.h.Hour,z,bp,j,d]::OS AF 51 z p0_w.h.Vol::OS AZ 97 j p0_w.h.Links::OS AF 51 d p0_w.peaks::L) λ_ _=>AB a3∧AB a4∧AB a5∧CN N p0_w U Y (CO N p0_w u A Y) n1 a3 a4 a5 bh=some r) N ?_ ?_ ?_
  ·
   intro aa ww hf hw
   have dh:=df.sel [7,0,0,0,0,0,0,0,0,0] 0 O
   exact⟨0,0,0,af,p0_w.h.Queue,_,_,hf.sub (kp [37,36,11,10,9,8,7,6,0,1,38] O),hw,dh,(Bc.refl S b2),(iq (n:=0) O),(iq (n:=0) O),(iq (n:=0) O),E⟩
  ·
   rintro aa ww ⟨_,_,_,_,_,_,_,_,_,_,_,_,_,_,E⟩
   rw[CN] at E;cases E
  ·
   rintro n1 aa ww ⟨a3,a4,a5,bp,bh,am,kj,hf,hw,bk,bq,kk,b5,b6,E⟩
   refine WF.run ?_ hf hw
   clear hf hw ww aa
   rw[CN] at E
   refine WF.seq (WF.rp (.inl O) (QF.lss O O O (AA (kp [39,37,36,11,10,9,8,7,6,0,1,38] O) (WF.seq (WF.if_ O (λb7=>?_) (λb7=>?_))))))
   ·
    have E:=A0 b7 E
    refine WF.skip (WF.seq (WF.block (WF.seq (WF.rl (LF.q 2 ?_)))))
    have ey:=cm.mono' bq
    obtain⟨ap,di,E⟩:=bd E
    refine QF.ixe O O ey TU di O λkl ez=>QF.ld Af bk.1 O ez TF (λe=>by cases e) O λkm e0=>AG (LF.al Wm O bk λb8 kn dj b9=>?_)
    have e1:=e0.mono b9
    obtain⟨ko,rfl,e2,e3,cn,ca⟩:=Bv.ex e1
    obtain⟨dk,dl,rfl,jp,jq⟩:=ca.fn
    refine Ad (vs:=[.int .i64 ap.to_,.int .i64 ap.delay,.int .i64 ap.slack,(.func (.func dk) #[] dl)]) O O O O TF O dj .head O λah g br=>LF.nil (kp [13,37,36,11,10,9,8,7,6,0,1,38] O) (WF.seq ?_)
    obtain⟨ac,dm,E⟩:=bd E
    obtain⟨ad,dn,E⟩:=bd E
    obtain⟨D,dp,E⟩:=bd E
    refine X5 (m:=[(13,.pointer (some ⟨b8,0,none⟩)),(37,.int .i64 (↑U.length:Int)),(36,t),(11,.func (.func 105) #[] #[.pointer (some ⟨ar,0,none⟩),.pointer (some ⟨aj,0,none⟩),.pointer (some ⟨ak,0,none⟩)]),(10,.pointer (some ⟨ak,0,none⟩)),(9,.pointer (some ⟨aj,0,none⟩)),(8,.pointer (some ⟨ar,0,none⟩)),(7,.pointer (some ⟨be,0,none⟩)),(6,.pointer (some ⟨b1,0,none⟩)),(0,.pointer (some ⟨c,0,none⟩)),(1,.int .i64 u),(38,.int .i64 a3)]) [15,16,17] [] [12,13,14] (λi v hh=>match i with|0=>v= .pointer (some ⟨b8,3,none⟩)|1=>Rd am hh (AV.fn Tryz.prog (λx:Int=>([.int .i64 x]:List Value)) (λx:Int=>AB x) (λy:AD=> .agg #[.int .i64 y.Lo,.int .i64 y.Hi]) (λy:AD=>AD.ok y)) v ap.asks|2=>v= .pointer (some ⟨ar,0,none⟩)|3=>v= .int .i64 Y.Lo∧AB Y.Lo|4=>v= .agg #[.int .i64 ac.Lo,.int .i64 ac.Hi]∧AB ac.Lo∧AB ac.Hi|5=>v= .pointer (some ⟨b8,3,none⟩)|6=>Rd am hh (AV.fn Tryz.prog (λx:Int=>([.int .i64 x]:List Value)) (λx:Int=>AB x) (λy:AD=> .agg #[.int .i64 y.Lo,.int .i64 y.Hi]) (λy:AD=>AD.ok y)) v ap.asks|7=>v= .pointer (some ⟨ar,1,none⟩)|8=>v= .int .i64 Y.Hi∧AB Y.Hi|9=>v= .agg #[.int .i64 ad.Lo,.int .i64 ad.Hi]∧AB ad.Lo∧AB ad.Hi|10=>v= .func (.func 105) #[] #[.pointer (some ⟨ar,0,none⟩),.pointer (some ⟨aj,0,none⟩),.pointer (some ⟨ak,0,none⟩)]|11=>v= .agg #[.int .i64 D.Lo,.int .i64 D.Hi]∧AB D.Lo∧AB D.Hi|12=>Od ah 51 [.int .i64 0,.int .i64 0] v hh|13=>Od ah 51 [.int .i64 0,.int .i64 0] v hh|14=>Od ah 51 [.int .i64 0,.int .i64 0] v hh|_=>False) [[],[(0,42)],[],[(2,44)],[(1,43),(3,45)],[],[(5,47)],[],[(7,49)],[(6,48),(8,50)],[],[(10,52)],[],[],[],[],[],[]] [(4,46),(9,51),(11,53),(12,14),(13,15),(14,16)] mo (by kernel_rfl) [13,37,36,11,10,9,8,7,6,0,1,38] O (by kernel_rfl) (by kernel_rfl) (by kernel_rfl) O (kp [13,37,36,11,10,9,8,7,6,0,1,38] O) (λi v h1 h2 o1 o2 hr=>?_) (by kernel_rfl) (Kk (T:=51) O (Kk (T:=51) O (Kk (T:=51) O PH))) ?_ ?_ ?_
    ·match i,hr with
      |0,hr=>exact hr
      |1,hr=>exact Rd.mono hr (o2.ext λb hb=>Nat.lt_of_lt_of_le (g.1 b hb) o1.siz)
      |2,hr=>exact hr
      |3,hr=>exact hr
      |4,hr=>exact hr
      |5,hr=>exact hr
      |6,hr=>exact Rd.mono hr (o2.ext λb hb=>Nat.lt_of_lt_of_le (g.1 b hb) o1.siz)
      |7,hr=>exact hr
      |8,hr=>exact hr
      |9,hr=>exact hr
      |10,hr=>exact hr
      |11,hr=>exact hr
      |12,hr=>exact hr.mono o2
      |13,hr=>exact hr.mono o2
      |14,hr=>exact hr.mono o2
      |_+15,hr=>exact hr.elim
    ·exact trivial
    ·
     refine An.cons O O O ?_ ?_
     ·
      intro mq hh o
      have hsN:=o.st g
      exact LF.q 1 (QF.fao O P2 O (AG (AM (BX.refl _) O)))
     refine An.cons O O O ?_ ?_
     ·
      intro mq hh o
      intro kq e5
      have hsN:=o.st g
      cases e5
      refine LF.q 1 (AI Af hsN O mh O TK O (AG ?_))
      have e6:=ca.mono (br.trans (o.ext g.1))
      exact AM (BX.refl _) e6
     refine An.cons O O O ?_ ?_
     ·
      intro mq hh o
      have hsN:=o.st g
      exact LF.q 1 (QF.fao O DE O (AG (AM (BX.refl _) O)))
     refine An.cons O O O ?_ ?_
     ·
      intro mq hh o
      intro kr e7
      have hsN:=o.st g
      cases e7
      exact LF.q 1 (AI Af hsN O (mt (mt (mt (mt mh)))) O AL O (AG (AM (BX.refl _) ⟨O,bu⟩)))
     refine An.cons O O O ?_ ?_
     ·
      intro mq hh o
      intro e8 bi ks e9
      have hsN:=SN.st g o
      have bi:=Rd.mono (S':=(SN am ah hh)) bi ⟨λb hb=> .inl hb,λ_ _=>rfl,Nat.le_refl _⟩
      have bi:Rd _ _ (AV.fn Tryz.prog (λx:Int=>([.int .i64 x]:List Value)) (λx:Int=>AB x) (λy:AD=> .agg #[.int .i64 y.Lo,.int .i64 y.Hi]) (λy:AD=>AD.ok y)) e8 ap.asks:=bi
      obtain⟨rfl,fb⟩:=e9
      obtain⟨jr,js,rfl,dq,dr⟩:=bi.fn
      refine LF.callb O O O dq O hsN (dr _ _ (λb hb=>hsN.1 b ((Bc.refl (SN am ah hh) hh).sub b hb)) (λb hb=>(Bc.refl (SN am ah hh) hh).same b hb) [] (St.all _) _ _ fb dm) λkt ku kv jt kw co p=>?_
      obtain⟨rfl,⟨fc,fd⟩,ju⟩:=p
      exact AM ⟨co.siz,λb hb=>co.same b hb⟩ ⟨O,fc,fd⟩
     refine An.cons O O O ?_ ?_
     ·
      intro mq hh o
      have hsN:=o.st g
      exact LF.q 1 (QF.fao O P2 O (AG (AM (BX.refl _) O)))
     refine An.cons O O O ?_ ?_
     ·
      intro mq hh o
      intro kx fe
      have hsN:=o.st g
      cases fe
      refine LF.q 1 (AI Af hsN O mh O TK O (AG ?_))
      have ff:=ca.mono (br.trans (o.ext g.1))
      exact AM (BX.refl _) ff
     refine An.cons O O O ?_ ?_
     ·
      intro mq hh o
      have hsN:=o.st g
      exact LF.q 1 (QF.fao O Cn O (AG (AM (BX.refl _) O)))
     refine An.cons O O O ?_ ?_
     ·
      intro mq hh o
      intro ky fg
      have hsN:=o.st g
      cases fg
      exact LF.q 1 (AI Af hsN O (mt (mt (mt (mt mh)))) O AL O (AG (AM (BX.refl _) ⟨O,bv⟩)))
     refine An.cons O O O ?_ ?_
     ·
      intro mq hh o
      intro fh bj kz fi
      have hsN:=SN.st g o
      have bj:=Rd.mono (S':=(SN am ah hh)) bj ⟨λb hb=> .inl hb,λ_ _=>rfl,Nat.le_refl _⟩
      have bj:Rd _ _ (AV.fn Tryz.prog (λx:Int=>([.int .i64 x]:List Value)) (λx:Int=>AB x) (λy:AD=> .agg #[.int .i64 y.Lo,.int .i64 y.Hi]) (λy:AD=>AD.ok y)) fh ap.asks:=bj
      obtain⟨rfl,fj⟩:=fi
      obtain⟨jv,jw,rfl,ds,dt⟩:=bj.fn
      refine LF.callb O O O ds O hsN (dt _ _ (λb hb=>hsN.1 b ((Bc.refl (SN am ah hh) hh).sub b hb)) (λb hb=>(Bc.refl (SN am ah hh) hh).same b hb) [] (St.all _) _ _ fj dn) λk0 k1 k2 jx k3 cp p=>?_
      obtain⟨rfl,⟨fk,fl⟩,jy⟩:=p
      exact AM ⟨cp.siz,λb hb=>cp.same b hb⟩ ⟨O,fk,fl⟩
     refine An.cons O O O ?_ ?_
     ·
      intro mq hh o
      have hsN:=o.st g
      exact LF.q 1 (QF.mv O O (AG (AM (BX.refl _) O)))
     refine An.cons O O O ?_ ?_
     ·
      intro mq hh o
      intro k4 fm
      have hsN:=SN.st g o
      cases fm
      refine LF.callb O O O Uq O hsN (HR (St.all _) (hsN.bxAll (r:=AF) (x:=Y) (mt (mt (mt (mt mh)))) ⟨O,⟨bu,bv⟩⟩) (hsN.bxAll (r:=AV.int) (x:=a5) (mt (mt (mt mh))) ⟨O,b6⟩) (hsN.bxAll (r:=AV.int) (x:=a4) (mt (mt mh)) ⟨O,b5⟩) dp) λk5 k6 k7 jz k8 cq p=>?_
      obtain⟨rfl,⟨fo,fp⟩,j0⟩:=p
      exact AM ⟨cq.siz,λb hb=>cq.same b hb⟩ ⟨O,fo,fp⟩
     exact An.al O Ee O O (An.al O Ee O O (An.al O Ee O O (An.skip (by kernel_rfl) (An.skip (by kernel_rfl) (An.skip (by kernel_rfl) (trivial))))))
    intro k9 cb la fq lb fr lc fs le ft lf fu lg fv bl
    obtain⟨lh,rfl,fw,fx,fy⟩:=ft
    obtain⟨li,rfl,fz,f0,f1⟩:=fu
    obtain⟨lj,rfl,f2,f3,f4⟩:=fv
    have du:=(OA.cons (OA.cons (OA.cons (OA.nil g cb) fw fx fy List.not_mem_nil) fz f0 f1 (Y6 (bl.of_ (s:=15) (s':=14) (by kernel_rfl) O O O O) List.not_mem_nil)) f2 f3 f4 (Y6 (bl.of_ (s:=16) (s':=15) (by kernel_rfl) O O O O) (Y6 (bl.of_ (s:=16) (s':=14) (by kernel_rfl) O O O O) List.not_mem_nil))).st
    obtain⟨rfl,f5,f6⟩:=fq
    obtain⟨rfl,f7,f8⟩:=fr
    obtain⟨rfl,f9,ga⟩:=fs
    refine Ad (vs:=[.int .i64 ac.Lo,.int .i64 ac.Hi]) O O O O Ag O du (.tail (.tail .head)) O λll dv cr=>Ad (vs:=[.int .i64 ad.Lo,.int .i64 ad.Hi]) O O O O Ag O dv (.tail .head) O λlm dw ct=>Ad (vs:=[.int .i64 D.Lo,.int .i64 D.Hi]) O O O O Ag O dw .head O λlo aq cu=>LF.nil (kp [14,15,16,13,37,36,11,10,9,8,7,6,0,1,38] O) (WF.seq (WF.rl (LF.q 11 (QF.fao O DE O (AI Af aq O (mt (mt mh)) O AL O (QF.fao O DE O (AI Af aq O mh O AL O (QF.min O O O (QF.fao O Cn O (AI Af aq O (mt mh) O AL O ?_))))))))))
    refine QF.fao O Cn O (AI Af aq O mh O AL O (QF.min O O O (QF.bld (cs:=[.int .i64 (min ac.Lo D.Lo),.int .i64 (min ad.Hi D.Hi)]) HD O O O (AG (LF.al Ee O aq λlp lq dx cv=>Ad (vs:=[.int .i64 (min ac.Lo D.Lo),.int .i64 (min ad.Hi D.Hi)]) O O O O Ag O dx .head O λlr a7 cw=>LF.nil (kp [17,14,15,13,37,36,11,10,9,8,7,6,0,1,38] O) (WF.seq (WF.rl (LF.q 6 (QF.mv O O (QF.fao O T7 O (AI Af a7 O (mt (mt (mt (mt mh)))) O AL O ?_)))))))))))
    refine QF.fao O T6 O (AI Af a7 O (mt (mt (mt (mt mh)))) O AL O (QF.ldo (vs:=[.int .i64 (min ac.Lo D.Lo),.int .i64 (min ad.Hi D.Hi)]) Af a7 O mh O O Ag O O (AG ?_)))
    have dy:=a7.sel [11,11,5,10,10,0,0,0,0,0,0,0,0,0,0] 0 O
    have Z:=e4.trans ((cf.ext C.1).trans (bm.trans ((bn.ext ab.1).trans (bw.trans (bx.trans (bz.trans (b0.trans (b3.trans (bq.trans (b9.trans (br.trans ((cb.ext g.1).trans (cr.trans (ct.trans (cu.trans (cv.trans cw))))))))))))))))
    have gb:=av.mono' Z
    have gc:=ai.mono' Z
    have ge:=ax.mono' Z
    have gf:=ay.mono' Z
    have gg:=az.mono' Z
    have gh:=a0.mono' Z
    have gi:=a1.mono' Z
    have gj:=a2.mono' Z
    obtain⟨gk,dz,E⟩:=bd E
    refine LF.call O O O Up O (IP (p0_w:=({ p0_w with h:=({ p0_w.h with Queue:=bh}:BT)}:Ac)) dy au gb aw gc ge gf gg gh gi gj an ao e2 e3 (AF.mk (x:=(⟨(min ac.Lo D.Lo),(min ad.Hi D.Hi)⟩:AD)) ⟨(Gg f5 f9),(Gg f8 ga)⟩) dz) λls lt lu gl p=>?_
    obtain⟨gm,rfl,a8⟩:=p
    refine LF.nil (kp [14,15,13,37,36,11,10,9,8,7,6,0,1,38] O) (WF.seq (Ed 7 mo (by kernel_rfl) O a8 (AI Ai a8 O (mt (mt (mt (mt (mt (mt (mt (mt (mt (mt (mt mh))))))))))) O AL O (QF.fao O Cn O (AI Ai a8 O (mt (mt (mt (mt (mt (mt (mt (mt mh)))))))) O AL O (QF.fao O P3 O (AI Ai a8 O (mt (mt (mt (mt (mt (mt (mt (mt (mt mh))))))))) O AL O ?_)))))))
    obtain⟨lv,d0,E⟩:=bd E
    refine Ao O O O Mh O (λh' o=>Ex (St.all h') f6 cn d0) λgp=>?_
    have gq:=gp
    obtain⟨cx,d1,E⟩:=bd E
    refine Ao O O O Mh O (λh' o=>Ex (St.all h') b6 gq d1) λgr=>?_
    have gs:=gr
    refine Dj λlw d2 gu=>Ad (vs:=[.int .i64 cx]) O O O O AL O d2 (.tail (.tail (.tail (.tail (.tail (.tail (.tail (.tail (.tail (.tail (.tail .head))))))))))) O λlx a9 gv=>LF.nil (kp [15,13,37,36,11,10,9,8,7,6,0,1,38] O) (Ed 7 mo (by kernel_rfl) O a9 (AI Ai a9 O (mt (mt (mt (mt (mt (mt (mt (mt (mt (mt mh)))))))))) O AL O (QF.fao O DE O (AI Ai a9 O (mt (mt (mt (mt (mt (mt (mt mh))))))) O AL O (QF.fao O P3 O (AI Ai a9 O (mt (mt (mt (mt (mt (mt (mt (mt (mt mh))))))))) O AL O ?_))))))
    obtain⟨ly,d3,E⟩:=bd E
    refine Ao O O O H0 O (λh' o=>DT (St.all h') f7 cn d3) λgw=>?_
    have gx:=gw
    obtain⟨cy,d4,E⟩:=bd E
    refine Ao O O O Mh O (λh' o=>Ex (St.all h') b5 gx d4) λgz=>?_
    have g0:=gz
    refine Dj λlz d5 g1=>Ad (vs:=[.int .i64 cy]) O O O O AL O d5 (.tail (.tail (.tail (.tail (.tail (.tail (.tail (.tail (.tail (.tail .head)))))))))) O λl0 d6 g2=>LF.nil (kp [37,36,11,10,9,8,7,6,0,1,38] O) (Ap (WF.rp (.inl O) (QF.addw O O O (QF.mv O O (AA (kp [38,37,36,11,10,9,8,7,6,0,1] O) (WF.nil (λaa ww hf hw=>?_)))))))
    have d7:=d6.sel [2,9,9,9,9,9,0,0,0,0] 5 O
    have d8:=bq.trans (b9.trans (br.trans ((cb.ext g.1).trans (cr.trans (ct.trans (cu.trans (cv.trans (cw.trans (gl.trans (gu.trans (gv.trans (g1.trans g2))))))))))))
    exact⟨(Aw (a3+1)),cy,cx,gm,gk,_,_,hf.sub (kp [37,36,11,10,9,8,7,6,0,1,38] O),hw,d7,d8,(BA _),g0,gs,E⟩
   ·
    have E:=A3 b7 E
    refine WF.exit O (λaa ww hf hw=>?_)
    exact⟨a4,a5,bp,bh,_,_,hf.sub (kp [11,7,6,0,1] O),hw,bk,bq,b5,b6,E⟩
 ·
  rintro aa ww ⟨bf,bg,b4,bo,l1,l2,hf,hw,ba,g3,g4,g5,E⟩
  refine WF.run ?_ hf hw
  clear hf hw ww aa
  rw[CO] at E
  refine WF.seq (WF.rl (LF.q 1 (QF.mv O O (AG ?_))))
  obtain⟨ae,d9,E⟩:=bd E
  refine LF.callb O O O Uq O ba (HR (St.all _) (ba.bxAll (r:=AF) (x:=Y) (mt (mt (mt mh))) ⟨O,⟨bu,bv⟩⟩) (ba.bxAll (r:=AV.int) (x:=bg) (mt (mt mh)) ⟨O,g5⟩) (ba.bxAll (r:=AV.int) (x:=bf) (mt mh) ⟨O,g4⟩) d9) λl3 l4 l5 ea g6 l6 p=>?_
  obtain⟨rfl,⟨cz,c0⟩,j1⟩:=p
  refine LF.al Ee O ea λcc l7 eb g7=>Ad (vs:=[.int .i64 ae.Lo,.int .i64 ae.Hi]) O O O O Ag O eb .head O λg8 k g9=>LF.nil (kp [18,7,6,0,1] O) (WF.seq ?_)
  obtain⟨W,ec,E⟩:=bd E
  obtain⟨X,ed,E⟩:=bd E
  refine QQ (m:=[(18,.pointer (some ⟨cc,0,none⟩)),(7,.pointer (some ⟨be,0,none⟩)),(6,.pointer (some ⟨b1,0,none⟩)),(0,.pointer (some ⟨c,0,none⟩)),(1,.int .i64 u)]) 14 (λi v hh=>match i with|0=>v= .pointer (some ⟨cc,0,none⟩)|1=>v= .int .i64 ae.Lo∧AB ae.Lo|2=>v= .pointer (some ⟨be,3,none⟩)|3=>v= .int .i64 A.Cap∧AB A.Cap|4=>v= .int .i64 W∧AB W|5=>v= .int .i64 (max 0 W)∧AB (max 0 W)|6=>v= .pointer (some ⟨cc,1,none⟩)|7=>v= .int .i64 ae.Hi∧AB ae.Hi|8=>v= .pointer (some ⟨be,3,none⟩)|9=>v= .int .i64 A.Cap∧AB A.Cap|10=>v= .int .i64 X∧AB X|11=>v= .int .i64 (max 0 X)∧AB (max 0 X)|12=>v= .agg #[.int .i64 (max 0 W),.int .i64 (max 0 X)]∧AB (max 0 W)∧AB (max 0 X)|13=>Od g8 51 [.int .i64 0,.int .i64 0] v hh|_=>False) [[],[(0,89)],[],[(2,91)],[(1,90),(3,92)],[(4,93)],[],[(6,95)],[],[(8,97)],[(7,96),(9,98)],[(10,99)],[(5,94),(11,100)],[]] [(12,101),(13,19)] mo (by kernel_rfl) [18,7,6,0,1] O (by kernel_rfl) (by kernel_rfl) (by kernel_rfl) (kp [18,7,6,0,1] O) (λi v h1 h2 o1 o2 hr=>?_) ?_ ?_
  ·match i,hr with
    |0,hr=>exact hr
    |1,hr=>exact hr
    |2,hr=>exact hr
    |3,hr=>exact hr
    |4,hr=>exact hr
    |5,hr=>exact hr
    |6,hr=>exact hr
    |7,hr=>exact hr
    |8,hr=>exact hr
    |9,hr=>exact hr
    |10,hr=>exact hr
    |11,hr=>exact hr
    |12,hr=>exact hr
    |13,hr=>exact hr.mono o2
    |_+14,hr=>exact hr.elim
  ·
   refine CG.cons O ?_ ?_
   ·
    intro mq hh o
    have hsN:=o.st k
    exact LF.q 1 (QF.fao O DE O (AG (AM (BX.refl _) O)))
   refine CG.cons O ?_ ?_
   ·
    intro mq hh o
    intro l8 ha
    have hsN:=o.st k
    cases ha
    exact LF.q 1 (AI Af hsN O mh O AL O (AG (AM (BX.refl _) ⟨O,cz⟩)))
   refine CG.cons O ?_ ?_
   ·
    intro mq hh o
    have hsN:=o.st k
    exact LF.q 1 (QF.fao O Ls O (AG (AM (BX.refl _) O)))
   refine CG.cons O ?_ ?_
   ·
    intro mq hh o
    intro l9 hc
    have hsN:=o.st k
    cases hc
    exact LF.q 1 (AI Af hsN O (mt (mt (mt (mt (mt mh))))) O AL O (AG (AM (BX.refl _) ⟨O,cj⟩)))
   refine CG.cons O ?_ ?_
   ·
    intro mq hh o
    intro ma hd mb he
    have hsN:=SN.st k o
    obtain⟨rfl,hg⟩:=hd
    obtain⟨rfl,hj⟩:=he
    refine LF.callb O O O H0 O hsN (DT (St.all _) hg hj ec) λmc md me j2 mf c1 p=>?_
    obtain⟨rfl,hk,j3⟩:=p
    exact AM ⟨c1.siz,λb hb=>c1.same b hb⟩ ⟨O,hk⟩
   refine CG.cons O ?_ ?_
   ·
    intro mq hh o
    intro mg hl
    have hsN:=o.st k
    obtain⟨rfl,hm⟩:=hl
    exact LF.q 1 (QF.max O O O (AG (AM (BX.refl _) ⟨O,(Fj (iq (n:=0) O) hm)⟩)))
   refine CG.cons O ?_ ?_
   ·
    intro mq hh o
    have hsN:=o.st k
    exact LF.q 1 (QF.fao O Cn O (AG (AM (BX.refl _) O)))
   refine CG.cons O ?_ ?_
   ·
    intro mq hh o
    intro mi hn
    have hsN:=o.st k
    cases hn
    exact LF.q 1 (AI Af hsN O mh O AL O (AG (AM (BX.refl _) ⟨O,c0⟩)))
   refine CG.cons O ?_ ?_
   ·
    intro mq hh o
    have hsN:=o.st k
    exact LF.q 1 (QF.fao O Ls O (AG (AM (BX.refl _) O)))
   refine CG.cons O ?_ ?_
   ·
    intro mq hh o
    intro mj ho
    have hsN:=o.st k
    cases ho
    exact LF.q 1 (AI Af hsN O (mt (mt (mt (mt (mt mh))))) O AL O (AG (AM (BX.refl _) ⟨O,cj⟩)))
   refine CG.cons O ?_ ?_
   ·
    intro mq hh o
    intro ml hp mm hq
    have hsN:=SN.st k o
    obtain⟨rfl,ht⟩:=hp
    obtain⟨rfl,hu⟩:=hq
    refine LF.callb O O O H0 O hsN (DT (St.all _) ht hu ed) λmn mp mr j4 ms c2 p=>?_
    obtain⟨rfl,hv,j5⟩:=p
    exact AM ⟨c2.siz,λb hb=>c2.same b hb⟩ ⟨O,hv⟩
   refine CG.cons O ?_ ?_
   ·
    intro mq hh o
    intro mu hx
    have hsN:=o.st k
    obtain⟨rfl,hy⟩:=hx
    exact LF.q 1 (QF.max O O O (AG (AM (BX.refl _) ⟨O,(Fj (iq (n:=0) O) hy)⟩)))
   refine CG.cons O ?_ ?_
   ·
    intro mq hh o
    intro mw hz mx h0
    have hsN:=o.st k
    obtain⟨rfl,h3⟩:=hz
    obtain⟨rfl,h4⟩:=h0
    exact LF.q 1 (QF.bld (cs:=[.int .i64 (max 0 W),.int .i64 (max 0 X)]) HD O O O (AG (AM (BX.refl _) ⟨O,h3,h4⟩)))
   refine CG.cons O ?_ ?_
   ·
    intro mq hh o
    exact Nt o Ee O λ_ h' o' r'=>AM o' r'
   exact trivial
  intro my c3 mz h5 m0 h6
  obtain⟨m1,rfl,ee⟩:=h6.st k c3
  obtain⟨rfl,c4,c5⟩:=h5
  refine Ad (vs:=[.int .i64 (max 0 W),.int .i64 (max 0 X)]) O O O O Ag O ee .head O λm2 bb h7=>LF.nil (kp [19,18,7,6,0,1] O) (WF.seq (WF.rl (LF.q 6 (QF.mv O O (QF.fao O M5 O (AI Af bb O (mt (mt (mt (mt (mt (mt mh)))))) O AL O (QF.fao O O2 O (AI Af bb O (mt (mt (mt (mt (mt (mt mh)))))) O AL O (QF.ldo (vs:=[.int .i64 (max 0 W),.int .i64 (max 0 X)]) Af bb O mh O O Ag O O (AG ?_))))))))))
  have ef:=bb.sel [8,8,2,7,7,0,0,0,0,0,0,0] 0 O
  have V:=e4.trans ((cf.ext C.1).trans (bm.trans ((bn.ext ab.1).trans (bw.trans (bx.trans (bz.trans (b0.trans (b3.trans (g3.trans (g6.trans (g7.trans (g9.trans ((c3.ext k.1).trans h7)))))))))))))
  have h8:=av.mono' V
  have h9:=ai.mono' V
  have ia:=ax.mono' V
  have ib:=ay.mono' V
  have ic:=az.mono' V
  have ie:=a0.mono' V
  have ig:=a1.mono' V
  have ih:=a2.mono' V
  obtain⟨m3,eg,E⟩:=bd E
  refine LF.call O O O Up O (IP (p0_w:=({ p0_w with h:=({ p0_w.h with Queue:=bo}:BT)}:Ac)) ef au h8 aw h9 ia ib ic ie ig ih an ao jm jn (AF.mk (x:=(⟨(max 0 W),(max 0 X)⟩:AD)) ⟨c4,c5⟩) eg) λm4 m5 m6 ii p=>?_
  obtain⟨m7,rfl,ag⟩:=p
  refine LF.nil (kp [19,18,7,6,0,1] O) (WF.seq (Nr 18 mo (by kernel_rfl) O (QF.mv O O (D8 O O (QF.fao O EE O (QF.fao O Kf O (AI Af ag O mh O Gn O (QF.mv O O (QF.fao O DE O (AI Af ag O (mt (mt (mt (mt (mt (mt mh)))))) O AL O (QF.fao O Ls O (AI Af ag O (mt (mt (mt (mt (mt (mt (mt (mt (mt (mt mh)))))))))) O AL O (QF.min O O O ?_)))))))))))))
  refine QF.fao O Cn O (AI Af ag O (mt (mt (mt (mt (mt (mt mh)))))) O AL O (QF.fao O Ls O (AI Af ag O (mt (mt (mt (mt (mt (mt (mt (mt (mt (mt mh)))))))))) O AL O (QF.min O O O (QF.bld (cs:=[.int .i64 (min ae.Lo A.Cap),.int .i64 (min ae.Hi A.Cap)]) HD O O O ?_)))))
  obtain⟨m8,eh,E⟩:=bd E
  refine QF.ixoe ag (mt mh) O O FM eh O λm9 ei=>AG ?_
  obtain⟨ij,ej,E⟩:=bd E
  refine LF.ste (r:=AF) (l:=p0_w.h.Vol) (i:=u) (x:=ij) O O (AF.mk (x:=(⟨(min ae.Lo A.Cap),(min ae.Hi A.Cap)⟩:AD)) ⟨(Gg cz cj),(Gg c0 cj)⟩) ei ej MA.id Ag (λe=>by cases e) ag (.tail .head) λna cd ik=>LF.nil (kp [19,6] O) (WF.seq (WF.rl (LF.q 1 (QF.ldo (vs:=[.int .i64 (max 0 W),.int .i64 (max 0 X)]) Af cd O (mt (mt (mt (mt (mt mh))))) O O Ag O O (AG (Ad (vs:=[.int .i64 (max 0 W),.int .i64 (max 0 X)]) O O O O Ag O cd (.tail (.tail (.tail (.tail (.tail (.tail (.tail (.tail (.tail (.tail (.tail .head))))))))))) O λnd ek il=>LF.nil (kp [6] O) (WF.ret (λaa ww hf hw=>?_))))))))
  have ce:=ek.sel [11,0,0,0,0,0] 6 O
  have el:=ce.sel [1,1,1,1,1] 1 O
  cases E
  have em:=V.trans (ii.trans (ik.trans il))
  exact HQ hf O hw (Gk (LD hf hw ce O mh Ag O) HC) O em ⟨_,_,O,⟨c4,c5⟩,el⟩
end Go.Proofs.YtibidnaedddfdaaGreat
