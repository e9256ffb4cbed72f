import Derived.Test.YtibidnaedddfdaaGreatCWalk0
namespace Go.Proofs.YtibidnaedddfdaaGreat
open Go.RowKit
set_option linter.unusedVariables false
set_option linter.unusedSimpArgs false
set_option maxRecDepth 10000
set_option maxHeartbeats 2000000
variable {N:Nat}{S:Nat→Prop}{L:List HP}{h:AX}
theorem A8 (hs:St S L h) {c:Int}(i:AB c) {b:Int}(g:AB b) {a:Int}(d:AB a) {r:Bool}(E:BQ N c b a=some r):
 Bf Tryz.prog 85 #[.int .i64 c,.int .i64 b,.int .i64 a] S h (λv S' h'=>v= .bool r∧St S' (L) h'):=by
 refine Ab (l:=[.int .i64 c,.int .i64 b,.int .i64 a]) 15 Tryz.func85 O Tryz.ntmps85 O λB=>?_
 rw[BQ] at E
 refine WF.seq (WF.rp (.inl O) (QF.as_ O O (AA (kp [0,1,2] O) (WF.seq (WF.rp (.inl O) (QF.mv O O (QF.mv O O (QF.leq O O O (QF.mv O O (QF.cutv 4 14 (.bool ((decide (b≤c))&&(decide (c≤a)))) ?_ ?_))))))))))
 ·
  cases j:(decide (b≤c))
  ·exact AK O O
  ·exact QF.gy O O O (QF.mv O O (QF.gy O O O (QF.mv O O (QF.gy O O O (QF.leq O O O (QF.pick O O O (AH O)))))))
 refine QF.as_ O O (AA (kp [6] O) (WF.ret (λaa ww hf hw=>?_)))
 cases E
 exact DD hf hw O O (Bc.refl S h) ⟨O,hs⟩
theorem BF (hs:St S L h) {a:Int}(b:AB a) {r:Bool}(E:BG N a=some r):
 Bf Tryz.prog 86 #[.int .i64 a] S h (λv S' h'=>v= .bool r∧St S' (L) h'):=by
 refine Ab (l:=[.int .i64 a]) 5 Tryz.func86 O Tryz.ntmps86 O λB=>?_
 rw[BG] at E
 refine WF.seq (WF.rp (.inl O) (QF.as_ O O (AA (kp [0] O) (WF.seq (WF.rc (.inl O) hs (QF.mv O O ?_))))))
 obtain⟨i,c,E⟩:=bd E
 refine Aa O O O Fx O (λh' o=>A8 (St.all h') b (iq (n:=0) O) (iq (n:=1125899906842624) O) c) (QF.as_ O O (Ak (kp [2] O) λj d g=>WF.ret (λaa ww hf hw=>?_)))
 cases E
 exact DD hf hw O O g ⟨O,d⟩
theorem Ku (hs:St S L h) {p:Value}{b:AJ}(Q:Rd S h BV p b) {r:Bool}(E:FW N b=some r):
 Bf Tryz.prog 36 #[p] S h (λv S' h'=>v= .bool r∧St S' (L) h'):=by
 refine Ab (l:=[p]) 109 Tryz.func36 O Tryz.ntmps36 O λB=>?_
 rw[FW] at E
 refine WF.seq (WF.rl (LF.boxp O Q (λe=>by cases e) O hs λq1 S2 h3 m e5 y=>LF.q 1 (QF.as_ O O (AG (LF.nil (kp [1] O) (WF.seq (WF.seq (WF.rc (.inl O) m (QF.fa O y AJ.f_Name O7 O λq7 k8=>QF.lds Ai m.1 O k8 N2 O λr9=>QF.lens O N1 O (QF.gtr O O O ?_))))))))))
 refine QF.mv O O ?_
 obtain⟨aj,g,E⟩:=bd E
 refine QF.cutv 6 17 (.bool aj) ?_ ?_
 ·
  cases ak:(decide (500<(↑b.Name.size:Int)))
  ·
   have g:=A3 ak g
   refine QF.gy O O O (QF.fa O y H4 M7 O λcb a3=>QF.gy O O O (QF.ldl Ai m.1 O a3 RJ O λcc a4=>QF.gy O O O (QF.len O a4 Pf O λa5=>QF.gy O O O ?_)))
   obtain⟨cd,am,g⟩:=bd g
   refine Aa O O O Fx O (λh' o=>A8 (St.all h') (Jk a5) (iq (n:=1) O) (iq (n:=16) O) am) (QF.gy O O O (QF.not O O (QF.pick O O O ?_)))
   cases g
   exact AH O
  ·
   have g:=A0 ak g
   cases g
   exact AK O O
 refine QF.mv O O ?_
 obtain⟨an,i,E⟩:=bd E
 refine QF.cutv 5 23 (.bool an) ?_ ?_
 ·
  cases ao:aj
  ·
   have i:=A3 ao i
   refine QF.gy O O O (QF.fa O y Ig O6 O λce a6=>QF.gy O O O (QF.ldi Ai m.1 O a6 AL O λa7=>QF.gy O O O ?_))
   obtain⟨cf,ap,i⟩:=bd i
   refine Aa O O O Fx O (λh' o=>A8 (St.all h') a7 (iq (n:=0) O) (iq (n:=64) O) ap) (QF.gy O O O (QF.not O O (QF.pick O O O ?_)))
   cases i
   exact AH O
  ·
   have i:=A0 ao i
   cases i
   exact AK O O
 refine QF.mv O O ?_
 obtain⟨d,j,E⟩:=bd E
 refine QF.cutv 6 30 (.bool d) ?_ ?_
 ·
  cases aq:an
  ·
   have j:=A3 aq j
   refine QF.gy O O O (QF.fa O y A4 DW O λcg a8=>QF.gy O O O (QF.ldl Ai m.1 O a8 Ff O λch a9=>QF.gy O O O (QF.len O a9 E5 O λba=>QF.gy O O O ?_)))
   obtain⟨ci,ar,j⟩:=bd j
   refine Aa O O O Fx O (λh' o=>A8 (St.all h') (Jk ba) (iq (n:=1) O) (iq (n:=64) O) ar) (QF.gy O O O (QF.not O O (QF.pick O O O ?_)))
   cases j
   exact AH O
  ·
   have j:=A0 aq j
   cases j
   exact AK O O
 refine QF.mv O O (QF.cutv 5 36 (.bool (d||(decide (96<(↑b.Links.length:Int))))) ?_ ?_)
 ·
  cases cj:d
  ·exact QF.gy O O O (QF.fa O y AJ.f_Links FP O λck bb=>QF.gy O O O (QF.ldl Ai m.1 O bb Ho O λcl bc=>QF.gy O O O (QF.len O bc GO O λcm=>QF.gy O O O (QF.gtr O O O (QF.pick O O O (AH O))))))
  ·exact AK O O
 refine QF.mv O O (QF.cutv 5 42 (.bool ((d||(decide (96<(↑b.Links.length:Int))))||(decide (40<(↑b.Towns.length:Int))))) ?_ ?_)
 ·
  cases cn:(d||(decide (96<(↑b.Links.length:Int))))
  ·exact QF.gy O O O (QF.fa O y FA JP O λco be=>QF.gy O O O (QF.ldl Ai m.1 O be NC O λcp bf=>QF.gy O O O (QF.len O bf La O λcq=>QF.gy O O O (QF.gtr O O O (QF.pick O O O (AH O))))))
  ·exact AK O O
 refine QF.mv O O (QF.cutv 5 48 (.bool (((d||(decide (96<(↑b.Links.length:Int))))||(decide (40<(↑b.Towns.length:Int))))||(decide (128<(↑b.Gauges.length:Int))))) ?_ ?_)
 ·
  cases cr:((d||(decide (96<(↑b.Links.length:Int))))||(decide (40<(↑b.Towns.length:Int))))
  ·exact QF.gy O O O (QF.fa O y H5 O5 O λcs bg=>QF.gy O O O (QF.ldl Ai m.1 O bg TD O λct bh=>QF.gy O O O (QF.len O bh Pe O λcu=>QF.gy O O O (QF.gtr O O O (QF.pick O O O (AH O))))))
  ·exact AK O O
 refine QF.mv O O (QF.cutv 5 54 (.bool ((((d||(decide (96<(↑b.Links.length:Int))))||(decide (40<(↑b.Towns.length:Int))))||(decide (128<(↑b.Gauges.length:Int))))||(decide (128<(↑b.Roads.length:Int))))) ?_ ?_)
 ·
  cases cv:(((d||(decide (96<(↑b.Links.length:Int))))||(decide (40<(↑b.Towns.length:Int))))||(decide (128<(↑b.Gauges.length:Int))))
  ·exact QF.gy O O O (QF.fa O y If O4 O λcw bi=>QF.gy O O O (QF.ldl Ai m.1 O bi TC O λcx bj=>QF.gy O O O (QF.len O bj Pd O λcy=>QF.gy O O O (QF.gtr O O O (QF.pick O O O (AH O))))))
  ·exact AK O O
 refine QF.mv O O (QF.cutv 5 60 (.bool (((((d||(decide (96<(↑b.Links.length:Int))))||(decide (40<(↑b.Towns.length:Int))))||(decide (128<(↑b.Gauges.length:Int))))||(decide (128<(↑b.Roads.length:Int))))||(decide (40<(↑b.Shelters.length:Int))))) ?_ ?_)
 ·
  cases cz:((((d||(decide (96<(↑b.Links.length:Int))))||(decide (40<(↑b.Towns.length:Int))))||(decide (128<(↑b.Gauges.length:Int))))||(decide (128<(↑b.Roads.length:Int))))
  ·exact QF.gy O O O (QF.fa O y GR M6 O λc0 bk=>QF.gy O O O (QF.ldl Ai m.1 O bk RI O λc1 bl=>QF.gy O O O (QF.len O bl OF O λc2=>QF.gy O O O (QF.gtr O O O (QF.pick O O O (AH O))))))
  ·exact AK O O
 refine QF.mv O O (QF.cutv 5 66 (.bool ((((((d||(decide (96<(↑b.Links.length:Int))))||(decide (40<(↑b.Towns.length:Int))))||(decide (128<(↑b.Gauges.length:Int))))||(decide (128<(↑b.Roads.length:Int))))||(decide (40<(↑b.Shelters.length:Int))))||(decide ((↑b.Room.length:Int)≠3)))) ?_ ?_)
 ·
  cases c3:(((((d||(decide (96<(↑b.Links.length:Int))))||(decide (40<(↑b.Towns.length:Int))))||(decide (128<(↑b.Gauges.length:Int))))||(decide (128<(↑b.Roads.length:Int))))||(decide (40<(↑b.Shelters.length:Int))))
  ·exact QF.gy O O O (QF.fa O y AJ.f_Room Ru O λc4 bm=>QF.gy O O O (QF.ldl Ai m.1 O bm PV O λc5 bn=>QF.gy O O O (QF.len O bn F9 O λc6=>QF.gy O O O (QF.neq O O O (QF.pick O O O (AH O))))))
  ·exact AK O O
 refine QF.mv O O ?_
 obtain⟨bo,k,E⟩:=bd E
 refine QF.cutv 5 72 (.bool bo) ?_ ?_
 ·
  cases au:((((((d||(decide (96<(↑b.Links.length:Int))))||(decide (40<(↑b.Towns.length:Int))))||(decide (128<(↑b.Gauges.length:Int))))||(decide (128<(↑b.Roads.length:Int))))||(decide (40<(↑b.Shelters.length:Int))))||(decide ((↑b.Room.length:Int)≠3)))
  ·
   have k:=A3 au k
   refine QF.gy O O O (QF.fa O y AJ.f_Err T3 O λc7 bp=>QF.gy O O O (QF.ldi Ai m.1 O bp AL O λbq=>QF.gy O O O ?_))
   obtain⟨c8,av,k⟩:=bd k
   refine Aa O O O Fx O (λh' o=>A8 (St.all h') bq (iq (n:=0) O) (iq (n:=1099511627776) O) av) (QF.gy O O O (QF.not O O (QF.pick O O O ?_)))
   cases k
   exact AH O
  ·
   have k:=A0 au k
   cases k
   exact AK O O
 refine Ak (kp [72,1] O) λY z A=>WF.if_ O (λZ=>?_) (λZ=>?_)
 ·
  have E:=A0 Z E
  refine WF.seq (WF.rp (.inl O) (QF.as_ O O (AA (kp [2] O) (WF.ret (λaa ww hf hw=>?_)))))
  cases E
  exact DD hf hw O O (e5.trans A) ⟨O,z⟩
 ·
  have E:=A3 Z E
  refine WF.skip (WF.seq (WF.seq (WF.rp (.inl O) ?_)))
  have ab:=y.mono A
  refine QF.fa O ab AJ.f_Name O7 O λc9 br=>QF.lds Af z.1 O br N2 O λda=>QF.lens O N1 O (QF.mv O O (AA (kp [76,75,1] O) (WF.blockJ (λa w=>IV B S2 Y (109,[]) a w [(1,q1)] (L) λ_ _=>Ck N b=some r) ?_ ?_)))
  ·
   refine WF.loopF (λn1=>λa w=>∃(C:Int),IV B S2 Y (109,[]) a w [(75,.int .i64 (↑b.Name.size:Int)),(1,q1),(76,.int .i64 C)] (L) λ_ _=>AB C∧Cj N b (Ck N b) n1 C=some r) N ?_ ?_ ?_
   ·
    intro aa ww hf hw
    exact⟨0,_,_,hf.sub (kp [75,1,76] O),hw,z,(Bc.refl S2 Y),(iq (n:=0) O),E⟩
   ·
    rintro aa ww ⟨_,_,_,_,_,_,_,_,E⟩
    rw[Cj] at E;cases E
   ·
    rintro n1 aa ww ⟨C,db,dc,hf,hw,u,U,dd,E⟩
    refine WF.run ?_ hf hw
    clear hf hw ww aa
    rw[Cj] at E
    refine WF.seq (WF.rp (.inl O) (QF.lss O O O (AA (kp [77,75,1,76] O) (WF.seq (WF.if_ O (λac=>?_) (λac=>?_))))))
    ·
     have E:=A0 ac E
     refine WF.skip (WF.seq (WF.block (WF.seq (WF.rp (.inl O) (QF.mv O O (QF.as_ O O (AA (kp [3,75,1,76] O) (WF.seq (WF.rp (.inl O) ?_)))))))))
     have bt:=ab.mono U
     refine QF.fa O bt AJ.f_Name O7 O λde bu=>QF.lds Af u.1 O bu N2 O λdf=>QF.mv O O ?_
     obtain⟨c,V,E⟩:=bd E
     have bv:=L3 V
     refine QF.bixk O O N1 V O (QF.as_ O O (AA (kp [4,75,1,76] O) (WF.seq (WF.rp (.inl O) (QF.mv O O (QF.lss O O O (QF.mv O O (QF.cutv 3 88 (.bool ((decide (c<32))||(decide (126<c)))) ?_ ?_))))))))
     ·
      cases bw:(decide (c<32))
      ·exact QF.gy O O O (QF.mv O O (QF.gy O O O (QF.gtr O O O (QF.pick O O O (AH O)))))
      ·exact AK O O
     refine QF.mv O O (QF.cutv 3 92 (.bool (((decide (c<32))||(decide (126<c)))||(decide (c=34)))) ?_ ?_)
     ·
      cases bx:((decide (c<32))||(decide (126<c)))
      ·exact QF.gy O O O (QF.mv O O (QF.gy O O O (QF.eql O O O (QF.pick O O O (AH O)))))
      ·exact AK O O
     refine QF.mv O O (QF.cutv 3 96 (.bool ((((decide (c<32))||(decide (126<c)))||(decide (c=34)))||(decide (c=92)))) ?_ ?_)
     ·
      cases bz:(((decide (c<32))||(decide (126<c)))||(decide (c=34)))
      ·exact QF.gy O O O (QF.mv O O (QF.gy O O O (QF.eql O O O (QF.pick O O O (AH O)))))
      ·exact AK O O
     refine AA (kp [96,75,1,76] O) (WF.if_ O (λD=>?_) (λD=>?_))
     ·
      have E:=A0 D E
      refine WF.seq (WF.rp (.inl O) (QF.as_ O O (AA (kp [2] O) (WF.ret (λaa ww hf hw=>?_)))))
      cases E
      have ad:=e5.trans (A.trans U)
      exact DD hf hw O O ad ⟨O,u⟩
     ·
      have E:=A3 D E
      refine WF.skip (Ap (WF.rp (.inl O) (QF.addw O O O (QF.mv O O (AA (kp [76,75,1] O) (WF.nil (λaa ww hf hw=>?_)))))))
      exact⟨(Aw (C+1)),_,_,hf.sub (kp [75,1,76] O),hw,u,U,(BA _),E⟩
    ·
     have E:=A3 ac E
     refine WF.exit O (λaa ww hf hw=>?_)
     exact⟨_,_,hf.sub (kp [1] O),hw,u,U,E⟩
  ·
   rintro aa ww ⟨F,G,hf,hw,H,I,E⟩
   refine WF.run ?_ hf hw
   clear hf hw ww aa
   rw[Ck] at E
   refine WF.seq (WF.seq (WF.rp (.inl O) ?_))
   have aw:=ab.mono I
   refine QF.fa O aw AJ.f_Room Ru O λb0 ax=>QF.ldl Af H.1 O ax PV O λay W=>QF.len O W F9 O λb1=>QF.mv O O (AA (kp [101,100,99] O) (WF.blockJ (λa w=>IV B F G (109,[]) a w [] (L) λ_ _=>D6 N=some r) ?_ ?_))
   ·
    refine WF.loopF (λn3=>λa w=>∃(s:Int),IV B F G (109,[]) a w [(100,.int .i64 (↑b.Room.length:Int)),(99,ay),(101,.int .i64 s)] (L) λ_ _=>AB s∧Ci N b (D6 N) n3 s=some r) N ?_ ?_ ?_
    ·
     intro aa ww hf hw
     exact⟨0,_,_,hf.sub (kp [100,99,101] O),hw,H,(Bc.refl F G),(iq (n:=0) O),E⟩
    ·
     rintro aa ww ⟨_,_,_,_,_,_,_,_,E⟩
     rw[Ci] at E;cases E
    ·
     rintro n3 aa ww ⟨s,b2,b3,hf,hw,t,x,b4,E⟩
     refine WF.run ?_ hf hw
     clear hf hw ww aa
     rw[Ci] at E
     refine WF.seq (WF.rp (.inl O) (QF.lss O O O (AA (kp [102,100,99,101] O) (WF.seq (WF.if_ O (λJ=>?_) (λJ=>?_))))))
     ·
      have E:=A0 J E
      refine WF.skip (WF.seq (WF.block (WF.seq (WF.rp (.inl O) ?_))))
      have az:=W.mono' x
      obtain⟨b5,ae,E⟩:=bd E
      refine QF.ixe O O az F9 ae O λb6 a0=>QF.ldi Af t.1 O a0 AL O λa1=>QF.as_ O O (AA (kp [6,100,99,101] O) (WF.seq (WF.rc (.inl O) t (QF.mv O O ?_))))
      obtain⟨b7,af,E⟩:=bd E
      refine Aa O O O HS O (λh' o=>BF (St.all h') a1 af) (QF.not O O (Ak (kp [107,100,99,101] O) λb8 K X=>WF.if_ O (λM=>?_) (λM=>?_)))
      ·
       have E:=A0 M E
       refine WF.seq (WF.rp (.inl O) (QF.as_ O O (AA (kp [2] O) (WF.ret (λaa ww hf hw=>?_)))))
       cases E
       have ag:=e5.trans (A.trans (I.trans (x.trans X)))
       exact DD hf hw O O ag ⟨O,K⟩
      ·
       have E:=A3 M E
       refine WF.skip (Ap (WF.rp (.inl O) (QF.addw O O O (QF.mv O O (AA (kp [101,100,99] O) (WF.nil (λaa ww hf hw=>?_)))))))
       exact⟨(Aw (s+1)),_,_,hf.sub (kp [100,99,101] O),hw,K,(x.trans X),(BA _),E⟩
     ·
      have E:=A3 J E
      refine WF.exit O (λaa ww hf hw=>?_)
      exact⟨_,_,hf.sub JH,hw,t,x,E⟩
   ·
    rintro aa ww ⟨b9,ca,hf,hw,ah,a2,E⟩
    refine WF.run ?_ hf hw
    clear hf hw ww aa
    rw[D6] at E
    refine WF.seq (WF.rp (.inl O) (QF.as_ O O (AA (kp [2] O) (WF.ret (λaa ww hf hw=>?_)))))
    cases E
    have ai:=e5.trans (A.trans (I.trans a2))
    exact DD hf hw O O ai ⟨O,ah⟩
theorem MQ (hs:St S L h) {b:ByteArray}(x:b.size≤maxLen) {r:Bool}(E:Gc N b=some r):
 Bf Tryz.prog 140 #[.string b] S h (λv S' h'=>v= .bool r∧St S' (L) h'):=by
 refine Ab (l:=[.string b]) 54 Tryz.func140 O Tryz.ntmps140 O λB=>?_
 rw[Gc] at E
 refine WF.seq (WF.rp (.inl O) (QF.as_ O O (AA (kp [0] O) (WF.seq (WF.seq (WF.rp (.inl O) (QF.mv O O (QF.lens O N1 O (QF.lss O O O (QF.mv O O (QF.cutv 4 12 (.bool ((decide ((↑b.size:Int)<1))||(decide (24<(↑b.size:Int))))) ?_ ?_)))))))))))
 ·
  cases Y:(decide ((↑b.size:Int)<1))
  ·exact QF.gy O O O (QF.mv O O (QF.gy O O O (QF.lens O N1 O (QF.gy O O O (QF.gtr O O O (QF.pick O O O (AH O)))))))
  ·exact AK O O
 refine QF.mv O O (QF.cutv 3 16 (.bool (((decide ((↑b.size:Int)<1))||(decide (24<(↑b.size:Int))))||(b==(ByteArray.mk #[111,117,116])))) ?_ ?_)
 ·
  cases Z:((decide ((↑b.size:Int)<1))||(decide (24<(↑b.size:Int))))
  ·exact QF.gy O O O (QF.mv O O (QF.gy O O O (QF.eqstr O O O (QF.pick O O O (AH O)))))
  ·exact AK O O
 refine QF.mv O O ?_
 obtain⟨z,d,E⟩:=bd E
 refine QF.cutv 4 21 (.bool z) ?_ ?_
 ·
  cases A:(((decide ((↑b.size:Int)<1))||(decide (24<(↑b.size:Int))))||(b==(ByteArray.mk #[111,117,116])))
  ·
   have d:=A3 A d
   refine QF.gy O O O (QF.mv O O (QF.gy O O O ?_))
   obtain⟨z5,s,d⟩:=bd d
   have r6:=L3 s
   refine QF.bixk O O N1 s O (QF.gy O O O (QF.lss O O O (QF.pick O O O ?_)))
   cases d
   exact AH O
  ·
   have d:=A0 A d
   cases d
   exact AK O O
 refine QF.mv O O ?_
 obtain⟨F,g,E⟩:=bd E
 refine QF.cutv 4 26 (.bool F) ?_ ?_
 ·
  cases C:z
  ·
   have g:=A3 C g
   refine QF.gy O O O (QF.mv O O (QF.gy O O O ?_))
   obtain⟨z9,t,g⟩:=bd g
   have G:=L3 t
   refine QF.bixk O O N1 t O (QF.gy O O O (QF.gtr O O O (QF.pick O O O ?_)))
   cases g
   exact AH O
  ·
   have g:=A0 C g
   cases g
   exact AK O O
 refine AA (kp [26,0] O) (WF.if_ O (λm=>?_) (λm=>?_))
 ·
  have E:=A0 m E
  refine WF.seq (WF.rp (.inl O) (QF.as_ O O (AA (kp [2] O) (WF.ret (λaa ww hf hw=>?_)))))
  cases E
  exact DD hf hw O O (Bc.refl S h) ⟨O,hs⟩
 ·
  have E:=A3 m E
  refine WF.skip (WF.seq (WF.seq (WF.rp (.inl O) (QF.as_ O O (AA (kp [3,0] O) (WF.blockJ (λa w=>IV B S h (54,[]) a w [] (L) λ_ _=>Eh N=some r) ?_ ?_))))))
  ·
   refine WF.loopF (λD=>λa w=>∃(i:Int),IV B S h (54,[]) a w [(0,.string b),(3,.int .i64 i)] (L) λ_ _=>AB i∧Dh N b (Eh N) D i=some r) N ?_ ?_ ?_
   ·
    intro aa ww hf hw
    exact⟨1,_,_,hf.sub (kp [0,3] O),hw,hs,(Bc.refl S h),(iq (n:=1) O),E⟩
   ·
    rintro aa ww ⟨_,_,_,_,_,_,_,_,E⟩
    rw[Dh] at E;cases E
   ·
    rintro D aa ww ⟨i,H,I,hf,hw,j,o,J,E⟩
    refine WF.run ?_ hf hw
    clear hf hw ww aa
    rw[Dh] at E
    refine WF.seq (WF.seq (WF.rp (.inl O) (QF.mv O O (QF.mv O O (QF.lens O N1 O (QF.lss O O O (AA (kp [30,0,3] O) (WF.if_ O (λp=>?_) (λp=>?_)))))))))
    ·
     have E:=A0 p E
     refine WF.skip (WF.seq (WF.block (WF.seq (WF.rp (.inl O) (QF.mv O O (QF.mv O O ?_))))))
     obtain⟨c,k,E⟩:=bd E
     have K:=L3 k
     refine QF.bixk O O N1 k O (QF.as_ O O (AA (kp [4,0,3] O) (WF.seq (WF.rp (.inl O) (QF.mv O O (QF.lss O O O (QF.mv O O (QF.cutv 3 41 (.bool ((decide (c<97))||(decide (122<c)))) ?_ ?_))))))))
     ·
      cases M:(decide (c<97))
      ·exact QF.gy O O O (QF.mv O O (QF.gy O O O (QF.gtr O O O (QF.pick O O O (AH O)))))
      ·exact AK O O
     refine QF.mv O O (QF.cutv 7 49 (.bool (((decide (c<97))||(decide (122<c)))&&((decide (c<48))||(decide (57<c))))) ?_ ?_)
     ·
      cases Q:((decide (c<97))||(decide (122<c)))
      ·exact AK O O
      ·
       refine QF.gy O O O (QF.mv O O (QF.gy O O O (QF.lss O O O (QF.gy O O O (QF.mv O O (QF.cutv 3 48 (.bool ((decide (c<48))||(decide (57<c)))) ?_ ?_))))))
       ·
        cases U:(decide (c<48))
        ·exact QF.gy O O O (QF.mv O O (QF.gy O O O (QF.gtr O O O (QF.gy O O O (QF.pick O O O (AH O))))))
        ·exact AK O O
       exact QF.pick O O O (AH O)
     refine QF.mv O O (QF.cutv 3 53 (.bool ((((decide (c<97))||(decide (122<c)))&&((decide (c<48))||(decide (57<c))))&&(decide (c≠95)))) ?_ ?_)
     ·
      cases V:(((decide (c<97))||(decide (122<c)))&&((decide (c<48))||(decide (57<c))))
      ·exact AK O O
      ·exact QF.gy O O O (QF.mv O O (QF.gy O O O (QF.neq O O O (QF.pick O O O (AH O)))))
     refine AA (kp [53,0,3] O) (WF.if_ O (λq=>?_) (λq=>?_))
     ·
      have E:=A0 q E
      refine WF.seq (WF.rp (.inl O) (QF.as_ O O (AA (kp [2] O) (WF.ret (λaa ww hf hw=>?_)))))
      cases E
      exact DD hf hw O O o ⟨O,j⟩
     ·
      have E:=A3 q E
      refine WF.skip (Ap (WF.rp (.inl O) (QF.mv O O (QF.addw O O O (QF.as_ O O (AA (kp [3,0] O) (WF.nil (λaa ww hf hw=>?_))))))))
      exact⟨(Aw (i+1)),_,_,hf.sub (kp [0,3] O),hw,j,o,(BA _),E⟩
    ·
     have E:=A3 p E
     refine WF.exit O (λaa ww hf hw=>?_)
     exact⟨_,_,hf.sub JH,hw,j,o,E⟩
  ·
   rintro aa ww ⟨W,X,hf,hw,u,y,E⟩
   refine WF.run ?_ hf hw
   clear hf hw ww aa
   rw[Eh] at E
   refine WF.seq (WF.rp (.inl O) (QF.as_ O O (AA (kp [2] O) (WF.ret (λaa ww hf hw=>?_)))))
   cases E
   exact DD hf hw O O y ⟨O,u⟩
theorem Mr {c:Nat}{d:(List (AE×Bool))}(hs:St S (MP (λk:AE=>Value.agg (AE.v k).toArray) Value.bool c d::L) h) {g:ByteArray}(i:g.size≤maxLen) {b:ByteArray}(j:b.size≤maxLen) {r:Bool×(List (AE×Bool))}(E:Gt N d g b=some r):
 Bf Tryz.prog 88 #[.map (some c),.string g,.string b] S h (λv S' h'=>v= .bool r.1∧St S' (MP (λk:AE=>Value.agg (AE.v k).toArray) Value.bool c r.2::L) h'):=by
 refine Ab (l:=[.map (some c),.string g,.string b]) 23 Tryz.func88 O Tryz.ntmps88 O λB=>?_
 rw[Gt] at E
 refine WF.seq (WF.rp (.inl O) (QF.as_ O O (AA (kp [0,1,2] O) (WF.seq (WF.seq (WF.rp (.inl O) (QF.mv O O (QF.eqstr O O O (AA (kp [9,0,1,2] O) (WF.cut (λa w=>∃(m:ByteArray),IV B S h (23,[]) a w [(0,.map (some c)),(2,.string b),(1,.string m)] (MP (λk:AE=>Value.agg (AE.v k).toArray) Value.bool c d::L) λ_ _=>m.size≤maxLen∧E3 N d b m=some r) ?_ ?_))))))))))
 ·
  refine WF.if_ O (λK=>?_) (λK=>?_)
  ·
   have E:=A0 K E
   refine WF.rp (.inl O) (QF.as_ O O (AA (kp [1,0,2] O) (WF.nil (λaa ww hf hw=>?_))))
   exact⟨(ByteArray.mk #[116,111,119,110]),_,_,hf.sub (kp [0,2,1] O),hw,hs,(Bc.refl S h),(by decide),E⟩
  ·
   have E:=A3 K E
   refine WF.skip (WF.nil (λaa ww hf hw=>?_))
   exact⟨g,_,_,hf.sub (kp [0,2,1] O),hw,hs,(Bc.refl S h),i,E⟩
 ·
  rintro aa ww ⟨m,Z,h5,hf,hw,M,U,r2,E⟩
  refine WF.run ?_ hf hw
  clear hf hw ww aa
  rw[E3] at E
  refine WF.seq (WF.rl (LF.q 3 (QF.mv O O (QF.mv O O (QF.bld (cs:=[.string m,.string b]) W1 O O O (AG (LF.al Wk O M λb8 h9 t u=>Ad (vs:=[.string m,.string b]) O O O O Qc O t .head O λV n y=>LF.nil (kp [7,0,2] O) (WF.seq (WF.seq (WF.rc (.inl O) n (QF.mv O O ?_)))))))))))
  obtain⟨A,C,E⟩:=bd E
  refine Aa O O O Xl O (λh' o=>MQ (St.all h') j C) (QF.not O O (QF.mv O O (QF.cutv 4 20 (.bool ((!A)||((Mn (λk:AE=>Value.agg (AE.v k).toArray) d (⟨m,b⟩:AE)).getD false))) ?_ ?_)))
  ·
   cases W:(!A)
   ·exact QF.gy O O O (QF.mv O O (QF.gy O O O (QF.ldo (vs:=[.string m,.string b]) Ai n O mh O O Qc O O (QF.gy O O O (X8 (k0:=(⟨m,b⟩:AE)) (z:=false) Ai n (mt mh) O O TB Rk Zy O O (QF.pick O O O (AH O)))))))
   ·exact AK O O
  refine Ak (kp [20,7,0] O) λX p D=>WF.if_ O (λs=>?_) (λs=>?_)
  ·
   have E:=A0 s E
   refine WF.seq (WF.rp (.inl O) (QF.as_ O O (AA (kp [6] O) (WF.ret (λaa ww hf hw=>?_)))))
   have F:=p.sel [1] 1 O
   cases E
   have G:=U.trans (u.trans (y.trans D))
   exact DD hf hw O O G ⟨O,F⟩
  ·
   have E:=A3 s E
   refine WF.skip (WF.seq (WF.rl (LF.q 2 (QF.mv O O (QF.ldo (vs:=[.string m,.string b]) Af p O mh O O Qc O O (AG (YE (k0:=(⟨m,b⟩:AE)) (x:=true) p (.tail .head) O O O TB Rk λY H Q=>LF.nil JH (WF.seq (WF.rp (.inl O) (QF.as_ O O (AA (kp [6] O) (WF.ret (λaa ww hf hw=>?_)))))))))))))
   have I:=H.sel [1] 1 O
   cases E
   have J:=U.trans (u.trans (y.trans (D.trans Q)))
   exact DD hf hw O O J ⟨O,I⟩
theorem Cr {d:Nat}{c2_:(List (AE×Bool))}{a:Nat}{g:Nat}{c3_:Bool}(hs:St S (Bx d 154 [.map (some a)]::MP (λk:AE=>Value.agg (AE.v k).toArray) Value.bool a c2_::Bx g 4 [.bool c3_]::L) h) {b:ByteArray}(i:b.size≤maxLen) {c:ByteArray}(j:c.size≤maxLen) {r:(List (AE×Bool))×Bool}(E:Bi N c2_ c3_ b c=some r):
 Bf Tryz.prog 87 #[.string b,.string c,.pointer (some ⟨d,0,none⟩),.pointer (some ⟨g,0,none⟩)] S h (λv S' h'=>v= .tuple #[]∧St S' (Bx d 154 [.map (some a)]::MP (λk:AE=>Value.agg (AE.v k).toArray) Value.bool a r.1::Bx g 4 [.bool r.2]::L) h'):=by
 refine Ab (l:=[.string b,.string c,.pointer (some ⟨d,0,none⟩),.pointer (some ⟨g,0,none⟩)]) 13 Tryz.func87 O Tryz.ntmps87 O λB=>?_
 rw[Bi] at E
 refine WF.rl (LF.q 3 (AI Af hs O mh O TJ O (QF.mv O O (QF.mv O O (AG ?_)))))
 have s:=hs.pick (.tail .head)
 obtain⟨t,u,E⟩:=bd E
 refine LF.call O O O ZL O (Mr s i j u) λy z A x p=>?_
 obtain⟨rfl,m⟩:=p
 refine LF.q 3 (QF.mv O O (QF.cutv 2 12 (.bool (t.1&&c3_)) ?_ ?_))
 ·
  cases C:t.1
  ·exact AK O O
  ·exact QF.gy O O O (AI Af m O (mt (mt mh)) O ME O (QF.pick O O O (AH O)))
 refine AG (Ad (vs:=[.bool (t.1&&c3_)]) O O O O ME O m (.tail (.tail .head)) O λD n w=>LF.nil JH (WF.nil (λaa ww hf hw=>?_)))
 have o:=n.sel [1,0,0] 0 O
 cases E
 exact HQ hf O hw HC O (x.trans w) ⟨O,o⟩
theorem KM (hs:St S L h) {s:Value}{c:AJ}(bt:Rd S h BV s c) {r:Bool}(E:F6 N c=some r):
 Bf Tryz.prog 37 #[s] S h (λv S' h'=>v= .bool r∧St S' (L) h'):=by
 refine Ab (l:=[s]) 106 Tryz.func37 O Tryz.ntmps37 O λB=>?_
 rw[F6] at E
 refine WF.seq (WF.rl (LF.boxp O bt (λe=>by cases e) O hs λq1 S2 h3 gr e5 k6=>LF.q 1 (QF.as_ O O (AG (LF.nil (kp [1] O) (WF.seq (WF.rl (YF (K:=0) (E:=0) O gr (λk:AE=>Value.agg (AE.v k).toArray) Value.bool λj h8 gs ed=>LF.al Wr O gs λg ki ee ef=>Ad (vs:=[.map (some j)]) O O O O TJ O ee .head O λkj eg eh=>LF.nil (kp [3,1] O) (WF.seq ?_)))))))))
 refine WF.rl (LF.al YQ O eg λd kk ei ej=>Ad (vs:=[.bool true]) O O O O ME O ei .head O λcy bz ek=>LF.nil (kp [4,3,1] O) (WF.seq (WF.rp (.inl O) (QF.mkf O O O (QF.as_ O O (AA (kp [5,4,1] O) (WF.seq (WF.seq (WF.rp (.inl O) ?_)))))))))
 have el:=ed.trans (ef.trans (eh.trans (ej.trans ek)))
 have em:=k6.mono el
 refine QF.fa O em H4 M7 O λkl gu=>QF.ldl Af bz.1 O gu RJ O λgv en=>QF.len O en Pf O λkm=>QF.mv O O (AA (kp [25,24,23,5,4,1] O) (WF.blockJ (λa w=>∃(bu:Bool) (bv:(List (AE×Bool))),IV B S2 cy (106,[]) a w [(5,.func (.func 87) #[] #[.pointer (some ⟨g,0,none⟩),.pointer (some ⟨d,0,none⟩)]),(4,.pointer (some ⟨d,0,none⟩)),(1,q1)] (Bx d 4 [.bool bu]::Bx g 154 [.map (some j)]::MP (λk:AE=>Value.agg (AE.v k).toArray) Value.bool j bv::L) λ_ _=>C6 N c bu bv=some r) ?_ ?_))
 ·
  refine WF.loopF (λn1=>λa w=>∃(aj:Int) (ak:Bool) (am:(List (AE×Bool))),IV B S2 cy (106,[]) a w [(24,.int .i64 (↑c.Owners.length:Int)),(23,gv),(5,.func (.func 87) #[] #[.pointer (some ⟨g,0,none⟩),.pointer (some ⟨d,0,none⟩)]),(4,.pointer (some ⟨d,0,none⟩)),(1,q1),(25,.int .i64 aj)] (Bx d 4 [.bool ak]::Bx g 154 [.map (some j)]::MP (λk:AE=>Value.agg (AE.v k).toArray) Value.bool j am::L) λ_ _=>AB aj∧B9 N c (C6 N c) n1 aj ak am=some r) N ?_ ?_ ?_
  ·
   intro aa ww hf hw
   exact⟨0,true,([]:(List (AE×Bool))),_,_,hf.sub (kp [24,23,5,4,1,25] O),hw,bz,(Bc.refl S2 cy),(iq (n:=0) O),E⟩
  ·
   rintro aa ww ⟨_,_,_,_,_,_,_,_,_,_,E⟩
   rw[B9] at E;cases E
  ·
   rintro n1 aa ww ⟨aj,ak,am,kn,ko,hf,hw,an,cz,kq,E⟩
   refine WF.run ?_ hf hw
   clear hf hw ww aa
   rw[B9] at E
   refine WF.seq (WF.rp (.inl O) (QF.lss O O O (AA (kp [26,24,23,5,4,1,25] O) (WF.seq (WF.if_ O (λc0=>?_) (λc0=>?_))))))
   ·
    have E:=A0 c0 E
    refine WF.skip (WF.seq (WF.block (WF.seq (WF.rp (.inl O) ?_))))
    have gw:=en.mono' cz
    obtain⟨kr,eo,E⟩:=bd E
    refine QF.ixe O O gw Pf eo O λks gx=>QF.lds Af an.1 O gx N2 O λgz=>QF.as_ O O (AA (kp [7,24,23,5,4,1,25] O) (WF.rl (LF.q 2 (QF.mv O O (QF.mv O O (AG ?_))))))
    have ep:=an.sel [1,1,0] 0 O
    obtain⟨eq,er,E⟩:=bd E
    refine LF.call O O O Nn O (Cr (c2_:=am) (c3_:=ak) ep (by decide) gz er) λkt ku kv g0 p=>?_
    obtain⟨rfl,es⟩:=p
    refine LF.nil (kp [24,23,5,4,1,25] O) (Ap (WF.rp (.inl O) (QF.addw O O O (QF.mv O O (AA (kp [25,24,23,5,4,1] O) (WF.nil (λaa ww hf hw=>?_)))))))
    have et:=es.sel [2,0,0] 0 O
    exact⟨(Aw (aj+1)),eq.2,eq.1,_,_,hf.sub (kp [24,23,5,4,1,25] O),hw,et,(cz.trans g0),(BA _),E⟩
   ·
    have E:=A3 c0 E
    refine WF.exit O (λaa ww hf hw=>?_)
    exact⟨ak,am,_,_,hf.sub (kp [5,4,1] O),hw,an,cz,E⟩
 ·
  rintro aa ww ⟨bu,bv,c1,c2,hf,hw,b0,eu,E⟩
  refine WF.run ?_ hf hw
  clear hf hw ww aa
  rw[C6] at E
  refine WF.seq (WF.seq (WF.rp (.inl O) ?_))
  have ev:=em.mono eu
  refine QF.fa O ev A4 DW O λkw g1=>QF.ldl Af b0.1 O g1 Ff O λg2 ew=>QF.len O ew E5 O λkx=>QF.mv O O (AA (kp [36,35,34,5,4,1] O) (WF.blockJ (λa w=>∃(bw:Bool) (bx:(List (AE×Bool))),IV B c1 c2 (106,[]) a w [(5,.func (.func 87) #[] #[.pointer (some ⟨g,0,none⟩),.pointer (some ⟨d,0,none⟩)]),(4,.pointer (some ⟨d,0,none⟩)),(1,q1)] (Bx d 4 [.bool bw]::Bx g 154 [.map (some j)]::MP (λk:AE=>Value.agg (AE.v k).toArray) Value.bool j bx::L) λ_ _=>C5 N c bw bx=some r) ?_ ?_))
  ·
   refine WF.loopF (λn3=>λa w=>∃(ao:Int) (ap:Bool) (aq:(List (AE×Bool))),IV B c1 c2 (106,[]) a w [(35,.int .i64 (↑c.Places.length:Int)),(34,g2),(5,.func (.func 87) #[] #[.pointer (some ⟨g,0,none⟩),.pointer (some ⟨d,0,none⟩)]),(4,.pointer (some ⟨d,0,none⟩)),(1,q1),(36,.int .i64 ao)] (Bx d 4 [.bool ap]::Bx g 154 [.map (some j)]::MP (λk:AE=>Value.agg (AE.v k).toArray) Value.bool j aq::L) λ_ _=>AB ao∧B8 N c (C5 N c) n3 ao ap aq=some r) N ?_ ?_ ?_
   ·
    intro aa ww hf hw
    exact⟨0,bu,bv,_,_,hf.sub (kp [35,34,5,4,1,36] O),hw,b0,(Bc.refl c1 c2),(iq (n:=0) O),E⟩
   ·
    rintro aa ww ⟨_,_,_,_,_,_,_,_,_,_,E⟩
    rw[B8] at E;cases E
   ·
    rintro n3 aa ww ⟨ao,ap,aq,ky,kz,hf,hw,ar,c3,k0,E⟩
    refine WF.run ?_ hf hw
    clear hf hw ww aa
    rw[B8] at E
    refine WF.seq (WF.rp (.inl O) (QF.lss O O O (AA (kp [37,35,34,5,4,1,36] O) (WF.seq (WF.if_ O (λc4=>?_) (λc4=>?_))))))
    ·
     have E:=A0 c4 E
     refine WF.skip (WF.seq (WF.block (WF.seq (WF.rl (LF.q 2 ?_)))))
     have g3:=ew.mono' c3
     obtain⟨i,ey,E⟩:=bd E
     refine QF.ixe O O g3 E5 ey O λk1 g4=>QF.ld Af ar.1 O g4 Im (λe=>by cases e) O λk2 g5=>AG (LF.al OB O ar λk3 k4 ez e0=>?_)
     have g6:=g5.mono e0
     obtain⟨b1,b2,b3,rfl,g7,k5,k7,g8,e1,e2,g9,ha,hb,hc,hd,e3⟩:=BO.ex g6
     refine LF.st (vs:=[.string i.Name,.int .i64 i.Kind,.int .i64 i.Office,.int .i64 i.Cap,b1,b2,.int .i64 i.Num,.int .i64 i.Den,.int .i64 i.Down,.int .i64 i.Delay,.int .i64 i.Floor,b3]) (cs':=[.string i.Name,.int .i64 i.Kind,.int .i64 i.Office,.int .i64 i.Cap,b1,b2,.int .i64 i.Num,.int .i64 i.Den,.int .i64 i.Down,.int .i64 i.Delay,.int .i64 i.Floor,b3]) O O O (AC O (AC O (AC O (AC O (AC e1.one (AC e2.one (AC O (AC O (AC O (AC O (AC O (AC e3.one Eo)))))))))))) Im O ez .head O O λhe au e4=>LF.nil (kp [9,35,34,5,4,1,36] O) (WF.rl (LF.q 3 (QF.mv O O (QF.fao O Vv O (AI Af au O mh O N2 O (AG ?_))))))
     have c5:=au.sel [2,2,1,0] 0 O
     obtain⟨b4,c6,E⟩:=bd E
     refine LF.call O O O Nn O (Cr (c2_:=aq) (c3_:=ap) c5 (by decide) g7 c6) λhg hh hi e6 p=>?_
     obtain⟨rfl,c7⟩:=p
     refine LF.nil (kp [35,34,5,4,1,36] O) (Ap (WF.rp (.inl O) (QF.addw O O O (QF.mv O O (AA (kp [36,35,34,5,4,1] O) (WF.nil (λaa ww hf hw=>?_)))))))
     have c8:=c7.sel [2,0,0] 1 O
     have c9:=c3.trans (e0.trans (e4.trans e6))
     exact⟨(Aw (ao+1)),b4.2,b4.1,_,_,hf.sub (kp [35,34,5,4,1,36] O),hw,c8,c9,(BA _),E⟩
    ·
     have E:=A3 c4 E
     refine WF.exit O (λaa ww hf hw=>?_)
     exact⟨ap,aq,_,_,hf.sub (kp [5,4,1] O),hw,ar,c3,E⟩
  ·
   rintro aa ww ⟨bw,bx,av,aw,hf,hw,ax,b5,E⟩
   refine WF.run ?_ hf hw
   clear hf hw ww aa
   rw[C5] at E
   refine WF.seq (WF.seq (WF.rp (.inl O) ?_))
   have b6:=ev.mono b5
   refine QF.fa O b6 AJ.f_Links FP O λhj e7=>QF.ldl Af ax.1 O e7 Ho O λe8 b8=>QF.len O b8 GO O λhk=>QF.mv O O (AA (kp [48,47,46,5,4,1] O) (WF.blockJ (λa w=>∃(Z:Bool) (ab:(List (AE×Bool))),IV B av aw (106,[]) a w [(5,.func (.func 87) #[] #[.pointer (some ⟨g,0,none⟩),.pointer (some ⟨d,0,none⟩)]),(4,.pointer (some ⟨d,0,none⟩)),(1,q1)] (Bx d 4 [.bool Z]::Bx g 154 [.map (some j)]::MP (λk:AE=>Value.agg (AE.v k).toArray) Value.bool j ab::L) λ_ _=>C4 N c Z ab=some r) ?_ ?_))
   ·
    refine WF.loopF (λn5=>λa w=>∃(t:Int) (u:Bool) (x:(List (AE×Bool))),IV B av aw (106,[]) a w [(47,.int .i64 (↑c.Links.length:Int)),(46,e8),(5,.func (.func 87) #[] #[.pointer (some ⟨g,0,none⟩),.pointer (some ⟨d,0,none⟩)]),(4,.pointer (some ⟨d,0,none⟩)),(1,q1),(48,.int .i64 t)] (Bx d 4 [.bool u]::Bx g 154 [.map (some j)]::MP (λk:AE=>Value.agg (AE.v k).toArray) Value.bool j x::L) λ_ _=>AB t∧B7 N c (C4 N c) n5 t u x=some r) N ?_ ?_ ?_
    ·
     intro aa ww hf hw
     exact⟨0,bw,bx,_,_,hf.sub (kp [47,46,5,4,1,48] O),hw,ax,(Bc.refl av aw),(iq (n:=0) O),E⟩
    ·
     rintro aa ww ⟨_,_,_,_,_,_,_,_,_,_,E⟩
     rw[B7] at E;cases E
    ·
     rintro n5 aa ww ⟨t,u,x,hl,hm,hf,hw,U,ay,hn,E⟩
     refine WF.run ?_ hf hw
     clear hf hw ww aa
     rw[B7] at E
     refine WF.seq (WF.rp (.inl O) (QF.lss O O O (AA (kp [49,47,46,5,4,1,48] O) (WF.seq (WF.if_ O (λaz=>?_) (λaz=>?_))))))
     ·
      have E:=A0 az E
      refine WF.skip (WF.seq (WF.block (WF.seq (WF.rl (LF.q 2 ?_)))))
      have e9:=b8.mono' ay
      obtain⟨b,da,E⟩:=bd E
      refine QF.ixe O O e9 GO da O λho fb=>QF.ld Af U.1 O fb Du (λe=>by cases e) O λhp fc=>AG (LF.al K8 O U λhq hr db b9=>?_)
      have fd:=fc.mono b9
      obtain⟨ca,cb,cc,rfl,fe,ht,hu,hv,ff,fg,fh,hx,hy,hz,h0,h1,h2,h4,h5,h6,h7,h9⟩:=A9.ex fd
      refine LF.st (vs:=[.string b.Name,.int .i64 b.Kind,.int .i64 b.From,.int .i64 b.To,ca,cb,cc,.int .i64 b.Positions,.int .i64 b.Speed,.int .i64 b.Leak,.int .i64 b.Crest,.int .i64 b.Num,.int .i64 b.Den,.int .i64 b.Prime,.int .i64 b.Break,.int .i64 b.BackNum,.int .i64 b.BackDen,.int .i64 b.Delay]) (cs':=[.string b.Name,.int .i64 b.Kind,.int .i64 b.From,.int .i64 b.To,ca,cb,cc,.int .i64 b.Positions,.int .i64 b.Speed,.int .i64 b.Leak,.int .i64 b.Crest,.int .i64 b.Num,.int .i64 b.Den,.int .i64 b.Prime,.int .i64 b.Break,.int .i64 b.BackNum,.int .i64 b.BackDen,.int .i64 b.Delay]) O O O (AC O (AC O (AC O (AC O (AC ff.one (AC fg.one (AC fh.one (AC O (AC O (AC O (AC O (AC O (AC O (AC O (AC O (AC O (AC O (AC O Eo)))))))))))))))))) Du O db .head O O λia a0 fi=>LF.nil (kp [11,47,46,5,4,1,48] O) (WF.rl (LF.q 3 (QF.mv O O (QF.fao O UP O (AI Af a0 O mh O N2 O (AG ?_))))))
      have dc:=a0.sel [2,2,1,0] 0 O
      obtain⟨cd,dd,E⟩:=bd E
      refine LF.call O O O Nn O (Cr (c2_:=x) (c3_:=u) dc (by decide) fe dd) λib ic id fj p=>?_
      obtain⟨rfl,de⟩:=p
      refine LF.nil (kp [47,46,5,4,1,48] O) (Ap (WF.rp (.inl O) (QF.addw O O O (QF.mv O O (AA (kp [48,47,46,5,4,1] O) (WF.nil (λaa ww hf hw=>?_)))))))
      have df:=de.sel [2,0,0] 1 O
      have dg:=ay.trans (b9.trans (fi.trans fj))
      exact⟨(Aw (t+1)),cd.2,cd.1,_,_,hf.sub (kp [47,46,5,4,1,48] O),hw,df,dg,(BA _),E⟩
     ·
      have E:=A3 az E
      refine WF.exit O (λaa ww hf hw=>?_)
      exact⟨u,x,_,_,hf.sub (kp [5,4,1] O),hw,U,ay,E⟩
   ·
    rintro aa ww ⟨Z,ab,a1,a2,hf,hw,a3,ce,E⟩
    refine WF.run ?_ hf hw
    clear hf hw ww aa
    rw[C4] at E
    refine WF.seq (WF.seq (WF.rp (.inl O) ?_))
    have cf:=b6.mono ce
    refine QF.fa O cf FA JP O λie fk=>QF.ldl Af a3.1 O fk NC O λfl cg=>QF.len O cg La O λig=>QF.mv O O (AA (kp [60,59,58,5,4,1] O) (WF.blockJ (λa w=>∃(ac:Bool) (ad:(List (AE×Bool))),IV B a1 a2 (106,[]) a w [(5,.func (.func 87) #[] #[.pointer (some ⟨g,0,none⟩),.pointer (some ⟨d,0,none⟩)]),(4,.pointer (some ⟨d,0,none⟩)),(1,q1)] (Bx d 4 [.bool ac]::Bx g 154 [.map (some j)]::MP (λk:AE=>Value.agg (AE.v k).toArray) Value.bool j ad::L) λ_ _=>C3 N c ac ad=some r) ?_ ?_))
    ·
     refine WF.loopF (λn7=>λa w=>∃(y:Int) (z:Bool) (A:(List (AE×Bool))),IV B a1 a2 (106,[]) a w [(59,.int .i64 (↑c.Towns.length:Int)),(58,fl),(5,.func (.func 87) #[] #[.pointer (some ⟨g,0,none⟩),.pointer (some ⟨d,0,none⟩)]),(4,.pointer (some ⟨d,0,none⟩)),(1,q1),(60,.int .i64 y)] (Bx d 4 [.bool z]::Bx g 154 [.map (some j)]::MP (λk:AE=>Value.agg (AE.v k).toArray) Value.bool j A::L) λ_ _=>AB y∧B6 N c (C3 N c) n7 y z A=some r) N ?_ ?_ ?_
     ·
      intro aa ww hf hw
      exact⟨0,Z,ab,_,_,hf.sub (kp [59,58,5,4,1,60] O),hw,a3,(Bc.refl a1 a2),(iq (n:=0) O),E⟩
     ·
      rintro aa ww ⟨_,_,_,_,_,_,_,_,_,_,E⟩
      rw[B6] at E;cases E
     ·
      rintro n7 aa ww ⟨y,z,A,ih,ii,hf,hw,V,a4,ij,E⟩
      refine WF.run ?_ hf hw
      clear hf hw ww aa
      rw[B6] at E
      refine WF.seq (WF.rp (.inl O) (QF.lss O O O (AA (kp [61,59,58,5,4,1,60] O) (WF.seq (WF.if_ O (λa5=>?_) (λa5=>?_))))))
      ·
       have E:=A0 a5 E
       refine WF.skip (WF.seq (WF.block (WF.seq (WF.rl (LF.q 2 ?_)))))
       have fm:=cg.mono' a4
       obtain⟨m,dh,E⟩:=bd E
       refine QF.ixe O O fm La dh O λik fn=>QF.ld Af V.1 O fn Iw (λe=>by cases e) O λil fo=>AG (LF.al Of O V λim io di ch=>?_)
       have fp:=fo.mono ch
       obtain⟨rfl,⟨fq,ip,ir,it,iu,iv,iw⟩⟩:=EK.ex fp
       refine Ad (vs:=[.string m.Name,.int .i64 m.Place,.int .i64 m.Flood,.int .i64 m.Lead,.int .i64 m.People,.int .i64 m.Watch,.int .i64 m.Quorum]) O O O O Iw O di .head O λiy a6 fr=>LF.nil (kp [13,59,58,5,4,1,60] O) (WF.rl (LF.q 3 (QF.mv O O (QF.fao O UO O (AI Af a6 O mh O N2 O (AG ?_))))))
       have dj:=a6.sel [2,2,1,0] 0 O
       obtain⟨ci,dk,E⟩:=bd E
       refine LF.call O O O Nn O (Cr (c2_:=A) (c3_:=z) dj (by decide) fq dk) λiz i0 i1 fs p=>?_
       obtain⟨rfl,dl⟩:=p
       refine LF.nil (kp [59,58,5,4,1,60] O) (Ap (WF.rp (.inl O) (QF.addw O O O (QF.mv O O (AA (kp [60,59,58,5,4,1] O) (WF.nil (λaa ww hf hw=>?_)))))))
       have dm:=dl.sel [2,0,0] 1 O
       have dn:=a4.trans (ch.trans (fr.trans fs))
       exact⟨(Aw (y+1)),ci.2,ci.1,_,_,hf.sub (kp [59,58,5,4,1,60] O),hw,dm,dn,(BA _),E⟩
      ·
       have E:=A3 a5 E
       refine WF.exit O (λaa ww hf hw=>?_)
       exact⟨z,A,_,_,hf.sub (kp [5,4,1] O),hw,V,a4,E⟩
    ·
     rintro aa ww ⟨ac,ad,a7,a8,hf,hw,a9,cj,E⟩
     refine WF.run ?_ hf hw
     clear hf hw ww aa
     rw[C3] at E
     refine WF.seq (WF.seq (WF.rp (.inl O) ?_))
     have ck:=cf.mono cj
     refine QF.fa O ck GR M6 O λi2 ft=>QF.ldl Af a9.1 O ft RI O λfu cl=>QF.len O cl OF O λi3=>QF.mv O O (AA (kp [72,71,70,5,4,1] O) (WF.blockJ (λa w=>∃(ae:Bool) (af:(List (AE×Bool))),IV B a7 a8 (106,[]) a w [(5,.func (.func 87) #[] #[.pointer (some ⟨g,0,none⟩),.pointer (some ⟨d,0,none⟩)]),(4,.pointer (some ⟨d,0,none⟩)),(1,q1)] (Bx d 4 [.bool ae]::Bx g 154 [.map (some j)]::MP (λk:AE=>Value.agg (AE.v k).toArray) Value.bool j af::L) λ_ _=>C2 N c ae af=some r) ?_ ?_))
     ·
      refine WF.loopF (λn9=>λa w=>∃(C:Int) (D:Bool) (F:(List (AE×Bool))),IV B a7 a8 (106,[]) a w [(71,.int .i64 (↑c.Shelters.length:Int)),(70,fu),(5,.func (.func 87) #[] #[.pointer (some ⟨g,0,none⟩),.pointer (some ⟨d,0,none⟩)]),(4,.pointer (some ⟨d,0,none⟩)),(1,q1),(72,.int .i64 C)] (Bx d 4 [.bool D]::Bx g 154 [.map (some j)]::MP (λk:AE=>Value.agg (AE.v k).toArray) Value.bool j F::L) λ_ _=>AB C∧B5 N c (C2 N c) n9 C D F=some r) N ?_ ?_ ?_
      ·
       intro aa ww hf hw
       exact⟨0,ac,ad,_,_,hf.sub (kp [71,70,5,4,1,72] O),hw,a9,(Bc.refl a7 a8),(iq (n:=0) O),E⟩
      ·
       rintro aa ww ⟨_,_,_,_,_,_,_,_,_,_,E⟩
       rw[B5] at E;cases E
      ·
       rintro n9 aa ww ⟨C,D,F,i4,i5,hf,hw,W,ba,i6,E⟩
       refine WF.run ?_ hf hw
       clear hf hw ww aa
       rw[B5] at E
       refine WF.seq (WF.rp (.inl O) (QF.lss O O O (AA (kp [73,71,70,5,4,1,72] O) (WF.seq (WF.if_ O (λbb=>?_) (λbb=>?_))))))
       ·
        have E:=A0 bb E
        refine WF.skip (WF.seq (WF.block (WF.seq (WF.rl (LF.q 2 ?_)))))
        have fv:=cl.mono' ba
        obtain⟨cm,dp,E⟩:=bd E
        refine QF.ixe O O fv OF dp O λi7 fw=>QF.ld Af W.1 O fw Oi (λe=>by cases e) O λi8 fx=>AG (LF.al Sv O W λi9 ja dq cn=>?_)
        have fy:=fx.mono cn
        obtain⟨rfl,⟨fz,jb⟩⟩:=Cc.ex fy
        refine Ad (vs:=[.string cm.Name,.int .i64 cm.Room]) O O O O Oi O dq .head O λjc bc f0=>LF.nil (kp [15,71,70,5,4,1,72] O) (WF.rl (LF.q 3 (QF.mv O O (QF.fao O UF O (AI Af bc O mh O N2 O (AG ?_))))))
        have dr:=bc.sel [2,2,1,0] 0 O
        obtain⟨co,ds,E⟩:=bd E
        refine LF.call O O O Nn O (Cr (c2_:=F) (c3_:=D) dr (by decide) fz ds) λjd je jf f1 p=>?_
        obtain⟨rfl,dt⟩:=p
        refine LF.nil (kp [71,70,5,4,1,72] O) (Ap (WF.rp (.inl O) (QF.addw O O O (QF.mv O O (AA (kp [72,71,70,5,4,1] O) (WF.nil (λaa ww hf hw=>?_)))))))
        have du:=dt.sel [2,0,0] 1 O
        have dv:=ba.trans (cn.trans (f0.trans f1))
        exact⟨(Aw (C+1)),co.2,co.1,_,_,hf.sub (kp [71,70,5,4,1,72] O),hw,du,dv,(BA _),E⟩
       ·
        have E:=A3 bb E
        refine WF.exit O (λaa ww hf hw=>?_)
        exact⟨D,F,_,_,hf.sub (kp [5,4,1] O),hw,W,ba,E⟩
     ·
      rintro aa ww ⟨ae,af,be,bf,hf,hw,bg,cp,E⟩
      refine WF.run ?_ hf hw
      clear hf hw ww aa
      rw[C2] at E
      refine WF.seq (WF.seq (WF.rp (.inl O) ?_))
      have cq:=ck.mono cp
      refine QF.fa O cq H5 O5 O λjg f2=>QF.ldl Af bg.1 O f2 TD O λf3 cr=>QF.len O cr Pe O λjh=>QF.mv O O (AA (kp [84,83,82,5,4,1] O) (WF.blockJ (λa w=>∃(ag:Bool) (ah:(List (AE×Bool))),IV B be bf (106,[]) a w [(5,.func (.func 87) #[] #[.pointer (some ⟨g,0,none⟩),.pointer (some ⟨d,0,none⟩)]),(4,.pointer (some ⟨d,0,none⟩)),(1,q1)] (Bx d 4 [.bool ag]::Bx g 154 [.map (some j)]::MP (λk:AE=>Value.agg (AE.v k).toArray) Value.bool j ah::L) λ_ _=>Cq N c ag ah=some r) ?_ ?_))
      ·
       refine WF.loopF (λf4=>λa w=>∃(G:Int) (H:Bool) (I:(List (AE×Bool))),IV B be bf (106,[]) a w [(83,.int .i64 (↑c.Gauges.length:Int)),(82,f3),(5,.func (.func 87) #[] #[.pointer (some ⟨g,0,none⟩),.pointer (some ⟨d,0,none⟩)]),(4,.pointer (some ⟨d,0,none⟩)),(1,q1),(84,.int .i64 G)] (Bx d 4 [.bool H]::Bx g 154 [.map (some j)]::MP (λk:AE=>Value.agg (AE.v k).toArray) Value.bool j I::L) λ_ _=>AB G∧Bs N c (Cq N c) f4 G H I=some r) N ?_ ?_ ?_
       ·
        intro aa ww hf hw
        exact⟨0,ae,af,_,_,hf.sub (kp [83,82,5,4,1,84] O),hw,bg,(Bc.refl be bf),(iq (n:=0) O),E⟩
       ·
        rintro aa ww ⟨_,_,_,_,_,_,_,_,_,_,E⟩
        rw[Bs] at E;cases E
       ·
        rintro f4 aa ww ⟨G,H,I,ji,jj,hf,hw,X,bh,jk,E⟩
        refine WF.run ?_ hf hw
        clear hf hw ww aa
        rw[Bs] at E
        refine WF.seq (WF.rp (.inl O) (QF.lss O O O (AA (kp [85,83,82,5,4,1,84] O) (WF.seq (WF.if_ O (λbi=>?_) (λbi=>?_))))))
        ·
         have E:=A0 bi E
         refine WF.skip (WF.seq (WF.block (WF.seq (WF.rl (LF.q 2 ?_)))))
         have f5:=cr.mono' bh
         obtain⟨J,dw,E⟩:=bd E
         refine QF.ixe O O f5 Pe dw O λjl f6=>QF.ld Af X.1 O f6 Oj (λe=>by cases e) O λjm f7=>AG (LF.al Sw O X λjn jo dx cs=>?_)
         have f8:=f7.mono cs
         obtain⟨rfl,⟨f9,jp,jq,jr,js⟩⟩:=Di.ex f8
         refine Ad (vs:=[.string J.Name,.int .i64 J.Kind,.int .i64 J.Target,.int .i64 J.Err,.int .i64 J.Drift]) O O O O Oj O dx .head O λjt bj ga=>LF.nil (kp [17,83,82,5,4,1,84] O) (WF.rl (LF.q 3 (QF.mv O O (QF.fao O UJ O (AI Af bj O mh O N2 O (AG ?_))))))
         have dy:=bj.sel [2,2,1,0] 0 O
         obtain⟨ct,dz,E⟩:=bd E
         refine LF.call O O O Nn O (Cr (c2_:=I) (c3_:=H) dy (by decide) f9 dz) λju jv jw gb p=>?_
         obtain⟨rfl,d0⟩:=p
         refine LF.nil (kp [83,82,5,4,1,84] O) (Ap (WF.rp (.inl O) (QF.addw O O O (QF.mv O O (AA (kp [84,83,82,5,4,1] O) (WF.nil (λaa ww hf hw=>?_)))))))
         have d1:=d0.sel [2,0,0] 1 O
         have d2:=bh.trans (cs.trans (ga.trans gb))
         exact⟨(Aw (G+1)),ct.2,ct.1,_,_,hf.sub (kp [83,82,5,4,1,84] O),hw,d1,d2,(BA _),E⟩
        ·
         have E:=A3 bi E
         refine WF.exit O (λaa ww hf hw=>?_)
         exact⟨H,I,_,_,hf.sub (kp [5,4,1] O),hw,X,bh,E⟩
      ·
       rintro aa ww ⟨ag,ah,bk,bl,hf,hw,bm,cu,E⟩
       refine WF.run ?_ hf hw
       clear hf hw ww aa
       rw[Cq] at E
       refine WF.seq (WF.seq (WF.rp (.inl O) ?_))
       have gc:=cq.mono cu
       refine QF.fa O gc If O4 O λjx ge=>QF.ldl Af bm.1 O ge TC O λgf cv=>QF.len O cv Pd O λjy=>QF.mv O O (AA (kp [96,95,94,5,4] O) (WF.blockJ (λa w=>∃(bn:Bool),IV B bk bl (106,[]) a w [(4,.pointer (some ⟨d,0,none⟩))] (Bx d 4 [.bool bn]::L) λ_ _=>Cp N bn=some r) ?_ ?_))
       ·
        refine WF.loopF (λgg=>λa w=>∃(M:Int) (Q:Bool) (ai:(List (AE×Bool))),IV B bk bl (106,[]) a w [(95,.int .i64 (↑c.Roads.length:Int)),(94,gf),(5,.func (.func 87) #[] #[.pointer (some ⟨g,0,none⟩),.pointer (some ⟨d,0,none⟩)]),(4,.pointer (some ⟨d,0,none⟩)),(96,.int .i64 M)] (Bx d 4 [.bool Q]::Bx g 154 [.map (some j)]::MP (λk:AE=>Value.agg (AE.v k).toArray) Value.bool j ai::L) λ_ _=>AB M∧Br N c (Cp N) gg M Q ai=some r) N ?_ ?_ ?_
        ·
         intro aa ww hf hw
         exact⟨0,ag,ah,_,_,hf.sub (kp [95,94,5,4,96] O),hw,bm,(Bc.refl bk bl),(iq (n:=0) O),E⟩
        ·
         rintro aa ww ⟨_,_,_,_,_,_,_,_,_,_,E⟩
         rw[Br] at E;cases E
        ·
         rintro gg aa ww ⟨M,Q,ai,jz,j0,hf,hw,Y,bo,j1,E⟩
         refine WF.run ?_ hf hw
         clear hf hw ww aa
         rw[Br] at E
         refine WF.seq (WF.rp (.inl O) (QF.lss O O O (AA (kp [97,95,94,5,4,96] O) (WF.seq (WF.if_ O (λbp=>?_) (λbp=>?_))))))
         ·
          have E:=A0 bp E
          refine WF.skip (WF.seq (WF.block (WF.seq (WF.rl (LF.q 2 ?_)))))
          have gh:=cv.mono' bo
          obtain⟨o,d3,E⟩:=bd E
          refine QF.ixe O O gh Pd d3 O λj2 gi=>QF.ld Af Y.1 O gi Oh (λe=>by cases e) O λj3 gj=>AG (LF.al Su O Y λj4 j5 d4 cw=>?_)
          have gk:=gj.mono cw
          obtain⟨rfl,⟨gl,j6,j7,j8,j9,ka,kb⟩⟩:=Et.ex gk
          refine Ad (vs:=[.string o.Name,.int .i64 o.From,.int .i64 o.To,.int .i64 o.Hours,.int .i64 o.Flow,.int .i64 o.By,.int .i64 o.Limit]) O O O O Oh O d4 .head O λkc bq gm=>LF.nil (kp [19,95,94,5,4,96] O) (WF.rl (LF.q 3 (QF.mv O O (QF.fao O UD O (AI Af bq O mh O N2 O (AG ?_))))))
          have d5:=bq.sel [2,2,1,0] 0 O
          obtain⟨cx,d6,E⟩:=bd E
          refine LF.call O O O Nn O (Cr (c2_:=ai) (c3_:=Q) d5 (by decide) gl d6) λkd ke kf gp p=>?_
          obtain⟨rfl,d7⟩:=p
          refine LF.nil (kp [95,94,5,4,96] O) (Ap (WF.rp (.inl O) (QF.addw O O O (QF.mv O O (AA (kp [96,95,94,5,4] O) (WF.nil (λaa ww hf hw=>?_)))))))
          have d8:=d7.sel [2,0,0] 1 O
          have d9:=bo.trans (cw.trans (gm.trans gp))
          exact⟨(Aw (M+1)),cx.2,cx.1,_,_,hf.sub (kp [95,94,5,4,96] O),hw,d8,d9,(BA _),E⟩
         ·
          have E:=A3 bp E
          refine WF.exit O (λaa ww hf hw=>?_)
          have ea:=Y.sel [0] 2 O
          exact⟨Q,_,_,hf.sub (kp [4] O),hw,ea,bo,E⟩
       ·
        rintro aa ww ⟨bn,kg,kh,hf,hw,br,gq,E⟩
        refine WF.run ?_ hf hw
        clear hf hw ww aa
        rw[Cp] at E
        refine WF.seq (WF.rp (.inl O) (AI Af br O mh O ME O (QF.as_ O O (AA (kp [2] O) (WF.ret (λaa ww hf hw=>?_))))))
        have eb:=br.drop .head
        cases E
        have ec:=e5.trans (ed.trans (ef.trans (eh.trans (ej.trans (ek.trans (eu.trans (b5.trans (ce.trans (cj.trans (cp.trans (cu.trans gq)))))))))))
        exact DD hf hw O O ec ⟨O,eb⟩
end Go.Proofs.YtibidnaedddfdaaGreat
