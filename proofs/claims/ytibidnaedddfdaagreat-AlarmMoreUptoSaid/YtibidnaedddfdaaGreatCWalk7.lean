import Derived.Test.YtibidnaedddfdaaGreatCWalk6
namespace Go.Proofs.YtibidnaedddfdaaGreat
open Go.RowKit
set_option linter.unusedVariables false
set_option linter.unusedSimpArgs false
set_option maxRecDepth 10000
set_option maxHeartbeats 2000000
variable {N:Nat}{S:Nat→Prop}{L:List HP}{h:AX}
theorem Mt (hs:St S L h) {c:Value}{z:AJ}(u:Rd S h BV c z) {d:Value}{A:BT}(w:Rd S h DI d A) {g:Value}{C:Be}(x:Rd S h El g C) {b:Value}{m:(List BJ)}(n:Sl S h Dt b m) {a:Value}{i:(List Bool)}(k:Sl S h AV.bool a i) {j:Int}(y:AB j) {r:BT×Int×(List BJ)×AJ×(List Bool)×Be}(E:Hk N z A C m i j=some r):
 Bf Tryz.prog 57 #[c,d,g,b,a,.int .i64 j] S h (λv S' h'=>∃G H I J K M:Value,v= .func (.func 119) #[] #[G,H,I,J,K,M]∧Pt S' h' DI G r.1∧Pt S' h' AV.int H r.2.1∧Pt S' h' (AV.sl Dt) I r.2.2.1∧Pt S' h' BV J r.2.2.2.1∧Pt S' h' (AV.sl AV.bool) K r.2.2.2.2.1∧Pt S' h' El M r.2.2.2.2.2∧St S' (L) h'):=by
 refine Ab (l:=[c,d,g,b,a,.int .i64 j]) 14 Tryz.func57 O Tryz.ntmps57 O λB=>?_
 rw[Hk] at E
 refine WF.seq (WF.rl (LF.boxp O u (λe=>by cases e) O hs λq1 S2 h3 ad e5 k6=>?_))
 have k7:=w.mono e5
 refine LF.boxp O k7 (λe=>by cases e) O ad λq8 S9 au Q D ae=>?_
 have af:=x.mono (e5.trans D)
 refine LF.boxp O af (λe=>by cases e) O Q λav aw ax U F ag=>?_
 have p:=e5.trans (D.trans F)
 have ah:=n.mono' p
 refine LF.boxp O (PK ah) (λ_=>rfl) O U λay az a0 V s ai=>?_
 have aj:=k.mono' (p.trans s)
 refine LF.boxp O (PK aj) (λ_=>rfl) O V λa1 a2 a3 W t ak=>LF.boxp O (⟨_,O,O,y⟩:Rd _ _ AV.int _ j) (λ_=>rfl) O W λa4 a5 a6 X o am=>LF.q 1 (QF.as_ O O (AG (LF.nil (kp [11,10,9,8,7,6] O) (WF.seq (WF.rp (.inl O) (QF.mkf O O O (QF.as_ O O (AA (kp [12] O) (WF.ret (λaa ww hf hw=>?_))))))))))
 have Y:=F.trans (s.trans (t.trans o))
 have an:=ae.mono Y
 have ao:=ai.mono (t.trans o)
 have Z:=D.trans (F.trans (s.trans (t.trans o)))
 have ap:=k6.mono Z
 have aq:=ak.mono o
 have ab:=s.trans (t.trans o)
 have ar:=ag.mono ab
 cases E
 have ac:=p.trans (s.trans (t.trans o))
 exact DD hf hw O O ac ⟨_,_,_,_,_,_,O,an,am,ao,ap,aq,ar,X⟩
theorem QK (hs:St S L h) {i:Value}{g:Be}(j:Rd S h El i g) {c:Int}(n:AB c) {b:Int}(k:AB b) {r:(List AD)}(E:Ha N g c b=some r):
 Bf Tryz.prog 120 #[i,.int .i64 c,.int .i64 b] S h (λv S' h'=>St S' (OS AF 51 v r::L) h'):=by
 refine Ab (l:=[i,.int .i64 c,.int .i64 b]) 43 Tryz.func120 O Tryz.ntmps120 O λB=>?_
 rw[Ha] at E
 refine WF.seq (WF.rl (LF.boxp O j (λe=>by cases e) O hs λq1 S2 h3 u H k6=>LF.q 1 (QF.as_ O O (AG (LF.nil (kp [3,1,2] O) (WF.seq (WF.seq (WF.rp (.inl O) (QF.mv O O (QF.lss O O O (QF.mv O O (QF.cutv 3 14 (.bool ((decide (b<1))||(decide (64<b)))) ?_ ?_))))))))))))
 ·
  cases c7:(decide (b<1))
  ·exact QF.gy O O O (QF.mv O O (QF.gy O O O (QF.gtr O O O (QF.pick O O O (AH O)))))
  ·exact AK O O
 refine AA (kp [14,3,1,2] O) (WF.if_ O (λI=>?_) (λI=>?_))
 ·
  have E:=A0 I E
  refine WF.seq (WF.rp (.inl O) (QF.as_ O O (AA (kp [6] O) (WF.ret (λaa ww hf hw=>?_)))))
  have J:=u.nil AF 51
  cases E
  exact DD hf hw O O H J
 ·
  have E:=A3 I E
  refine WF.skip (WF.seq (WF.rl (LF.q 1 (QF.mv O O (AG ?_)))))
  obtain⟨x,E⟩:=Q0 E
  refine LF.mke (r:=AF) (zx:=(⟨0,0⟩:AD)) QC O ⟨O,by unfold AD.ok AB;simp [IntKind.has,IntKind.min,IntKind.max,IntKind.bits,IntKind.signed]⟩ O O x O O u λy z d o=>LF.q 1 (QF.as_ O O (AG (LF.nil (kp [7,3,1] O) (WF.seq (WF.seq (WF.rp (.inl O) (QF.mv O O ?_)))))))
  have m:=k6.mono o
  refine QF.fa O m Be.f_From Lw O λac K=>QF.ldi Af d.1 O K AL O λad=>QF.lss O O O (AA (kp [20,7,3,1] O) (WF.if_ O (λp=>?_) (λp=>?_)))
  ·
   have E:=A0 p E
   refine WF.seq (WF.rp (.inl O) (QF.mv O O (QF.as_ O O (AA (kp [6] O) (WF.ret (λaa ww hf hw=>?_))))))
   cases E
   exact DD hf hw O O (H.trans o) d
  ·
   have E:=A3 p E
   refine WF.skip (WF.seq (WF.seq (WF.rp (.inl O) (QF.mv O O (QF.fa O m Be.f_From Lw O λae M=>QF.ldi Af d.1 O M AL O λaf=>QF.subw O O O (QF.as_ O O (AA (kp [8,7,3] O) (WF.seq (WF.rp (.inl O) (QF.mv O O (QF.geq O O O ?_)))))))))))
   refine QF.mv O O (QF.cutv 6 34 (.bool ((decide (0≤(Aw (c-g.From))))&&(decide ((Aw (c-g.From))<(↑g.Rain.length:Int))))) ?_ ?_)
   ·
    cases ag:(decide (0≤(Aw (c-g.From))))
    ·exact AK O O
    ·exact QF.gy O O O (QF.mv O O (QF.gy O O O (QF.fa O m Be.f_Rain Lv O λah Q=>QF.gy O O O (QF.ldl Af d.1 O Q Ok O λai U=>QF.gy O O O (QF.len O U NI O λaj=>QF.gy O O O (QF.lss O O O (QF.pick O O O (AH O))))))))
   refine AA (kp [34,8,7,3] O) (WF.cut (λa w=>∃(s:List AD),IV B S2 z (43,[]) a w [(7,y)] (OS AF 51 y s::L) λ_ _=>HM N s=some r) ?_ ?_)
   ·
    refine WF.if_ O (λt=>?_) (λt=>?_)
    ·
     have E:=A0 t E
     refine WF.rl (LF.q 6 (QF.mv O O (QF.fa O m Be.f_Rain Lv O λak V=>QF.ldl Af d.1 O V Ok O λam W=>QF.mv O O ?_)))
     obtain⟨A,C,E⟩:=bd E
     refine QF.ixe O O W NI C O λan X=>QF.ldl Af d.1 O X Gn O λao Y=>AG (YH (r:=AF) (l:=(List.replicate (b:Int).toNat (⟨0,0⟩:AD))) (xs:=A) O O FM (Sl.src Y) O d .head λap D Z=>LF.nil (kp [7] O) (WF.nil (λaa ww hf hw=>?_)))
     exact⟨(Vz (List.replicate (b:Int).toNat (⟨0,0⟩:AD)) A),_,_,hf.sub (kp [7] O),hw,D,Z,E⟩
    ·
     have E:=A3 t E
     refine WF.skip (WF.nil (λaa ww hf hw=>?_))
     exact⟨(List.replicate (b:Int).toNat (⟨0,0⟩:AD)),_,_,hf.sub (kp [7] O),hw,d,(Bc.refl S2 z),E⟩
   ·
    rintro aa ww ⟨s,aq,ar,hf,hw,F,ab,E⟩
    refine WF.run ?_ hf hw
    clear hf hw ww aa
    rw[HM] at E
    refine WF.seq (WF.rp (.inl O) (QF.mv O O (QF.as_ O O (AA (kp [6] O) (WF.ret (λaa ww hf hw=>?_))))))
    cases E
    have G:=H.trans (o.trans ab)
    exact DD hf hw O O G F
theorem FE (hs:St S L h) {a:Value}{c:(List AD)}(b:Sl S h AF a c) {r:(List AD)}(E:Bg N c=some r):
 Bf Tryz.prog 48 #[a] S h (λv S' h'=>St S' (OS AF 51 v r::L) h'):=by
 refine Ab (l:=[a]) 8 Tryz.func48 O Tryz.ntmps48 O λB=>?_
 rw[Bg] at E
 rcases b.cases with ⟨rfl,rfl⟩|⟨o,m,rfl,b⟩
 ·
  have E1:(some ([]))=some r:=by simpa [chk,room] using E
  refine WF.seq (WF.rp (.inl O) (QF.as_ O O (AA (kp [0] O) (WF.seq (WF.seq (WF.rp (.inl O) (QF.mv O O (SE O O O S7 (AA (kp [4,0] O) (WF.ifT O (WF.seq (WF.rp (.inl O) (QF.as_ O O ?_)))))))))))))
  refine AA (kp [2] O) (WF.ret (λaa ww hf hw=>?_))
  have d:=hs.nil AF 51
  cases E
  exact DD hf hw O O (Bc.refl S h) d
 refine WF.seq (WF.rp (.inl O) (QF.as_ O O (AA (kp [0] O) (WF.seq (WF.seq (WF.rp (.inl O) (QF.mv O O (VA O O O S7 (AA (kp [4,0] O) (WF.ifF O (WF.skip (WF.seq (WF.rl ?_)))))))))))))
 refine VC (r:=AF) QC O O hs λs t g n=>LF.q 1 (QF.mv O O (AG ?_))
 have p:=b.mono' n
 obtain⟨i,E⟩:=Q0 E
 refine PN (r:=AF) (l:=([]:List AD)) (xs:=c) O O QC O (Sl.src p) O i O g (λ_=> .head) λu w j k=>LF.q 1 (QF.as_ O O (AG (LF.nil (kp [2] O) (WF.ret (λaa ww hf hw=>?_)))))
 cases E
 exact DD hf hw O O (n.trans k) j
theorem E4 (hs:St S L h) {a:Value}{c:(List AT)}(b:Sl S h AZ a c) {r:(List AT)}(E:Bd N c=some r):
 Bf Tryz.prog 49 #[a] S h (λv S' h'=>St S' (OS AZ 97 v r::L) h'):=by
 refine Ab (l:=[a]) 8 Tryz.func49 O Tryz.ntmps49 O λB=>?_
 rw[Bd] at E
 rcases b.cases with ⟨rfl,rfl⟩|⟨o,m,rfl,b⟩
 ·
  have E1:(some ([]))=some r:=by simpa [chk,room] using E
  refine WF.seq (WF.rp (.inl O) (QF.as_ O O (AA (kp [0] O) (WF.seq (WF.seq (WF.rp (.inl O) (QF.mv O O (SE O O O S3 (AA (kp [4,0] O) (WF.ifT O (WF.seq (WF.rp (.inl O) (QF.as_ O O ?_)))))))))))))
  refine AA (kp [2] O) (WF.ret (λaa ww hf hw=>?_))
  have d:=hs.nil AZ 97
  cases E
  exact DD hf hw O O (Bc.refl S h) d
 refine WF.seq (WF.rp (.inl O) (QF.as_ O O (AA (kp [0] O) (WF.seq (WF.seq (WF.rp (.inl O) (QF.mv O O (VA O O O S3 (AA (kp [4,0] O) (WF.ifF O (WF.skip (WF.seq (WF.rl ?_)))))))))))))
 refine VC (r:=AZ) Wb O O hs λs t g n=>LF.q 1 (QF.mv O O (AG ?_))
 have p:=b.mono' n
 obtain⟨i,E⟩:=Q0 E
 refine PN (r:=AZ) (l:=([]:List AT)) (xs:=c) O O Wb O (Sl.src p) O i O g (λ_=> .head) λu w j k=>LF.q 1 (QF.as_ O O (AG (LF.nil (kp [2] O) (WF.ret (λaa ww hf hw=>?_)))))
 cases E
 exact DD hf hw O O (n.trans k) j
theorem G0 (hs:St S L h) {d:Int}(i:AB d) {b:Int}(g:AB b) {a:Int}(c:AB a) {r:Int}(E:Ew N d b a=some r):
 Bf Tryz.prog 145 #[.int .i64 d,.int .i64 b,.int .i64 a] S h (λv S' h'=>v= .int .i64 r∧AB r∧St S' (L) h'):=by
 refine Ab (l:=[.int .i64 d,.int .i64 b,.int .i64 a]) 16 Tryz.func145 O Tryz.ntmps145 O λB=>?_
 rw[Ew] at E
 refine WF.seq (WF.rp (.inl O) (QF.as_ O O (AA (kp [0,1,2] O) (WF.seq (WF.seq (WF.rp (.inl O) (QF.mv O O (QF.mv O O (QF.lss O O O (AA (kp [9,0,1,2] O) (WF.if_ O (λj=>?_) (λj=>?_))))))))))))
 ·
  have E:=A0 j E
  refine WF.seq (WF.rp (.inl O) (QF.mv O O (QF.as_ O O (AA (kp [6] O) (WF.ret (λaa ww hf hw=>?_))))))
  cases E
  exact DD hf hw O O (Bc.refl S h) ⟨O,g,hs⟩
 ·
  have E:=A3 j E
  refine WF.skip (WF.seq (WF.seq (WF.rp (.inl O) (QF.mv O O (QF.mv O O (QF.gtr O O O (AA (kp [13,0,2] O) (WF.if_ O (λk=>?_) (λk=>?_)))))))))
  ·
   have E:=A0 k E
   refine WF.seq (WF.rp (.inl O) (QF.mv O O (QF.as_ O O (AA (kp [6] O) (WF.ret (λaa ww hf hw=>?_))))))
   cases E
   exact DD hf hw O O (Bc.refl S h) ⟨O,c,hs⟩
  ·
   have E:=A3 k E
   refine WF.skip (WF.seq (WF.rp (.inl O) (QF.mv O O (QF.as_ O O (AA (kp [6] O) (WF.ret (λaa ww hf hw=>?_)))))))
   cases E
   exact DD hf hw O O (Bc.refl S h) ⟨O,i,hs⟩
theorem Oz (hs:St S L h) {d:Value}{s:AQ}(m:Rd S h A9 d s) {g:Value}{b:Db}(o:Rd S h GM g b) {c:Int}(i:AB c) {r:Db}(E:IS N s b c=some r):
 Bf Tryz.prog 100 #[d,g,.int .i64 c] S h (λv S' h'=>v= .agg #[.int .i64 r.Pos,.int .i64 r.Target,.bool r.Stuck,.bool r.Open]∧Db.ok r∧St S' (L) h'):=by
 refine Ab (l:=[d,g,.int .i64 c]) 16 Tryz.func100 O Tryz.ntmps100 O λB=>?_
 rw[IS] at E
 refine WF.seq (WF.rl (LF.boxp O m (λe=>by cases e) O hs λq1 S2 h3 V e5 k6=>?_))
 have k7:=o.mono e5
 obtain⟨rfl,⟨r9,W⟩⟩:=GM.ex k7
 refine LF.box O O O V λz ai A C=>LF.al Sr O A λD F j G=>LF.nil (kp [6,4,3,2] O) (WF.seq (WF.seq (WF.rp (.inl O) ?_)))
 have H:=k6.mono (C.trans G)
 refine QF.fa O H B0 GA O λaj X=>QF.ldi Af j.1 O X AL O λak=>QF.neq O O O (AA (kp [9,6,4,3,2] O) (WF.cut (λa w=>∃(k:Int),IV B S2 F (16,[]) a w [(6,.pointer (some ⟨D,0,none⟩)),(4,.pointer (some ⟨z,0,none⟩))] (Bx D 81 [.int .i64 0,.int .i64 0,.bool false,.bool false]::Bx z 81 [.int .i64 b.Pos,.int .i64 k,.bool b.Stuck,.bool b.Open]::L) λ_ _=>AB k∧Gs N b k=some r) ?_ ?_))
 ·
  refine WF.if_ O (λx=>?_) (λx=>?_)
  ·
   have E:=A0 x E
   refine WF.rl (LF.q 3 (QF.mv O O (QF.fa O H B0 GA O λam Y=>QF.ldi Af j.1 O Y AL O λZ=>AG ?_)))
   obtain⟨y,I,E⟩:=bd E
   refine LF.callb O O O PE O j (G0 (St.all _) i (iq (n:=0) O) Z I) λan ao ap J ab aq p=>?_
   obtain⟨rfl,ac,ah⟩:=p
   refine LF.q 1 (QF.fao O Ro O (AG (H3 (vs:=[.int .i64 y]) (cs':=[.int .i64 b.Pos,.int .i64 y,.bool b.Stuck,.bool b.Open]) O O O O AL O J (.tail .head) O O λar K ad=>LF.nil (kp [6,4] O) (WF.nil (λaa ww hf hw=>?_)))))
   exact⟨y,_,_,hf.sub (kp [6,4] O),hw,K,(ab.trans ad),ac,E⟩
  ·
   have E:=A3 x E
   refine WF.skip (WF.nil (λaa ww hf hw=>?_))
   exact⟨b.Target,_,_,hf.sub (kp [6,4] O),hw,j,(Bc.refl S2 F),W,E⟩
 ·
  rintro aa ww ⟨k,au,av,hf,hw,t,ae,af,E⟩
  refine WF.run ?_ hf hw
  clear hf hw ww aa
  rw[Gs] at E
  refine WF.seq (WF.rl (LF.q 1 (QF.ldo (vs:=[.int .i64 b.Pos,.int .i64 k,.bool b.Stuck,.bool b.Open]) Af t O (mt mh) O O IL O O (AG (Ad (vs:=[.int .i64 b.Pos,.int .i64 k,.bool b.Stuck,.bool b.Open]) O O O O IL O t .head O λaw M ag=>LF.nil (kp [6] O) (WF.ret (λaa ww hf hw=>?_)))))))
  have u:=M.drop (.tail .head)
  have Q:=u.drop .head
  cases E
  have U:=e5.trans (C.trans (G.trans (ae.trans ag)))
  exact HQ hf O hw (Gk (LD hf hw u O mh IL O) HC) O U ⟨O,⟨r9,af⟩,Q⟩
theorem DT (hs:St S L h) {b:Int}(c:AB b) {a:Int}(d:AB a) {r:Int}(E:CR N b a=some r):
 Bf Tryz.prog 106 #[.int .i64 b,.int .i64 a] S h (λv S' h'=>v= .int .i64 r∧AB r∧St S' (L) h'):=by
 refine Ab (l:=[.int .i64 b,.int .i64 a]) 24 Tryz.func106 O Tryz.ntmps106 O λB=>?_
 rw[CR] at E
 refine WF.seq (WF.rp (.inl O) (QF.as_ O O (AA (kp [0,1] O) (WF.seq (WF.seq (WF.rp (.inl O) (QF.mv O O (QF.lss O O O (QF.mv O O (QF.cutv 5 12 (.bool ((decide (a<0))&&(decide ((Aw (9223372036854775807+a))<b)))) ?_ ?_))))))))))
 ·
  cases j:(decide (a<0))
  ·exact AK O O
  ·exact QF.gy O O O (QF.mv O O (QF.gy O O O (QF.mv O O (QF.gy O O O (QF.addw O O O (QF.gy O O O (QF.gtr O O O (QF.pick O O O (AH O)))))))))
 refine AA (kp [12,0,1] O) (WF.if_ O (λg=>?_) (λg=>?_))
 ·
  have E:=A0 g E
  refine WF.seq (WF.rp (.inl O) (QF.as_ O O (AA (kp [4] O) (WF.ret (λaa ww hf hw=>?_)))))
  cases E
  exact DD hf hw O O (Bc.refl S h) ⟨O,(iq (n:=9223372036854775807) O),hs⟩
 ·
  have E:=A3 g E
  refine WF.skip (WF.seq (WF.seq (WF.rp (.inl O) (QF.mv O O (QF.gtr O O O (QF.mv O O (QF.cutv 5 20 (.bool ((decide (0<a))&&(decide (b<(Aw ((-9223372036854775808)+a)))))) ?_ ?_)))))))
  ·
   cases k:(decide (0<a))
   ·exact AK O O
   ·exact QF.gy O O O (QF.mv O O (QF.gy O O O (QF.mv O O (QF.gy O O O (QF.addw O O O (QF.gy O O O (QF.lss O O O (QF.pick O O O (AH O)))))))))
  refine AA (kp [20,0,1] O) (WF.if_ O (λi=>?_) (λi=>?_))
  ·
   have E:=A0 i E
   refine WF.seq (WF.rp (.inl O) (QF.as_ O O (AA (kp [4] O) (WF.ret (λaa ww hf hw=>?_)))))
   cases E
   exact DD hf hw O O (Bc.refl S h) ⟨O,(iq (n:=(-9223372036854775808)) O),hs⟩
  ·
   have E:=A3 i E
   refine WF.skip (WF.seq (WF.rp (.inl O) (QF.mv O O (QF.mv O O (QF.subw O O O (QF.as_ O O (AA (kp [4] O) (WF.ret (λaa ww hf hw=>?_)))))))))
   cases E
   exact DD hf hw O O (Bc.refl S h) ⟨O,(BA _),hs⟩
theorem Ex (hs:St S L h) {b:Int}(c:AB b) {a:Int}(d:AB a) {r:Int}(E:Dg N b a=some r):
 Bf Tryz.prog 60 #[.int .i64 b,.int .i64 a] S h (λv S' h'=>v= .int .i64 r∧AB r∧St S' (L) h'):=by
 refine Ab (l:=[.int .i64 b,.int .i64 a]) 24 Tryz.func60 O Tryz.ntmps60 O λB=>?_
 rw[Dg] at E
 refine WF.seq (WF.rp (.inl O) (QF.as_ O O (AA (kp [0,1] O) (WF.seq (WF.seq (WF.rp (.inl O) (QF.mv O O (QF.gtr O O O (QF.mv O O (QF.cutv 5 12 (.bool ((decide (0<a))&&(decide ((Aw (9223372036854775807-a))<b)))) ?_ ?_))))))))))
 ·
  cases j:(decide (0<a))
  ·exact AK O O
  ·exact QF.gy O O O (QF.mv O O (QF.gy O O O (QF.mv O O (QF.gy O O O (QF.subw O O O (QF.gy O O O (QF.gtr O O O (QF.pick O O O (AH O)))))))))
 refine AA (kp [12,0,1] O) (WF.if_ O (λg=>?_) (λg=>?_))
 ·
  have E:=A0 g E
  refine WF.seq (WF.rp (.inl O) (QF.as_ O O (AA (kp [4] O) (WF.ret (λaa ww hf hw=>?_)))))
  cases E
  exact DD hf hw O O (Bc.refl S h) ⟨O,(iq (n:=9223372036854775807) O),hs⟩
 ·
  have E:=A3 g E
  refine WF.skip (WF.seq (WF.seq (WF.rp (.inl O) (QF.mv O O (QF.lss O O O (QF.mv O O (QF.cutv 5 20 (.bool ((decide (a<0))&&(decide (b<(Aw ((-9223372036854775808)-a)))))) ?_ ?_)))))))
  ·
   cases k:(decide (a<0))
   ·exact AK O O
   ·exact QF.gy O O O (QF.mv O O (QF.gy O O O (QF.mv O O (QF.gy O O O (QF.subw O O O (QF.gy O O O (QF.lss O O O (QF.pick O O O (AH O)))))))))
  refine AA (kp [20,0,1] O) (WF.if_ O (λi=>?_) (λi=>?_))
  ·
   have E:=A0 i E
   refine WF.seq (WF.rp (.inl O) (QF.as_ O O (AA (kp [4] O) (WF.ret (λaa ww hf hw=>?_)))))
   cases E
   exact DD hf hw O O (Bc.refl S h) ⟨O,(iq (n:=(-9223372036854775808)) O),hs⟩
  ·
   have E:=A3 i E
   refine WF.skip (WF.seq (WF.rp (.inl O) (QF.mv O O (QF.mv O O (QF.addw O O O (QF.as_ O O (AA (kp [4] O) (WF.ret (λaa ww hf hw=>?_)))))))))
   cases E
   exact DD hf hw O O (Bc.refl S h) ⟨O,(BA _),hs⟩
theorem N7 (hs:St S L h) {c:Value}{k:AQ}(g:Rd S h A9 c k) {d:Value}{a:Db}(i:Rd S h GM d a) {r:Db}(E:Ir N k a=some r):
 Bf Tryz.prog 147 #[c,d] S h (λv S' h'=>v= .agg #[.int .i64 r.Pos,.int .i64 r.Target,.bool r.Stuck,.bool r.Open]∧Db.ok r∧St S' (L) h'):=by
 refine Ab (l:=[c,d]) 26 Tryz.func147 O Tryz.ntmps147 O λB=>?_
 rw[Ir] at E
 refine WF.seq (WF.rl (LF.boxp O g (λe=>by cases e) O hs λq1 S2 h3 W X k6=>?_))
 have k7:=i.mono X
 obtain⟨rfl,⟨Y,w⟩⟩:=GM.ex k7
 refine LF.box O O O W λau av A x=>LF.al Sr O A λaw ax b y=>LF.nil (kp [4,3,2] O) (WF.seq (WF.seq (WF.rp (.inl O) (QF.fao O Vr O (AI Af b O (mt mh) O ME O (AA (kp [7,4,3,2] O) (WF.if_ O (λz=>?_) (λz=>?_))))))))
 ·
  have E:=A0 z E
  refine WF.seq (WF.rl (LF.q 1 (QF.ldo (vs:=[.int .i64 a.Pos,.int .i64 a.Target,.bool a.Stuck,.bool a.Open]) Af b O (mt mh) O O IL O O (AG (Ad (vs:=[.int .i64 a.Pos,.int .i64 a.Target,.bool a.Stuck,.bool a.Open]) O O O O IL O b .head O λay C Z=>LF.nil (kp [4] O) (WF.ret (λaa ww hf hw=>?_)))))))
  have m:=C.drop (.tail .head)
  have D:=m.drop .head
  cases E
  have F:=X.trans (x.trans (y.trans Z))
  exact HQ hf O hw (Gk (LD hf hw m O mh IL O) HC) O F ⟨O,⟨Y,w⟩,D⟩
 ·
  have E:=A3 z E
  refine WF.skip (WF.seq (WF.rc (.inr ⟨mo,by kernel_rfl⟩) b (QF.fao O Ro O (AI Ai b O (mt mh) O AL O (QF.fao O O1 O (AI Ai b O (mt mh) O AL O ?_))))))
  obtain⟨az,G,E⟩:=bd E
  refine Ao O O O H0 O (λh' o=>DT (St.all h') w Y G) λab=>?_
  have ac:=ab
  have H:=k6.mono (x.trans y)
  refine QF.fa O H Fa IQ O λa0 ad=>QF.ldi Ai b.1 O ad AL O λae=>?_
  obtain⟨a1,I,E⟩:=bd E
  refine Ao O O O H0 O (λh' o=>DT (St.all h') (iq (n:=0) O) ae I) λaf=>?_
  have ag:=af
  refine QF.fa O H Fa IQ O λa2 ah=>QF.ldi Ai b.1 O ah AL O λai=>?_
  obtain⟨a3,J,E⟩:=bd E
  refine Ao O O O PE O (λh' o=>G0 (St.all h') ac ag ai J) λaj=>?_
  have ak:=aj
  refine QF.as_ O O (Ak (kp [5,4,3] O) λa4 s am=>WF.seq (WF.rl (LF.q 3 (QF.fao O O1 O (AI Af s O (mt mh) O AL O (QF.mv O O (AG ?_)))))))
  obtain⟨j,K,E⟩:=bd E
  refine LF.callb O O O Mh O s (Ex (St.all _) Y ak K) λa5 a6 a7 M an a8 p=>?_
  obtain⟨rfl,ao,ar⟩:=p
  refine LF.q 1 (QF.fao O O1 O (AG (H3 (vs:=[.int .i64 j]) (cs':=[.int .i64 j,.int .i64 a.Target,.bool a.Stuck,.bool a.Open]) O O O O AL O M (.tail .head) O O λa9 t ap=>LF.nil (kp [4,3] O) (WF.seq (WF.rl (LF.q 1 (QF.ldo (vs:=[.int .i64 j,.int .i64 a.Target,.bool a.Stuck,.bool a.Open]) Af t O (mt mh) O O IL O O (AG (Ad (vs:=[.int .i64 j,.int .i64 a.Target,.bool a.Stuck,.bool a.Open]) O O O O IL O t .head O λba Q aq=>LF.nil (kp [4] O) (WF.ret (λaa ww hf hw=>?_)))))))))))
  have u:=Q.drop (.tail .head)
  have U:=u.drop .head
  cases E
  have V:=X.trans (x.trans (y.trans (am.trans (an.trans (ap.trans aq)))))
  exact HQ hf O hw (Gk (LD hf hw u O mh IL O) HC) O V ⟨O,⟨ao,w⟩,U⟩
theorem I8 (hs:St S L h) {a:Int}(d:AB a) {b:Value}{c1_:AQ}(g:Pt S h A9 b c1_) {c:Value}{c2_:AT}(i:Pt S h AZ c c2_) {r:Int}(E:Ft N c1_ c2_ a=some r):
 Bf Tryz.prog 146 #[.int .i64 a,b,c] S h (λv S' h'=>v= .int .i64 r∧AB r∧St S' (L) h'):=by
 refine Ab (l:=[.int .i64 a,b,c]) 12 Tryz.func146 O Tryz.ntmps146 O λB=>?_
 rw[Ft] at E
 refine WF.seq (WF.rp (.inl O) (QF.as_ O O (AA (kp [0,1,2] O) (WF.seq (WF.rc (.inl O) hs (QF.ld Ai hs.1 O g Du (λe=>by cases e) O λw n=>QF.mv O O (QF.fa O i AT.f_Target M3 O λy p=>QF.ldi Ai hs.1 O p AL O λq=>QF.bld (cs:=[.int .i64 a,.int .i64 c2_.Target,.bool false,.bool false]) TP O O O ?_)))))))
 obtain⟨z,k,E⟩:=bd E
 refine Ao O O O Xk O (λh' o=>N7 (St.all h') (n.mono (o.all hs.1)) (GM.mk (x:=(⟨a,c2_.Target,false,false⟩:Db)) ⟨d,q⟩) k) λs=>?_
 obtain⟨t,A⟩:=s
 refine QF.fld O Vq O O (QF.as_ O O (Ak (kp [4] O) λu j m=>WF.ret (λaa ww hf hw=>?_)))
 cases E
 exact DD hf hw O O m ⟨O,t,j⟩
theorem NU (hs:St S L h) {g:Value}{F:AQ}(s:Rd S h A9 g F) {i:Value}{a:AT}(t:Rd S h AZ i a) {d:Bool}{r:AT}(E:HJ N F a d=some r):
 Bf Tryz.prog 101 #[g,i,.bool d] S h (λv S' h'=>v= .agg #[.int .i64 r.Pos.Lo,.int .i64 r.Pos.Hi,.int .i64 r.Target,.int .i64 r.Open.Lo,.int .i64 r.Open.Hi]∧AT.ok r∧St S' (L) h'):=by
 refine Ab (l:=[g,i,.bool d]) 44 Tryz.func101 O Tryz.ntmps101 O λB=>?_
 rw[HJ] at E
 refine WF.seq (WF.rl (LF.boxp O s (λe=>by cases e) O hs λq1 S2 h3 aj e5 k6=>?_))
 have k7:=t.mono e5
 obtain⟨rfl,⟨r9,u,w,y,z⟩⟩:=AZ.ex k7
 refine LF.box O O O aj λbe bf M A=>LF.al RE O M λbg bh c C=>LF.nil (kp [6,4,3,2] O) (WF.seq (WF.seq (WF.rp (.inl O) (QF.mv O O (AA (kp [8,6,4,3] O) (WF.if_ O (λK=>?_) (λK=>?_)))))))
 ·
  have E:=A0 K E
  refine WF.seq (WF.rp (.inl O) (QF.mkf O O O (QF.as_ O O (AA (kp [7,6,4] O) (WF.seq (Ed 12 mo (by kernel_rfl) O c (QF.mv O O (QF.fao O Hh O (QF.fao O DE O (AI Ai c O (mt mh) O AL O ?_))))))))))
  have Q:=k6.mono (A.trans C)
  obtain⟨j,U,E⟩:=bd E
  refine Ao O O O Ug O (λh' o=>I8 (St.all h') r9 (Q.mono (o.all c.1)) (K1.mono (c.bxAll (r:=AZ) (x:=a) (mt mh) ⟨O,⟨r9,u,w,y,z⟩⟩) ⟨λb hb=>Nat.lt_of_lt_of_le hb o.siz,λb hb=>o.same b hb,o.siz⟩) U) λak=>?_
  have am:=ak
  refine QF.mv O O (QF.fao O Hh O (QF.fao O Cn O (AI Ai c O (mt mh) O AL O ?_)))
  obtain⟨k,V,E⟩:=bd E
  refine Ao O O O Ug O (λh' o=>I8 (St.all h') u (Q.mono (o.all c.1)) (K1.mono (c.bxAll (r:=AZ) (x:=a) (mt mh) ⟨O,⟨r9,u,w,y,z⟩⟩) ⟨λb hb=>Nat.lt_of_lt_of_le hb o.siz,λb hb=>o.same b hb,o.siz⟩) V) λan=>?_
  have ao:=an
  refine QF.bld (cs:=[.int .i64 j,.int .i64 k]) HD O O O (QF.fao O Hh O (Dj λbi W ap=>H3 (vs:=[.int .i64 j,.int .i64 k]) (cs':=[.int .i64 j,.int .i64 k,.int .i64 a.Target,.int .i64 a.Open.Lo,.int .i64 a.Open.Hi]) O O O O Ag O W (.tail .head) O O λbj G aq=>LF.nil (kp [6,4] O) (WF.seq (WF.rl (LF.q 1 (QF.ldo (vs:=[.int .i64 j,.int .i64 k,.int .i64 a.Target,.int .i64 a.Open.Lo,.int .i64 a.Open.Hi]) Af G O (mt mh) O O Gj O O (AG (Ad (vs:=[.int .i64 j,.int .i64 k,.int .i64 a.Target,.int .i64 a.Open.Lo,.int .i64 a.Open.Hi]) O O O O Gj O G .head O λbk X ar=>LF.nil (kp [6] O) (WF.ret (λaa ww hf hw=>?_))))))))))
  have H:=X.drop (.tail .head)
  have Y:=H.drop .head
  cases E
  have Z:=e5.trans (A.trans (C.trans (ap.trans (aq.trans ar))))
  exact HQ hf O hw (Gk (LD hf hw H O mh Gj O) HC) O Z ⟨O,⟨am,ao,w,y,z⟩,Y⟩
 ·
  have E:=A3 K E
  refine WF.skip (WF.seq (Ed 20 mo (by kernel_rfl) O c (QF.fao O Hh O (QF.fao O DE O (AI Ai c O (mt mh) O AL O ?_)))))
  have D:=k6.mono (A.trans C)
  refine QF.fa O D Fa IQ O λbl au=>QF.ldi Ai c.1 O au AL O λav=>?_
  obtain⟨bm,ab,E⟩:=bd E
  refine Ao O O O H0 O (λh' o=>DT (St.all h') r9 av ab) λaw=>?_
  have ax:=aw
  refine QF.fa O D B0 GA O λbn ay=>QF.ldi Ai c.1 O ay AL O λaz=>?_
  obtain⟨m,ac,E⟩:=bd E
  refine Ao O O O PE O (λh' o=>G0 (St.all h') ax (iq (n:=0) O) az ac) λa0=>?_
  have a1:=a0
  refine QF.fao O Hh O (QF.fao O Cn O (AI Ai c O (mt mh) O AL O (QF.fa O D Fa IQ O λbo a2=>QF.ldi Ai c.1 O a2 AL O λa3=>?_)))
  obtain⟨bp,ad,E⟩:=bd E
  refine Ao O O O Mh O (λh' o=>Ex (St.all h') u a3 ad) λa4=>?_
  have a5:=a4
  refine QF.fa O D B0 GA O λbq a6=>QF.ldi Ai c.1 O a6 AL O λa7=>?_
  obtain⟨p,ae,E⟩:=bd E
  refine Ao O O O PE O (λh' o=>G0 (St.all h') a5 (iq (n:=0) O) a7 ae) λa8=>?_
  have a9:=a8
  refine QF.bld (cs:=[.int .i64 m,.int .i64 p]) HD O O O (QF.fao O Hh O (Dj λbr af ba=>H3 (vs:=[.int .i64 m,.int .i64 p]) (cs':=[.int .i64 m,.int .i64 p,.int .i64 a.Target,.int .i64 a.Open.Lo,.int .i64 a.Open.Hi]) O O O O Ag O af (.tail .head) O O λbt I bb=>LF.nil (kp [6,4] O) (WF.seq (WF.rl (LF.q 1 (QF.ldo (vs:=[.int .i64 m,.int .i64 p,.int .i64 a.Target,.int .i64 a.Open.Lo,.int .i64 a.Open.Hi]) Af I O (mt mh) O O Gj O O (AG (Ad (vs:=[.int .i64 m,.int .i64 p,.int .i64 a.Target,.int .i64 a.Open.Lo,.int .i64 a.Open.Hi]) O O O O Gj O I .head O λbu ag bc=>LF.nil (kp [6] O) (WF.ret (λaa ww hf hw=>?_))))))))))
  have J:=ag.drop (.tail .head)
  have ah:=J.drop .head
  cases E
  have ai:=e5.trans (A.trans (C.trans (ba.trans (bb.trans bc))))
  exact HQ hf O hw (Gk (LD hf hw J O mh Gj O) HC) O ai ⟨O,⟨a1,a9,w,y,z⟩,ah⟩
theorem Kq {k:Nat}{p0_w:Ac}{t:Value}{u:Value}{s:Value}{y:Value}{z:Value}{A:Value}{C:Value}{D:Value}{c:Value}{m:Value}{j:Value}{d:Value}(hs:St S (Bx k 106 [.string p0_w.b.Name,t,.int .i64 p0_w.b.Cells,u,s,y,z,A,C,D,.int .i64 p0_w.b.Err,.int .i64 p0_w.h.Hour,c,m,j,d]::OS AF 51 c p0_w.h.Vol::OS AZ 97 j p0_w.h.Links::OS AF 51 d p0_w.peaks::L) h) (c9:p0_w.b.Name.size≤maxLen) (da:Sl S h AV.str t p0_w.b.Owners) (db:AB p0_w.b.Cells) (dc:Sl S h BO u p0_w.b.Places) (J:Sl S h A9 s p0_w.b.Links) (dd:Sl S h EK y p0_w.b.Towns) (de:Sl S h Di z p0_w.b.Gauges) (df:Sl S h Et A p0_w.b.Roads) (dg:Sl S h Cc C p0_w.b.Shelters) (dh:Sl S h AV.int D p0_w.b.Room) (bv:AB p0_w.b.Err) (bw:AB p0_w.h.Hour) (bx:Sl S h BS m p0_w.h.Queue) {V:Value}{G:BJ}(az:Rd S h Dt V G) {p:Value}{F:(List Bool)}(W:Sl S h AV.bool p F) {r:(List AT)}(E:FR N p0_w G F=some r):
 Bf Tryz.prog 50 #[.pointer (some ⟨k,0,none⟩),V,p] S h (λv S' h'=>∃w_0_14:Value,v= .tuple #[]∧St S' (Bx k 106 [.string p0_w.b.Name,t,.int .i64 p0_w.b.Cells,u,s,y,z,A,C,D,.int .i64 p0_w.b.Err,.int .i64 p0_w.h.Hour,c,m,w_0_14,d]::OS AF 51 c p0_w.h.Vol::OS AZ 97 w_0_14 r::OS AF 51 d p0_w.peaks::L) h'):=by
 refine Ab (l:=[.pointer (some ⟨k,0,none⟩),V,p]) 155 Tryz.func50 O Tryz.ntmps50 O λB=>?_
 rw[FR] at E
 refine WF.seq (WF.rl (LF.boxp O az (λe=>by cases e) O hs λq1 S2 h3 di e5 k6=>LF.nil (kp [4,0,2] O) (WF.seq (WF.seq (WF.rp (.inl O) (QF.fa O k6 Jg Rs O λq7 k8=>QF.ldl Af di.1 O k8 WT O λv9 dj=>QF.len O dj TS O λib=>QF.mv O O (AA (kp [16,15,14,4,0,2] O) (WF.blockJ (λa w=>∃(be:List AT),IV B S2 h3 (155,[]) a w [(4,q1),(0,.pointer (some ⟨k,0,none⟩)),(2,p)] (Bx k 106 [.string p0_w.b.Name,t,.int .i64 p0_w.b.Cells,u,s,y,z,A,C,D,.int .i64 p0_w.b.Err,.int .i64 p0_w.h.Hour,c,m,j,d]::OS AF 51 c p0_w.h.Vol::OS AZ 97 j be::OS AF 51 d p0_w.peaks::L) λ_ _=>BZ N p0_w G F be=some r) ?_ ?_))))))))
 ·
  refine WF.loopF (λn1=>λa w=>∃(aj:Int) (ab:List AT),IV B S2 h3 (155,[]) a w [(15,.int .i64 (↑G.Faults.length:Int)),(14,v9),(4,q1),(0,.pointer (some ⟨k,0,none⟩)),(2,p),(16,.int .i64 aj)] (Bx k 106 [.string p0_w.b.Name,t,.int .i64 p0_w.b.Cells,u,s,y,z,A,C,D,.int .i64 p0_w.b.Err,.int .i64 p0_w.h.Hour,c,m,j,d]::OS AF 51 c p0_w.h.Vol::OS AZ 97 j ab::OS AF 51 d p0_w.peaks::L) λ_ _=>AB aj∧A5 N p0_w G (BZ N p0_w G F) n1 aj ab=some r) N ?_ ?_ ?_
  ·
   intro aa ww hf hw
   exact⟨0,p0_w.h.Links,_,_,hf.sub (kp [15,14,4,0,2,16] O),hw,di,(Bc.refl S2 h3),(iq (n:=0) O),E⟩
  ·
   rintro aa ww ⟨_,_,_,_,_,_,_,_,_,E⟩
   rw[A5] at E;cases E
  ·
   rintro n1 aa ww ⟨aj,ab,f6,f7,hf,hw,a0,a1,ic,E⟩
   refine WF.run ?_ hf hw
   clear hf hw ww aa
   rw[A5] at E
   refine WF.seq (WF.rp (.inl O) (QF.lss O O O (AA (kp [17,15,14,4,0,2,16] O) (WF.seq (WF.if_ O (λbz=>?_) (λbz=>?_))))))
   ·
    have E:=A0 bz E
    refine WF.skip (WF.seq (WF.blockJ (λa w=>∃(bf:List AT),IV B f6 f7 (155,[]) a w [(15,.int .i64 (↑G.Faults.length:Int)),(14,v9),(4,q1),(0,.pointer (some ⟨k,0,none⟩)),(2,p),(16,.int .i64 aj)] (Bx k 106 [.string p0_w.b.Name,t,.int .i64 p0_w.b.Cells,u,s,y,z,A,C,D,.int .i64 p0_w.b.Err,.int .i64 p0_w.h.Hour,c,m,j,d]::OS AF 51 c p0_w.h.Vol::OS AZ 97 j bf::OS AF 51 d p0_w.peaks::L) λ_ _=>Cg N aj (A5 N p0_w G (BZ N p0_w G F) n1) bf=some r) ?_ ?_))
    ·
     refine WF.seq (WF.rl (LF.q 2 ?_))
     have f8:=dj.mono' a1
     obtain⟨ax,dk,E⟩:=bd E
     refine QF.ixe O O f8 TS dk O λie f9=>QF.ld Af a0.1 O f9 TH (λe=>by cases e) O λig ga=>AG (LF.al Wo O a0 λih ii dl ak=>?_)
     have gb:=ga.mono ak
     obtain⟨rfl,⟨ij,gc⟩⟩:=GQ.ex gb
     refine Ad (vs:=[.int .i64 ax.Kind,.int .i64 ax.Link]) O O O O TH O dl .head O λik ac ay=>LF.nil (kp [7,15,14,4,0,2,16] O) (WF.seq (WF.seq (WF.rc (.inr ⟨mo,by kernel_rfl⟩) ac (QF.fao O Lu O (AI Ai ac O mh O AL O (QF.mv O O (D8 O O (QF.fao O Fl O (QF.fao O FP O (AI Ai ac O (mt mh) O Ho O ?_))))))))))
     have dm:=e5.trans (a1.trans (ak.trans ay))
     have ge:=J.mono' dm
     refine QF.len O ge GO O λgf=>?_
     obtain⟨gg,dn,E⟩:=bd E
     refine Aa O O O QL O (λh' o=>GU (St.all h') gc (Jk gf) dn) (QF.not O O (QF.mv O O ?_))
     obtain⟨gh,Q,E⟩:=bd E
     refine QF.cutv 12 42 (.bool gh) ?_ ?_
     ·
      cases dp:(!gg)
      ·
       have Q:=A3 dp Q
       refine QF.gy O O O (QF.mv O O (QF.gy O O O (D8 O O (QF.gy O O O (QF.fao O Fl O (QF.gy O O O (QF.fao O FP O (QF.gy O O O (AI Ai ac O (mt mh) O Ho O (QF.gy O O O (QF.fao O Lu O (QF.gy O O O (AI Ai ac O mh O AL O ?_)))))))))))))
       refine QF.gy O O O ?_
       have dq:=e5.trans (a1.trans (ak.trans ay))
       have gi:=J.mono' dq
       obtain⟨il,dr,Q⟩:=bd Q
       refine QF.ixe O O gi GO dr O λim gj=>QF.gy O O O (QF.fa O gj AQ.f_Kind Do O λio gk=>QF.gy O O O (QF.ldi Ai ac.1 O gk AL O λip=>QF.gy O O O (QF.neq O O O (QF.pick O O O ?_))))
       cases Q
       exact AH O
      ·
       have Q:=A0 dp Q
       cases Q
       exact AK O O
     refine Ak (kp [42,7,15,14,4,0,2,16] O) λir K bg=>WF.if_ O (λb0=>?_) (λb0=>?_)
     ·
      have E:=A0 b0 E
      refine WF.exit O (λaa ww hf hw=>?_)
      have ds:=K.sel [1,1,1,1] 1 O
      have dt:=ak.trans (ay.trans bg)
      exact⟨ab,_,_,hf.sub (kp [15,14,4,0,2,16] O),hw,ds,dt,E⟩
     ·
      have E:=A3 b0 E
      refine WF.skip (WF.seq (WF.rp (.inl O) (QF.fao O T9 O (AI Af K O mh O AL O (AA (kp [44,7,15,14,4,0,2,16] O) (WF.block (WF.seq (WF.rp (.inl O) (QF.eql O O O (QF.as_ O O (AA (kp [45,44,7,15,14,4,0,2,16] O) (WF.if_ O (λb1=>?_) (λb1=>?_)))))))))))))
      ·
       have E:=A0 b1 E
       refine Ed 10 mo (by kernel_rfl) O K (QF.mv O O (D8 O O (QF.fao O EE O (QF.fao O Gv O (AI Ai K O (mt mh) O JZ O (QF.fao O Lu O (AI Ai K O mh O AL O ?_)))))))
       obtain⟨du,dv,E⟩:=bd E
       refine Ao O O O K0 O (λh' o=>Ev (St.all h') (iq (n:=1) O) dv) λgl=>?_
       obtain⟨gm,gp⟩:=gl
       obtain⟨it,dw,E⟩:=bd E
       refine QF.ixoe K (mt (mt (mt mh))) O O J2 dw O λiu dx=>QF.fae O dx Hg O λiv dy=>Dj λiw dz gq=>?_
       obtain⟨d0,d1,E⟩:=bd E
       refine LF.ste (r:=AZ) (l:=ab) (i:=ax.Link) (x:=d0) O O (AF.mk (x:=du) ⟨gm,gp⟩) dy d1 AT.u_Open Ag (λe=>by cases e) dz (.tail (.tail (.tail .head))) λiy d2 gr=>LF.nil (kp [15,14,4,0,2,16] O) (Ap (WF.nil (λaa ww hf hw=>?_)))
       have d3:=d2.sel [1,1,1,1] 1 O
       have d4:=ak.trans (ay.trans (bg.trans (gq.trans gr)))
       exact⟨(upd ab ax.Link ({ d0 with Open:=du})),_,_,hf.sub (kp [15,14,4,0,2,16] O),hw,d3,d4,E⟩
      ·
       have E:=A3 b1 E
       refine WF.seq (WF.rp (.inl O) (QF.eql O O O (QF.as_ O O (AA (kp [57,7,15,14,4,0,2,16] O) (WF.if_ O (λb2=>?_) (λb2=>?_))))))
       ·
        have E:=A0 b2 E
        refine Ed 10 mo (by kernel_rfl) O K (QF.mv O O (D8 O O (QF.fao O EE O (QF.fao O Gv O (AI Ai K O (mt mh) O JZ O (QF.fao O Lu O (AI Ai K O mh O AL O ?_)))))))
        obtain⟨d5,d6,E⟩:=bd E
        refine Ao O O O K0 O (λh' o=>Ev (St.all h') (iq (n:=0) O) d6) λgs=>?_
        obtain⟨gu,gv⟩:=gs
        obtain⟨iz,d7,E⟩:=bd E
        refine QF.ixoe K (mt (mt (mt mh))) O O J2 d7 O λi0 d8=>QF.fae O d8 Hg O λi1 d9=>Dj λi2 ea gw=>?_
        obtain⟨eb,ec,E⟩:=bd E
        refine LF.ste (r:=AZ) (l:=ab) (i:=ax.Link) (x:=eb) O O (AF.mk (x:=d5) ⟨gu,gv⟩) d9 ec AT.u_Open Ag (λe=>by cases e) ea (.tail (.tail (.tail .head))) λi3 ed gx=>LF.nil (kp [15,14,4,0,2,16] O) (Ap (WF.nil (λaa ww hf hw=>?_)))
        have ee:=ed.sel [1,1,1,1] 1 O
        have b3:=ak.trans (ay.trans (bg.trans (gw.trans gx)))
        exact⟨(upd ab ax.Link ({ eb with Open:=d5})),_,_,hf.sub (kp [15,14,4,0,2,16] O),hw,ee,b3,E⟩
       ·
        have E:=A3 b2 E
        refine WF.skip (Ap (WF.nil (λaa ww hf hw=>?_)))
        have b4:=K.sel [1,1,1,1] 1 O
        have b5:=ak.trans (ay.trans bg)
        exact⟨ab,_,_,hf.sub (kp [15,14,4,0,2,16] O),hw,b4,b5,E⟩
    ·
     rintro aa ww ⟨bf,gz,g0,hf,hw,b6,ef,E⟩
     refine WF.run ?_ hf hw
     clear hf hw ww aa
     rw[Cg] at E
     refine WF.rp (.inl O) (QF.addw O O O (QF.mv O O (AA (kp [16,15,14,4,0,2] O) (WF.nil (λaa ww hf hw=>?_)))))
     exact⟨(Aw (aj+1)),bf,_,_,hf.sub (kp [15,14,4,0,2,16] O),hw,b6,(a1.trans ef),(BA _),E⟩
   ·
    have E:=A3 bz E
    refine WF.exit O (λaa ww hf hw=>?_)
    exact⟨ab,_,_,hf.sub (kp [4,0,2] O),hw,a0,a1,E⟩
 ·
  rintro aa ww ⟨be,a2,a3,hf,hw,a4,X,E⟩
  refine WF.run ?_ hf hw
  clear hf hw ww aa
  rw[BZ] at E
  refine WF.seq (WF.seq (WF.rp (.inl O) ?_))
  have eg:=k6.mono X
  refine QF.fa O eg K3 Rr O λg1 eh=>QF.ldl Af a4.1 O eh WS O λbh bi=>QF.len O bi TR O λg2=>QF.mv O O (AA (kp [73,72,71,0,2] O) (WF.blockJ (λa w=>∃(ap:List AT),IV B a2 a3 (155,[]) a w [(0,.pointer (some ⟨k,0,none⟩)),(2,p)] (Bx k 106 [.string p0_w.b.Name,t,.int .i64 p0_w.b.Cells,u,s,y,z,A,C,D,.int .i64 p0_w.b.Err,.int .i64 p0_w.h.Hour,c,m,j,d]::OS AF 51 c p0_w.h.Vol::OS AZ 97 j ap::OS AF 51 d p0_w.peaks::L) λ_ _=>BY N p0_w F ap=some r) ?_ ?_))
  ·
   refine WF.loopF (λn4=>λa w=>∃(Y:Int) (Z:List AT),IV B a2 a3 (155,[]) a w [(72,.int .i64 (↑G.Cmds.length:Int)),(71,bh),(0,.pointer (some ⟨k,0,none⟩)),(2,p),(73,.int .i64 Y)] (Bx k 106 [.string p0_w.b.Name,t,.int .i64 p0_w.b.Cells,u,s,y,z,A,C,D,.int .i64 p0_w.b.Err,.int .i64 p0_w.h.Hour,c,m,j,d]::OS AF 51 c p0_w.h.Vol::OS AZ 97 j Z::OS AF 51 d p0_w.peaks::L) λ_ _=>AB Y∧BK N p0_w G (BY N p0_w F) n4 Y Z=some r) N ?_ ?_ ?_
   ·
    intro aa ww hf hw
    exact⟨0,be,_,_,hf.sub (kp [72,71,0,2,73] O),hw,a4,(Bc.refl a2 a3),(iq (n:=0) O),E⟩
   ·
    rintro aa ww ⟨_,_,_,_,_,_,_,_,_,E⟩
    rw[BK] at E;cases E
   ·
    rintro n4 aa ww ⟨Y,Z,ei,ej,hf,hw,am,af,g3,E⟩
    refine WF.run ?_ hf hw
    clear hf hw ww aa
    rw[BK] at E
    refine WF.seq (WF.rp (.inl O) (QF.lss O O O (AA (kp [74,72,71,0,2,73] O) (WF.seq (WF.if_ O (λa5=>?_) (λa5=>?_))))))
    ·
     have E:=A0 a5 E
     refine WF.skip (WF.seq (WF.blockJ (λa w=>∃(aq:List AT),IV B ei ej (155,[]) a w [(72,.int .i64 (↑G.Cmds.length:Int)),(71,bh),(0,.pointer (some ⟨k,0,none⟩)),(2,p),(73,.int .i64 Y)] (Bx k 106 [.string p0_w.b.Name,t,.int .i64 p0_w.b.Cells,u,s,y,z,A,C,D,.int .i64 p0_w.b.Err,.int .i64 p0_w.h.Hour,c,m,j,d]::OS AF 51 c p0_w.h.Vol::OS AZ 97 j aq::OS AF 51 d p0_w.peaks::L) λ_ _=>D0 N Y (BK N p0_w G (BY N p0_w F) n4) aq=some r) ?_ ?_))
     ·
      refine WF.seq (WF.rl (LF.q 2 ?_))
      have ek:=bi.mono' af
      obtain⟨ar,b7,E⟩:=bd E
      refine QF.ixe O O ek TR b7 O λg4 el=>QF.ld Af am.1 O el TG (λe=>by cases e) O λg5 em=>AG (LF.al Wn O am λg6 g7 b8 ag=>?_)
      have en:=em.mono ag
      obtain⟨rfl,⟨eo,ep⟩⟩:=Ia.ex en
      refine Ad (vs:=[.int .i64 ar.Link,.int .i64 ar.Target]) O O O O TG O b8 .head O λg8 an au=>LF.nil (kp [9,72,71,0,2,73] O) (WF.seq (WF.rc (.inr ⟨mo,by kernel_rfl⟩) an (QF.fao O NX O (AI Ai an O mh O AL O (QF.mv O O (D8 O O (QF.fao O Fl O (QF.fao O FP O (AI Ai an O (mt mh) O Ho O ?_)))))))))
      have b9:=e5.trans (X.trans (af.trans (ag.trans au)))
      have eq:=J.mono' b9
      refine QF.len O eq GO O λer=>?_
      obtain⟨g9,ca,E⟩:=bd E
      refine Aa O O O QL O (λh' o=>GU (St.all h') eo (Jk er) ca) (Ak (kp [85,9,72,71,0,2,73] O) λha I a6=>WF.if_ O (λa7=>?_) (λa7=>?_))
      ·
       have E:=A0 a7 E
       refine WF.seq (WF.rp (.inr ⟨mo,by kernel_rfl⟩) (QF.mv O O (D8 O O (QF.fao O EE O (QF.fao O Gv O (AI Af I O (mt mh) O JZ O (QF.fao O NX O (AI Af I O mh O AL O ?_))))))))
       obtain⟨hb,cb,E⟩:=bd E
       refine QF.ixoe I (mt (mt (mt mh))) O O J2 cb O λhc ae=>QF.as_ O O (AA (kp [10,9,72,71,0,2,73] O) (Ed 21 mo (by kernel_rfl) O I (QF.mv O O (QF.mv O O (D8 O O (QF.fao O Fl O (QF.fao O FP O (AI Ai I O (mt mh) O Ho O (QF.fao O NX O (AI Ai I O mh O AL O ?_))))))))))
       have cc:=e5.trans (X.trans (af.trans (ag.trans (au.trans a6))))
       have es:=J.mono' cc
       obtain⟨hd,cd,E⟩:=bd E
       refine QF.ixe O O es GO cd O λhe et=>QF.ld Ai I.1 O et Du (λe=>by cases e) O λhg eu=>QF.mv O O (U9 O ae O (QF.fae O ae M3 O λhh ce=>?_))
       obtain⟨bj,cf,E⟩:=bd E
       have ev:=I.epAt (mt (mt (mt mh))) cf AT.f_Target ce
       refine QF.ldi Ai (λ_ x=>x) O ev AL O λew=>QF.bld (cs:=[.int .i64 0,.int .i64 bj.Target,.bool false,.bool false]) TP O O O (QF.fao O T8 O (AI Ai I O mh O AL O ?_))
       obtain⟨bk,cg,E⟩:=bd E
       refine Ao O O O X0 O (λh' o=>Oz (St.all h') (eu.mono (o.all I.1)) (GM.mk (x:=(⟨0,bj.Target,false,false⟩:Db)) ⟨(iq (n:=0) O),ew⟩) ep cg) λey=>?_
       obtain⟨hi,ez⟩:=ey
       refine QF.fld O Vp O O (U9 O ae O (QF.fae O ae M3 O λhj ch=>Dj λhk ci e0=>?_))
       obtain⟨bl,cj,E⟩:=bd E
       refine LF.ste (r:=AZ) (l:=Z) (i:=ar.Link) (x:=bl) O O (⟨_,O,O,ez⟩:Rd _ _ AV.int _ bk.Target) ch cj AT.u_Target AL (λ_=>rfl) ci (.tail (.tail (.tail .head))) λhl ck e1=>LF.nil (kp [72,71,0,2,73] O) (WF.nil (λaa ww hf hw=>?_))
       have cl:=ck.sel [1,1,1,1] 1 O
       have cm:=ag.trans (au.trans (a6.trans (e0.trans e1)))
       exact⟨(upd Z ar.Link ({ bl with Target:=bk.Target})),_,_,hf.sub (kp [72,71,0,2,73] O),hw,cl,cm,E⟩
      ·
       have E:=A3 a7 E
       refine WF.skip (WF.nil (λaa ww hf hw=>?_))
       have cn:=I.sel [1,1,1,1] 1 O
       have co:=ag.trans (au.trans a6)
       exact⟨Z,_,_,hf.sub (kp [72,71,0,2,73] O),hw,cn,co,E⟩
     ·
      rintro aa ww ⟨aq,hm,hn,hf,hw,cp,e2,E⟩
      refine WF.run ?_ hf hw
      clear hf hw ww aa
      rw[D0] at E
      refine WF.rp (.inl O) (QF.addw O O O (QF.mv O O (AA (kp [73,72,71,0,2] O) (WF.nil (λaa ww hf hw=>?_)))))
      exact⟨(Aw (Y+1)),aq,_,_,hf.sub (kp [72,71,0,2,73] O),hw,cp,(af.trans e2),(BA _),E⟩
    ·
     have E:=A3 a5 E
     refine WF.exit O (λaa ww hf hw=>?_)
     exact⟨Z,_,_,hf.sub (kp [0,2] O),hw,am,af,E⟩
  ·
   rintro aa ww ⟨ap,bm,bn,hf,hw,a8,av,E⟩
   refine WF.run ?_ hf hw
   clear hf hw ww aa
   rw[BY] at E
   refine WF.seq (WF.rp (.inl O) (QF.mv O O (D8 O O (QF.fao O Fl O (QF.fao O FP O (AI Af a8 O mh O Ho O ?_))))))
   have cq:=e5.trans (X.trans av)
   have bo:=J.mono' cq
   refine QF.len O bo GO O λho=>QF.mv O O (AA (kp [122,121,120,0,2] O) (WF.block (WF.loopF (λn6=>λa w=>∃(U:Int) (ah:List AT),IV B bm bn (155,[]) a w [(121,.int .i64 (↑p0_w.b.Links.length:Int)),(120,s),(0,.pointer (some ⟨k,0,none⟩)),(2,p),(122,.int .i64 U)] (Bx k 106 [.string p0_w.b.Name,t,.int .i64 p0_w.b.Cells,u,s,y,z,A,C,D,.int .i64 p0_w.b.Err,.int .i64 p0_w.h.Hour,c,m,j,d]::OS AF 51 c p0_w.h.Vol::OS AZ 97 j ah::OS AF 51 d p0_w.peaks::L) λ_ _=>AB U∧Cf N p0_w F n6 U ah=some r) N ?_ ?_ ?_)))
   ·
    intro aa ww hf hw
    exact⟨0,ap,_,_,hf.sub (kp [121,120,0,2,122] O),hw,a8,(Bc.refl bm bn),(iq (n:=0) O),E⟩
   ·
    rintro aa ww ⟨_,_,_,_,_,_,_,_,_,E⟩
    rw[Cf] at E;cases E
   ·
    rintro n6 aa ww ⟨U,ah,hp,hq,hf,hw,ao,ai,hr,E⟩
    refine WF.run ?_ hf hw
    clear hf hw ww aa
    rw[Cf] at E
    refine WF.seq (WF.rp (.inl O) (QF.lss O O O (AA (kp [123,121,120,0,2,122] O) (WF.seq (WF.if_ O (λa9=>?_) (λa9=>?_))))))
    ·
     have E:=A0 a9 E
     refine WF.skip (WF.seq (WF.block (WF.seq (WF.rl (LF.q 3 (QF.mv O O ?_))))))
     have e3:=bo.mono' ai
     obtain⟨g,cr,E⟩:=bd E
     refine QF.ixe O O e3 GO cr O λht e4=>QF.ld Af ao.1 O e4 Du (λe=>by cases e) O λhu e6=>AG (LF.al K8 O ao λhv hx ct aw=>LF.q 1 (QF.as_ O O (AG ?_)))
     have e7:=e6.mono aw
     obtain⟨ba,bb,bc,rfl,e8,e9,fb,fc,bp,bq,br,fd,fe,ff,fg,fh,fi,fj,fk,fl,fm,fn⟩:=A9.ex e7
     refine LF.st (vs:=[.string g.Name,.int .i64 g.Kind,.int .i64 g.From,.int .i64 g.To,ba,bb,bc,.int .i64 g.Positions,.int .i64 g.Speed,.int .i64 g.Leak,.int .i64 g.Crest,.int .i64 g.Num,.int .i64 g.Den,.int .i64 g.Prime,.int .i64 g.Break,.int .i64 g.BackNum,.int .i64 g.BackDen,.int .i64 g.Delay]) (cs':=[.string g.Name,.int .i64 g.Kind,.int .i64 g.From,.int .i64 g.To,ba,bb,bc,.int .i64 g.Positions,.int .i64 g.Speed,.int .i64 g.Leak,.int .i64 g.Crest,.int .i64 g.Num,.int .i64 g.Den,.int .i64 g.Prime,.int .i64 g.Break,.int .i64 g.BackNum,.int .i64 g.BackDen,.int .i64 g.Delay]) O O O (AC O (AC O (AC O (AC O (AC bp.one (AC bq.one (AC br.one (AC O (AC O (AC O (AC O (AC O (AC O (AC O (AC O (AC O (AC O (AC O Eo)))))))))))))))))) Du O ct .head O O λhy H ad=>LF.nil (kp [11,12,121,120,0,2,122] O) (Ed 27 mo (by kernel_rfl) O H (QF.mv O O (D8 O O (QF.fao O EE O (QF.fao O Gv O (AI Ai H O (mt mh) O JZ O (QF.mv O O (QF.ldo (vs:=[.string g.Name,.int .i64 g.Kind,.int .i64 g.From,.int .i64 g.To,ba,bb,bc,.int .i64 g.Positions,.int .i64 g.Speed,.int .i64 g.Leak,.int .i64 g.Crest,.int .i64 g.Num,.int .i64 g.Den,.int .i64 g.Prime,.int .i64 g.Break,.int .i64 g.BackNum,.int .i64 g.BackDen,.int .i64 g.Delay]) Ai H O mh O O Du O O ?_))))))))
     refine QF.mv O O (D8 O O (QF.fao O EE O (QF.fao O Gv O (AI Ai H O (mt mh) O JZ O (QF.mv O O ?_)))))
     obtain⟨hz,cu,E⟩:=bd E
     refine QF.ixoe H (mt (mt (mt mh))) O O J2 cu O λh0 cv=>?_
     obtain⟨h1,cw,E⟩:=bd E
     have fo:=H.epAt (mt (mt (mt mh))) cw EO.id cv
     refine QF.ld Ai (λ_ x=>x) O fo Gj (λe=>by cases e) O λh2 fp=>QF.mv O O (QF.mv O O ?_)
     have cx:=e5.trans (X.trans (av.trans (ai.trans (aw.trans ad))))
     have fq:=W.mono' cx
     refine QF.len O fq WX O λh4=>QF.lss O O O (QF.mv O O ?_)
     obtain⟨fr,M,E⟩:=bd E
     refine QF.cutv 5 151 (.bool fr) ?_ ?_
     ·
      cases bt:(decide (U<(↑F.length:Int)))
      ·
       have M:=A3 bt M
       cases M
       exact AK O O
      ·
       have M:=A0 bt M
       refine QF.gy O O O (QF.mv O O (QF.gy O O O (QF.mv O O (QF.gy O O O ?_))))
       have cy:=e5.trans (X.trans (av.trans (ai.trans (aw.trans ad))))
       have fs:=W.mono' cy
       obtain⟨h5,cz,M⟩:=bd M
       refine QF.ixe O O fs WX cz O λh6 ft=>QF.gy O O O (QF.ldb Ai H.1 O ft ME O (QF.pick O O O ?_))
       cases M
       exact AH O
     have fu:=bp.mono' ad
     have fv:=bq.mono' ad
     have fw:=br.mono' ad
     obtain⟨bu,c0,E⟩:=bd E
     refine Ao O O O Xz O (λh' o=>NU (St.all h') (A9.mk (x:=g) e8 e9 fb fc (fu.mono' (o.all H.1)) (fv.mono' (o.all H.1)) (fw.mono' (o.all H.1)) fd fe ff fg fh fi fj fk fl fm fn) (fp.mono (o.all H.1)) c0) λfx=>?_
     obtain⟨fy,fz,f0,f1,f2⟩:=fx
     obtain⟨h7,c1,E⟩:=bd E
     refine QF.ixoe H (mt (mt (mt mh))) O O J2 c1 O λh8 c2=>Dj λh9 c3 f3=>?_
     obtain⟨f4,c4,E⟩:=bd E
     refine LF.ste (r:=AZ) (l:=ah) (i:=U) (x:=f4) O O (AZ.mk (x:=bu) ⟨fy,fz,f0,f1,f2⟩) c2 c4 MA.id Gj (λe=>by cases e) c3 (.tail (.tail (.tail .head))) λia c5 f5=>LF.nil (kp [121,120,0,2,122] O) (Ap (WF.rp (.inl O) (QF.addw O O O (QF.mv O O (AA (kp [122,121,120,0,2] O) (WF.nil (λaa ww hf hw=>?_)))))))
     have c6:=c5.sel [1,1,1,1] 1 O
     have c7:=ai.trans (aw.trans (ad.trans (f3.trans f5)))
     exact⟨(Aw (U+1)),(upd ah U bu),_,_,hf.sub (kp [121,120,0,2,122] O),hw,c6,c7,(BA _),E⟩
    ·
     have E:=A3 a9 E
     refine Hu O (WF.nil (λaa ww hf hw=>?_))
     cases E
     have c8:=e5.trans (X.trans (av.trans ai))
     exact HQ hf O hw HC O c8 ⟨_,O,ao⟩
end Go.Proofs.YtibidnaedddfdaaGreat
