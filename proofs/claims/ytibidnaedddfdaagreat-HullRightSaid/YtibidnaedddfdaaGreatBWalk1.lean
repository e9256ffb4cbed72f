import Derived.Test.YtibidnaedddfdaaGreatBWalk0
namespace Go.Proofs.YtibidnaedddfdaaGreat
open Go.RowKit
set_option linter.unusedVariables false
set_option linter.unusedSimpArgs false
set_option maxRecDepth 10000
set_option maxHeartbeats 2000000
variable {N:Nat}{S:Nat→Prop}{L:List HP}{h:Ac}
theorem Eo (hs:St S L h) {a:Value}{c:AF}(b:Rd S h AH a c) {r:Bool}(E:Cp N c=some r):
 Bh Tryz.prog 13 #[a] S h (λv S' h'=>v= .bool r∧St S' (L) h'):=by
 refine Ag (l:=[a]) 8 Tryz.func13 O Tryz.ntmps13 O λB=>?_
 rw[Cp] at E
 refine WF.seq (WF.rl (LF.boxp O b (λe=>by cases e) O hs λo p s d j i=>LF.q 1 (QF.as_ O O (AE (LF.nil (kp [1] O) (WF.seq (WF.rp (.inl O) (QF.fa O i AF.f_Lo DD O λt k=>QF.ldi Af d.1 O k AM O λu=>QF.fa O i AF.f_Hi CW O λm g=>QF.ldi Af d.1 O g AM O λn=>QF.leq O O O ?_))))))))
 refine QF.as_ O O (AA (kp [2] O) (WF.ret (λaa ww hf hw=>?_)))
 cases E
 exact DC hf hw O O j ⟨O,d⟩
theorem JK (hs:St S L h) {a:Value}{i:AF}(d:Rd S h AH a i) {b:Value}{j:AF}(g:Rd S h AH b j) {r:AF}(E:Fl N i j=some r):
 Bh Tryz.prog 102 #[a,b] S h (λv S' h'=>v= .agg #[.int .i64 r.Lo,.int .i64 r.Hi]∧AF.ok r∧St S' (L) h'):=by
 refine Ag (l:=[a,b]) 16 Tryz.func102 O Tryz.ntmps102 O λB=>?_
 rw[Fl] at E
 refine WF.seq (WF.rl (LF.boxp O d (λe=>by cases e) O hs λq1 S2 h3 C e5 k6=>?_))
 have k7:=g.mono e5
 refine LF.boxp O k7 (λe=>by cases e) O C λq8 S9 ab n p D=>LF.al EH O n λac ad c m=>LF.nil (kp [4,3,2] O) (WF.seq (EG 11 mo (by kernel_rfl) O c ?_))
 have q:=k6.mono (p.trans m)
 refine QF.fa O q AF.f_Lo DD O λae F=>QF.ldi Ak c.1 O F AM O λG=>?_
 have s:=D.mono m
 refine QF.fa O s AF.f_Lo DD O λaf H=>QF.ldi Ak c.1 O H AM O λI=>?_
 obtain⟨t,u,E⟩:=bd E
 refine Ao O O O Jk O (λh' o=>DP (St.all h') G I u) λJ=>?_
 have K:=J
 refine QF.fa O q AF.f_Hi CW O λag M=>QF.ldi Ak c.1 O M AM O λQ=>QF.fa O s AF.f_Hi CW O λah U=>QF.ldi Ak c.1 O U AM O λV=>?_
 obtain⟨w,x,E⟩:=bd E
 refine Ao O O O Jk O (λh' o=>DP (St.all h') Q V x) λW=>?_
 have X:=W
 refine QF.bld (cs:=[.int .i64 t,.int .i64 w]) GH O O O (DX λai y Y=>Ai (vs:=[.int .i64 t,.int .i64 w]) O O O O Ad O y .head O λaj k Z=>LF.nil (kp [4] O) (WF.ret (λaa ww hf hw=>?_)))
 have z:=k.drop .head
 cases E
 have A:=e5.trans (p.trans (m.trans (Y.trans Z)))
 exact Hq hf O hw (Gr (MA hf hw k O mh Ad O) HY) O A ⟨O,⟨K,X⟩,z⟩
theorem Ha (hs:St S L h) {b:Value}{a:AF}(c:Rd S h AH b a) {r:AF}(E:Fe N a=some r):
 Bh Tryz.prog 103 #[b] S h (λv S' h'=>v= .agg #[.int .i64 r.Lo,.int .i64 r.Hi]∧AF.ok r∧St S' (L) h'):=by
 refine Ag (l:=[b]) 10 Tryz.func103 O Tryz.ntmps103 O λB=>?_
 rw[Fe] at E
 refine WF.seq (WF.rl (LF.boxp O c (λe=>by cases e) O hs λD F G o x y=>LF.al EH O o λH I g i=>LF.nil (kp [2,1] O) (WF.seq (WF.rl (LF.q 7 ?_)))))
 have j:=y.mono i
 refine QF.fa O j AF.f_Lo DD O λz p=>QF.ldi Af g.1 O p AM O λs=>QF.min O O O (QF.fa O j AF.f_Hi CW O λA t=>QF.ldi Af g.1 O t AM O λu=>QF.min O O O (QF.bld (cs:=[.int .i64 (min a.Lo 1125899906842624),.int .i64 (min a.Hi 1125899906842624)]) GH O O O (AE (Ai (vs:=[.int .i64 (min a.Lo 1125899906842624),.int .i64 (min a.Hi 1125899906842624)]) O O O O Ad O g .head O λC d w=>LF.nil (kp [2] O) (WF.ret (λaa ww hf hw=>?_))))))
 have k:=d.drop .head
 cases E
 have m:=x.trans (i.trans w)
 exact Hq hf O hw (Gr (MA hf hw d O mh Ad O) HY) O m ⟨O,⟨(G5 s (iq (n:=1125899906842624) O)),(G5 u (iq (n:=1125899906842624) O))⟩,k⟩
theorem L8 (hs:St S L h) {a:Value}{g:AT}(c:Rd S h A9 a g) {b:Value}{i:AF}(d:Rd S h AH b i) {r:AF×AT}(E:HG N g i=some r):
 Bh Tryz.prog 148 #[a,b] S h (λv S' h'=>∃j k:Value,v= .func (.func 172) #[] #[j,k]∧Pt S' h' AH j r.1∧Pt S' h' A9 k r.2∧St S' (L) h'):=by
 refine Ag (l:=[a,b]) 6 Tryz.func148 O Tryz.ntmps148 O λB=>?_
 rw[HG] at E
 refine WF.seq (WF.rl (LF.boxp O c (λe=>by cases e) O hs λy z A o t u=>?_))
 have w:=d.mono t
 refine LF.boxp O w (λe=>by cases e) O o λC D x m n p=>LF.q 1 (QF.as_ O O (AE (LF.nil (kp [3,2] O) (WF.seq (WF.rp (.inl O) (QF.mkf O O O (QF.as_ O O (AA (kp [4] O) (WF.ret (λaa ww hf hw=>?_))))))))))
 have s:=u.mono n
 cases E
 exact DC hf hw O O (t.trans n) ⟨_,_,O,p,s,m⟩
theorem Fk (hs:St S L h) {b:Value}{c:AF}(d:Rd S h AH b c) {a:Int}(i:AB a) {r:Bool}(E:EY N c a=some r):
 Bh Tryz.prog 73 #[b,.int .i64 a] S h (λv S' h'=>v= .bool r∧St S' (L) h'):=by
 refine Ag (l:=[b,.int .i64 a]) 15 Tryz.func73 O Tryz.ntmps73 O λB=>?_
 rw[EY] at E
 refine WF.seq (WF.rl (LF.boxp O d (λe=>by cases e) O hs λt u w g m k=>LF.q 1 (QF.as_ O O (AE (LF.nil (kp [2,1] O) (WF.seq (WF.rp (.inl O) (QF.fa O k AF.f_Lo DD O λx n=>QF.ldi Af g.1 O n AM O λy=>QF.mv O O (QF.leq O O O (QF.mv O O ?_))))))))))
 refine QF.cutv 5 14 (.bool ((decide (c.Lo≤a))&&(decide (a≤c.Hi)))) ?_ ?_
 ·
  cases o:(decide (c.Lo≤a))
  ·exact AL O O
  ·exact QF.gy O O O (QF.mv O O (QF.gy O O O (QF.fa O k AF.f_Hi CW O λp j=>QF.gy O O O (QF.ldi Af g.1 O j AM O λs=>QF.gy O O O (QF.leq O O O (QF.pick O O O (AJ O)))))))
 refine QF.as_ O O (AA (kp [4] O) (WF.ret (λaa ww hf hw=>?_)))
 cases E
 exact DC hf hw O O m ⟨O,g⟩
theorem LJ {σ:Type}{yv:Value}{Y:Bool→σ→HP}{yld:Int→σ→Option (Bool×σ)}{S0:Nat→Prop}{h0:Ac}(yc:YC Tryz.prog yv Y Vu yld S0 h0) (e0:Bg S0 h0 S h) {s:σ}(hs:St S (Y true s::L) h) {i:Value}{c1_:AF}(m:Pt S h AH i c1_) {j:Value}{c2_:AT}(w:Pt S h A9 j c2_) {r:Bool×σ}(E:Fc N c1_ c2_ yld s=some r):
 Bh Tryz.prog 172 #[yv,i,j] S h (λv S' h'=>v= .tuple #[]∧St S' (Y r.1 r.2::L) h'):=by
 refine Ag (l:=[yv,i,j]) 36 Tryz.func172 O Tryz.ntmps172 O λB=>?_
 rw[Fc] at E
 refine WF.seq (WF.seq (WI (Jm 1 MG (QF.ld Af hs.1 O m Ad (λe=>by cases e) O λv1 k2=>QF.yn (ZF 1 MG ?_)))))
 obtain⟨y3,ad,E⟩:=bd E
 refine LF.callb O O O Nk O hs (Eo (St.all _) (k2.mono ⟨λb hb=>hs.1 b hb,λ_ _=>rfl,Nat.le_refl _⟩) ad) λv4 S5 h6 x n ay p=>?_
 obtain⟨rfl,az⟩:=p
 refine LF.yn (Jm 2 MG (QF.not O O (QF.mv O O (QF.yn ?_))))
 cases G:(!y3)
 ·
  have E:=A8 G E
  refine Jm 3 MG (QF.gy O O O (QF.mv O O (QF.gy O O O ?_)))
  have H:=m.mono n
  refine QF.fa O H AF.f_Lo DD O λa0 ae=>QF.gy O O O (QF.ldi Af x.1 O ae AM O λaf=>QF.yn (YL.gy O O O ?_))
  obtain⟨a1,I,E⟩:=bd E
  refine Uq yc O O I (e0.trans n) x ⟨O,af⟩ O (λy ag ah d k=>?_) (λy ag ah d k=>?_)
  ·
   have E:=A7 y E
   refine Jm 3 MG (QF.gy O O O (QF.not O O (QF.pick O O O (QF.mv O O (QF.yn (Jm 3 MG (QF.gy O O O (QF.mv O O (QF.gy O O O ?_)))))))))
   have J:=H.mono d
   refine QF.fa O J AF.f_Hi CW O λa2 ai=>QF.gy O O O (QF.ldi Af k.1 O ai AM O λaj=>QF.yn (YL.gy O O O ?_))
   obtain⟨a3,K,E⟩:=bd E
   refine Uq yc O O K (e0.trans (n.trans d)) k ⟨O,aj⟩ O (λz ak am g c=>?_) (λz ak am g c=>?_)
   ·
    have E:=A7 z E
    refine Jm 2 MG (QF.gy O O O (QF.not O O (QF.pick O O O (QF.yn (YL.nil (kp [20,0,1,2] O) (WF.ifF O (WF.skip (WF.seq (WF.rc (.inl O) c ?_)))))))))
    have M:=n.trans (d.trans g)
    have A:=w.mono M
    refine QF.fa O A FU Hc O λa4 an=>QF.ldi Ak c.1 O an AM O λa5=>QF.lss O O O (QF.mv O O ?_)
    obtain⟨ao,a,E⟩:=bd E
    refine QF.cutv 6 30 (.bool ao) ?_ ?_
    ·
     cases Q:(decide (c2_.Break<9223372036854775807))
     ·
      have a:=A8 Q a
      cases a
      exact AL O O
     ·
      have a:=A7 Q a
      refine QF.gy O O O ?_
      have ap:=J.mono g
      refine QF.ld Ak c.1 O ap Ad (λe=>by cases e) O λa6 aq=>QF.gy O O O (QF.fa O A FU Hc O λa7 ar=>QF.gy O O O (QF.ldi Ak c.1 O ar AM O λa8=>QF.gy O O O (QF.addw O O O (QF.gy O O O ?_))))
      obtain⟨a9,U,a⟩:=bd a
      refine Ab O O O Ni O (λh' o=>Fk (St.all h') (aq.mono (o.all c.1)) (BA _) U) (QF.pick O O O ?_)
      cases a
      exact AJ O
    refine Aq (kp [30,0,2] O) λba q t=>WF.if_ O (λC=>?_) (λC=>?_)
    ·
     have E:=A7 C E
     refine WI (Jm 4 MG (QF.mv O O ?_))
     have au:=A.mono t
     refine QF.fa O au FU Hc O λbb av=>QF.ldi Af q.1 O av AM O λbc=>QF.addw O O O (QF.yn ?_)
     obtain⟨be,V,E⟩:=bd E
     have W:=n.trans (d.trans (g.trans t))
     refine Uq yc O O V (e0.trans W) q ⟨O,(BA _)⟩ O (λD aw ax F u=>?_) (λD aw ax F u=>?_)
     ·
      have E:=A7 D E
      refine YL.nil J6 (WF.nil (λaa ww hf hw=>?_))
      cases E
      have X:=n.trans (d.trans (g.trans (t.trans F)))
      exact Hq hf O hw HY O X ⟨O,u⟩
     ·
      have E:=A8 D E
      refine YL.nil J6 (WF.nil (λaa ww hf hw=>?_))
      cases E
      have Z:=n.trans (d.trans (g.trans (t.trans F)))
      exact Hq hf O hw HY O Z ⟨O,u⟩
    ·
     have E:=A8 C E
     refine WF.skip (WF.nil (λaa ww hf hw=>?_))
     cases E
     have ab:=n.trans (d.trans (g.trans t))
     exact Hq hf O hw HY O ab ⟨O,q⟩
   ·
    have E:=A8 z E
    refine Jm 2 MG (QF.gy O O O (QF.not O O (QF.pick O O O (QF.yn (YL.nil (kp [20,0,1,2] O) (WF.ifT O (WF.ret (λaa ww hf hw=>?_))))))))
    cases E
    have ac:=n.trans (d.trans g)
    exact Hq hf O hw HY O ac ⟨O,c⟩
  ·
   have E:=A8 y E
   refine Jm 3 MG (QF.gy O O O (QF.not O O (QF.pick O O O (QF.mv O O (QF.yn (Jm 6 MG (QF.gnT O O O O O (QF.gnT O O O O O (QF.gnT O O O O O (QF.gnT O O O O O (QF.gnT O O O O O (QF.pick O O O (QF.yn ?_)))))))))))))
   refine YL.nil (kp [20,0,1,2] O) (WF.ifT O (WF.ret (λaa ww hf hw=>?_)))
   cases E
   exact Hq hf O hw HY O (n.trans d) ⟨O,k⟩
 ·
  have E:=A7 G E
  refine Jm 7 MG (QF.gnT O O O O O (QF.gnT O O O O O (QF.gnT O O O O O (QF.gnT O O O O O (QF.gnT O O O O O (QF.pick O O O (QF.mv O O (QF.yn (Jm 6 MG (QF.gnT O O O O O (QF.gnT O O O O O (QF.gnT O O O O O (QF.gnT O O O O O ?_)))))))))))))
  refine QF.gnT O O O O O (QF.pick O O O (QF.yn (YL.nil (kp [20,0,1,2] O) (WF.ifT O (WF.ret (λaa ww hf hw=>?_))))))
  cases E
  exact Hq hf O hw HY O n ⟨O,x⟩
theorem Mp (hs:St S L h) {d:Value}{n:AT}(k:Rd S h A9 d n) {g:Value}{b:Be}(m:Rd S h D9 g b) {i:Int}(X:AB i) {r:Be}(E:Gl N n b i=some r):
 Bh Tryz.prog 149 #[d,g,.int .i64 i] S h (λv S' h'=>v= .agg #[.int .i64 r.Pos,.int .i64 r.Target,.bool r.Stuck,.bool r.Open]∧Be.ok r∧St S' (L) h'):=by
 refine Ag (l:=[d,g,.int .i64 i]) 24 Tryz.func149 O Tryz.ntmps149 O λB=>?_
 rw[Gl] at E
 refine WF.seq (WF.rl (LF.boxp O k (λe=>by cases e) O hs λq1 S2 h3 Y Z k6=>?_))
 have k7:=m.mono Z
 obtain⟨rfl,⟨r9,C⟩⟩:=D9.ex k7
 refine LF.box O O O Y λD aj F t=>LF.al PM O F λG H c u=>LF.nil (kp [6,4,3,2] O) (WF.seq (WF.seq (WF.rp (.inl O) ?_)))
 have x:=k6.mono (t.trans u)
 refine QF.fa O x AT.f_Kind Di O λak ab=>QF.ldi Af c.1 O ab AM O λam=>QF.neq O O O (AA (kp [9,6,4,3,2] O) (WF.if_ O (λy=>?_) (λy=>?_)))
 ·
  have E:=A7 y E
  refine WF.seq (WF.rl (LF.q 1 (QF.ldo (vs:=[.int .i64 b.Pos,.int .i64 b.Target,.bool b.Stuck,.bool b.Open]) Af c O (mt mh) O O HC O O (AE (Ai (vs:=[.int .i64 b.Pos,.int .i64 b.Target,.bool b.Stuck,.bool b.Open]) O O O O HC O c .head O λan I ac=>LF.nil (kp [6] O) (WF.ret (λaa ww hf hw=>?_)))))))
  have o:=I.drop (.tail .head)
  have J:=o.drop .head
  cases E
  have K:=Z.trans (t.trans (u.trans ac))
  exact Hq hf O hw (Gr (MA hf hw o O mh HC O) HY) O K ⟨O,⟨r9,C⟩,J⟩
 ·
  have E:=A8 y E
  refine WF.skip (WF.seq (WF.blockJ (λa w=>∃(j:Bool),IV B S2 H (24,[]) a w [(6,.pointer (some ⟨G,0,none⟩)),(4,.pointer (some ⟨D,0,none⟩))] (Bx G 81 [.int .i64 0,.int .i64 0,.bool false,.bool false]::Bx D 81 [.int .i64 b.Pos,.int .i64 b.Target,.bool b.Stuck,.bool j]::L) λ_ _=>Ej N b j=some r) ?_ ?_))
  ·
   refine WF.seq (WF.rp (.inl O) (QF.mv O O (QF.fa O x Ho Kr O λao ad=>QF.ldi Af c.1 O ad AM O λap=>QF.geq O O O (QF.as_ O O (AA (kp [11,6,4,3,2] O) (WF.if_ O (λz=>?_) (λz=>?_)))))))
   ·
    have E:=A7 z E
    refine WF.rl (LF.q 1 (QF.fao O M3 O (AE (G2 (vs:=[.bool true]) (cs':=[.int .i64 b.Pos,.int .i64 b.Target,.bool b.Stuck,.bool true]) O O O O LV O c (.tail .head) O O λaq M ae=>LF.nil (kp [6,4] O) (WF.nil (λaa ww hf hw=>?_))))))
    exact⟨true,_,_,hf.sub (kp [6,4] O),hw,M,ae,E⟩
   ·
    have E:=A8 z E
    refine WF.seq (WF.rp (.inl O) (QF.mv O O (QF.fa O x FU Hc O λar af=>QF.ldi Af c.1 O af AM O λau=>QF.leq O O O (QF.as_ O O (AA (kp [17,6,4] O) (WF.if_ O (λA=>?_) (λA=>?_)))))))
    ·
     have E:=A7 A E
     refine WF.rl (LF.q 1 (QF.fao O M3 O (AE (G2 (vs:=[.bool false]) (cs':=[.int .i64 b.Pos,.int .i64 b.Target,.bool b.Stuck,.bool false]) O O O O LV O c (.tail .head) O O λav Q ag=>LF.nil (kp [6,4] O) (WF.nil (λaa ww hf hw=>?_))))))
     exact⟨false,_,_,hf.sub (kp [6,4] O),hw,Q,ag,E⟩
    ·
     have E:=A8 A E
     refine WF.skip (WF.nil (λaa ww hf hw=>?_))
     exact⟨b.Open,_,_,hf.sub (kp [6,4] O),hw,c,(Bg.refl S2 H),E⟩
  ·
   rintro aa ww ⟨j,aw,ax,hf,hw,p,ah,E⟩
   refine WF.run ?_ hf hw
   clear hf hw ww aa
   rw[Ej] at E
   refine WF.seq (WF.rl (LF.q 1 (QF.ldo (vs:=[.int .i64 b.Pos,.int .i64 b.Target,.bool b.Stuck,.bool j]) Af p O (mt mh) O O HC O O (AE (Ai (vs:=[.int .i64 b.Pos,.int .i64 b.Target,.bool b.Stuck,.bool j]) O O O O HC O p .head O λay U ai=>LF.nil (kp [6] O) (WF.ret (λaa ww hf hw=>?_)))))))
   have s:=U.drop (.tail .head)
   have V:=s.drop .head
   cases E
   have W:=Z.trans (t.trans (u.trans (ah.trans ai)))
   exact Hq hf O hw (Gr (MA hf hw s O mh HC O) HY) O W ⟨O,⟨r9,C⟩,V⟩
theorem Iy (hs:St S L h) {c:Value}{a:AF}(i:Rd S h AH c a) {d:Value}{b:AF}(j:Rd S h AH d b) {r:AF}(E:GQ N a b=some r):
 Bh Tryz.prog 54 #[c,d] S h (λv S' h'=>v= .agg #[.int .i64 r.Lo,.int .i64 r.Hi]∧AF.ok r∧St S' (L) h'):=by
 refine Ag (l:=[c,d]) 16 Tryz.func54 O Tryz.ntmps54 O λB=>?_
 rw[GQ] at E
 refine WF.seq (WF.rl (LF.boxp O i (λe=>by cases e) O hs λq1 S2 h3 w J K=>?_))
 have M:=j.mono J
 refine LF.boxp O M (λe=>by cases e) O w λq8 S9 Q n o x=>LF.al EH O n λU V g m=>LF.nil (kp [4,3,2] O) (WF.seq (WF.rl (LF.q 11 ?_)))
 have p:=K.mono (o.trans m)
 refine QF.fa O p AF.f_Lo DD O λW y=>QF.ldi Af g.1 O y AM O λz=>?_
 have s:=x.mono m
 refine QF.fa O s AF.f_Lo DD O λX A=>QF.ldi Af g.1 O A AM O λC=>QF.min O O O (QF.fa O p AF.f_Hi CW O λY D=>QF.ldi Af g.1 O D AM O λF=>QF.fa O s AF.f_Hi CW O λZ G=>QF.ldi Af g.1 O G AM O λH=>QF.max O O O (QF.bld (cs:=[.int .i64 (min a.Lo b.Lo),.int .i64 (max a.Hi b.Hi)]) GH O O O (AE (Ai (vs:=[.int .i64 (min a.Lo b.Lo),.int .i64 (max a.Hi b.Hi)]) O O O O Ad O g .head O λab k I=>LF.nil (kp [4] O) (WF.ret (λaa ww hf hw=>?_))))))
 have t:=k.drop .head
 cases E
 have u:=J.trans (o.trans (m.trans I))
 exact Hq hf O hw (Gr (MA hf hw k O mh Ad O) HY) O u ⟨O,⟨(G5 z C),(GB F H)⟩,t⟩
theorem NH (hs:St S L h) {C:Value}{s:AT}(av:Rd S h A9 C s) {D:Value}{b:AS}(aw:Rd S h Aa D b) {F:Value}{a2:AF}(ax:Rd S h AH F a2) {r:AS}(E:HH N s b a2=some r):
 Bh Tryz.prog 104 #[C,D,F] S h (λv S' h'=>v= .agg #[.int .i64 r.Pos.Lo,.int .i64 r.Pos.Hi,.int .i64 r.Target,.int .i64 r.Open.Lo,.int .i64 r.Open.Hi]∧AS.ok r∧St S' (L) h'):=by
 refine Ag (l:=[C,D,F]) 47 Tryz.func104 O Tryz.ntmps104 O λB=>?_
 rw[HH] at E
 have hsd:=Xb hs
 refine WF.seq (WF.rl (LF.boxp O av (λe=>by cases e) O hsd λq1 S2 h3 du e5 k6=>?_))
 have k7:=aw.mono e5
 obtain⟨rfl,⟨r9,b7,b8,a7,a8⟩⟩:=Aa.ex k7
 refine LF.box O O O du λm e7 b9 ay=>?_
 have dv:=ax.mono (e5.trans ay)
 refine LF.boxp O dv (λe=>by cases e) O b9 λe8 e9 fb ca a9 dw=>LF.al PL O ca λba fc Q az=>LF.nil (kp [6,5,4,3] O) (WF.seq (WF.seq (WF.rp (.inl O) ?_)))
 have cb:=ay.trans (a9.trans az)
 have cc:=k6.mono cb
 refine QF.fa O cc AT.f_Kind Di O λfd dx=>QF.ldi Af Q.1 O dx AM O λfe=>QF.neq O O O (AA (kp [14,6,5,4,3] O) (WF.if_ O (λbb=>?_) (λbb=>?_)))
 ·
  have E:=A7 bb E
  refine WF.seq (WF.rl (LF.q 1 (QF.ldo (vs:=[.int .i64 b.Pos.Lo,.int .i64 b.Pos.Hi,.int .i64 b.Target,.int .i64 b.Open.Lo,.int .i64 b.Open.Hi]) Af Q O (mt mh) O O GF O O (AE (Ai (vs:=[.int .i64 b.Pos.Lo,.int .i64 b.Pos.Hi,.int .i64 b.Target,.int .i64 b.Open.Lo,.int .i64 b.Open.Hi]) O O O O GF O Q .head O λff cd dy=>LF.nil (kp [6] O) (WF.ret (λaa ww hf hw=>?_)))))))
  have ce:=cd.sel [2,0] 1 O
  have cf:=e5.trans (ay.trans (a9.trans (az.trans dy)))
  refine X9 (vs:=[.agg #[.int .i64 b.Pos.Lo,.int .i64 b.Pos.Hi,.int .i64 b.Target,.int .i64 b.Open.Lo,.int .i64 b.Open.Hi]]) hf O hw ce O cf λw9 fg bc a3 fh=>?_
  have cg:=a3.drop .head
  cases E
  exact⟨(Gr (MA hf bc a3 O mh GF O) HY),⟨O,⟨r9,b7,b8,a7,a8⟩,cg⟩⟩
 ·
  have E:=A8 bb E
  refine WF.skip (WF.seq (WF.rl (LF.al Xn O Q λz fi ch be=>Ai (vs:=[.bool false]) O O O O LV O ch .head O λfj ci bf=>LF.nil (kp [7,6,5,4,3] O) (WF.seq (WF.rl (LF.al EH O ci λA fk ac bg=>LF.nil (kp [8,7,6,5,4,3] O) (WF.seq (WF.seq (WF.rl (LF.q 2 ?_))))))))))
  have cj:=be.trans (bf.trans bg)
  have ck:=cc.mono cj
  refine QF.ld Af ac.1 O ck Dk (λe=>by cases e) O λfl dz=>?_
  have cl:=az.trans (be.trans (bf.trans bg))
  have d0:=dw.mono cl
  refine QF.ld Af ac.1 O d0 Ad (λe=>by cases e) O λfm d1=>AE ?_
  obtain⟨fn,cm,E⟩:=bd E
  refine LF.call O O O XF O (L8 ac dz d1 cm) λfo fp fq cn p=>?_
  obtain⟨co,cp,rfl,d2,d3,cq⟩:=p
  refine LF.nil (kp [18,8,7,6,4,3] O) (WF.block ?_)
  have cr:=cq.sel [0,0,1,1,0] 0 O
  obtain⟨g,ct,E⟩:=bd E
  refine XY (Ds:=([])) 0 (λ(ss:Int×Int×Bool)=>[Pu (AB ss.1∧AB ss.2.1),Bx A 51 [.int .i64 ss.1,.int .i64 ss.2.1],Bx z 4 [.bool ss.2.2],Bx m 97 [.int .i64 b.Pos.Lo,.int .i64 b.Pos.Hi,.int .i64 b.Target,.int .i64 b.Open.Lo,.int .i64 b.Open.Hi]]) (0,0,false) Vu (λxx ss=>EZ N s b xx ss.1 ss.2.1 ss.2.2) g (λvs=>[(9,vs.getD 0 undef),(8,.pointer (some ⟨A,0,none⟩)),(7,.pointer (some ⟨z,0,none⟩)),(4,.pointer (some ⟨m,0,none⟩)),(3,q1)]) O XB (by kernel_rfl) (Ry cr ⟨(iq (n:=0) O),(iq (n:=0) O)⟩) (λk=>Vu.len k) (λk e=>Vu.mono k e) ?_ ?_ ?_ ?_ ?_
  ·
   intro yv Y S1 h1 L1 e1 yc d4
   have d5:=d2.mono e1
   have d6:=d3.mono e1
   rw[show ((#[yv]:Array Value)++ #[co,cp])= #[yv,co,cp] from Zh _ _]
   exact(LJ yc (Bg.refl _ _) d4 d5 d6 ct).mono λ_ _ _ _ p=>p.2
  ·
   intro vs B h1 hl
   match vs,hl with
   |[v0],_=>
    refine WF.rp (.inl O) ?_
    refine QF.as_ O O ?_
    refine AA (kp [9,19,8,7,4,3] O) ?_
    refine WF.nil (λaa ww hf hw=>?_)
    exact⟨hf.sub (kp [9,8,7,4,3] O),hw⟩
  ·
   rintro K ⟨a0,a1,bh⟩ out vs bi bj L81 B cu d7 cv cw
   have E:EZ N s b K a0 a1 bh=some out:=cu
   rw[EZ] at E
   obtain⟨rfl,d8⟩:=cv
   have ad:St bi (Pu (AB a0∧AB a1)::Bx A 51 [.int .i64 a0,.int .i64 a1]::Bx z 4 [.bool bh]::Bx m 97 [.int .i64 b.Pos.Lo,.int .i64 b.Pos.Hi,.int .i64 b.Target,.int .i64 b.Open.Lo,.int .i64 b.Open.Hi]::L81) bj:=cw
   obtain⟨⟨d9,ea⟩,ad⟩:=WK ad
   refine WF.block (WF.seq (WF.rp (.inl O) (QF.mv O O (AA (kp [20,9,8,7,4,3] O) (WF.block (WF.loopF (λn1=>λa w=>∃(c:Int) (i:Int) (j:Int) (t:Bool),IV B bi bj (47,[]) a w [(9,.int .i64 K),(8,.pointer (some ⟨A,0,none⟩)),(7,.pointer (some ⟨z,0,none⟩)),(4,.pointer (some ⟨m,0,none⟩)),(3,q1),(20,.int .i64 c)] (Bx A 51 [.int .i64 i,.int .i64 j]::Bx z 4 [.bool t]::Bx m 97 [.int .i64 b.Pos.Lo,.int .i64 b.Pos.Hi,.int .i64 b.Target,.int .i64 b.Open.Lo,.int .i64 b.Open.Hi]::L81) λ_ _=>AB c∧AB i∧AB j∧B0 N s b K n1 c i j t=some out) N ?_ ?_ ?_))))))
   ·
    intro aa ww hf hw
    exact⟨0,a0,a1,bh,_,_,hf.sub (kp [9,8,7,4,3,20] O),hw,ad,(Bg.refl bi bj),(iq (n:=0) O),d9,ea,E⟩
   ·
    rintro aa ww ⟨_,_,_,_,_,_,_,_,_,_,_,_,_,E⟩
    rw[B0] at E;cases E
   ·
    rintro n1 aa ww ⟨c,i,j,t,U,cx,hf,hw,M,ae,cy,af,ag,E⟩
    refine WF.run ?_ hf hw
    clear hf hw ww aa
    rw[B0] at E
    refine WF.seq (WF.rp (.inl O) (QF.lss O O O (AA (kp [21,9,8,7,4,3,20] O) (WF.seq (WF.if_ O (λah=>?_) (λah=>?_))))))
    ·
     have E:=A7 ah E
     refine WF.skip (WF.seq (WF.blockJ (λa w=>∃(I:Int) (J:Int) (V:Bool),IV B U cx (47,[]) a w [(9,.int .i64 K),(8,.pointer (some ⟨A,0,none⟩)),(7,.pointer (some ⟨z,0,none⟩)),(4,.pointer (some ⟨m,0,none⟩)),(3,q1),(20,.int .i64 c)] (Bx A 51 [.int .i64 I,.int .i64 J]::Bx z 4 [.bool V]::Bx m 97 [.int .i64 b.Pos.Lo,.int .i64 b.Pos.Hi,.int .i64 b.Target,.int .i64 b.Open.Lo,.int .i64 b.Open.Hi]::L81) λ_ _=>AB I∧AB J∧Cu N c (B0 N s b K n1) I J V=some out) ?_ ?_))
     ·
      refine WF.seq (WF.rp (.inl O) (QF.mv O O (QF.as_ O O (AA (kp [10,9,8,7,4,3,20] O) (WF.seq (WF.seq (WF.rc (.inl O) M (QF.fao O HE O (QF.ldo (vs:=[.int .i64 b.Open.Lo,.int .i64 b.Open.Hi]) Ak M O (mt (mt mh)) O O Ad O O (QF.mv O O ?_))))))))))
      obtain⟨ed,bk,E⟩:=bd E
      refine Ab O O O Ni O (λh' o=>Fk (St.all h') (AH.mk (x:=b.Open) ⟨a7,a8⟩) cy bk) (QF.not O O (Aq (kp [27,10,9,8,7,4,3,20] O) λee G W=>WF.if_ O (λai=>?_) (λai=>?_)))
      ·
       have E:=A7 ai E
       refine WF.exit O (λaa ww hf hw=>?_)
       exact⟨i,j,t,_,_,hf.sub (kp [9,8,7,4,3,20] O),hw,G,W,af,ag,E⟩
      ·
       have E:=A8 ai E
       refine WF.skip (WF.seq (WF.rp (.inl O) (QF.as_ O O (AA (kp [11,10,9,8,7,4,3,20] O) (WF.seq (WF.seq (WF.rc (.inl O) G ?_)))))))
       have bl:=cn.trans (d7.trans (ae.trans W))
       have cz:=ck.mono bl
       refine QF.ld Ak G.1 O cz Dk (λe=>by cases e) O λef c0=>QF.mv O O (QF.eql O O O (QF.bld (cs:=[.int .i64 0,.int .i64 0,.bool false,.bool (decide (c=1))]) TG O O O (QF.mv O O ?_)))
       obtain⟨eg,bm,E⟩:=bd E
       refine Ao O O O XE O (λh' o=>Mp (St.all h') (c0.mono (o.all G.1)) (D9.mk (x:=(⟨0,0,false,(decide (c=1))⟩:Be)) ⟨(iq (n:=0) O),(iq (n:=0) O)⟩) d8 bm) λc1=>?_
       obtain⟨eh,ei⟩:=c1
       refine QF.fld O VY O O (Aq (kp [34,11,9,8,7,4,3,20] O) λaj ak a4=>WF.cut (λa w=>∃(X:Int),IV B U aj (47,[]) a w [(9,.int .i64 K),(8,.pointer (some ⟨A,0,none⟩)),(7,.pointer (some ⟨z,0,none⟩)),(4,.pointer (some ⟨m,0,none⟩)),(3,q1),(20,.int .i64 c),(11,.int .i64 X)] (Bx A 51 [.int .i64 i,.int .i64 j]::Bx z 4 [.bool t]::Bx m 97 [.int .i64 b.Pos.Lo,.int .i64 b.Pos.Hi,.int .i64 b.Target,.int .i64 b.Open.Lo,.int .i64 b.Open.Hi]::L81) λ_ _=>AB X∧E8 N i j t (Cu N c (B0 N s b K n1)) X=some out) ?_ ?_)
       ·
        refine WF.if_ O (λam=>?_) (λam=>?_)
        ·
         have E:=A7 am E
         refine WF.rp (.inl O) (QF.as_ O O (AA (kp [11,9,8,7,4,3,20] O) (WF.nil (λaa ww hf hw=>?_))))
         exact⟨1,_,_,hf.sub (kp [9,8,7,4,3,20,11] O),hw,ak,(Bg.refl U aj),(iq (n:=1) O),E⟩
        ·
         have E:=A8 am E
         refine WF.skip (WF.nil (λaa ww hf hw=>?_))
         exact⟨0,_,_,hf.sub (kp [9,8,7,4,3,20,11] O),hw,ak,(Bg.refl U aj),(iq (n:=0) O),E⟩
       ·
        rintro aa ww ⟨X,ej,ek,hf,hw,H,a5,a6,E⟩
        refine WF.run ?_ hf hw
        clear hf hw ww aa
        rw[E8] at E
        refine WF.seq (WF.rp (.inl O) (AI Af H O (mt mh) O LV O (AA (kp [35,9,8,7,4,3,20,11] O) (WF.if_ O (λan=>?_) (λan=>?_)))))
        ·
         have E:=A7 an E
         refine EG 4 mo (by kernel_rfl) O H (QF.ldo (vs:=[.int .i64 i,.int .i64 j]) Ak H O mh O O Ad O O (QF.mv O O ?_))
         obtain⟨c2,bn,E⟩:=bd E
         refine Ao O O O It O (λh' o=>Db (St.all h') a6 bn) λc3=>?_
         obtain⟨c4,c5⟩:=c3
         obtain⟨Z,bo,E⟩:=bd E
         refine Ao O O O UX O (λh' o=>Iy (St.all h') (AH.mk (x:=(⟨i,j⟩:AF)) ⟨af,ag⟩) (AH.mk (x:=c2) ⟨c4,c5⟩) bo) λc6=>?_
         obtain⟨c7,c8⟩:=c6
         refine DX λel bp c9=>Ai (vs:=[.int .i64 Z.Lo,.int .i64 Z.Hi]) O O O O Ad O bp .head O λem bq da=>LF.nil (kp [9,8,7,4,3,20] O) (WF.nil (λaa ww hf hw=>?_))
         have br:=W.trans (a4.trans (a5.trans (c9.trans da)))
         exact⟨Z.Lo,Z.Hi,t,_,_,hf.sub (kp [9,8,7,4,3,20] O),hw,bq,br,c7,c8,E⟩
        ·
         have E:=A8 an E
         refine WF.rl (LF.q 1 (QF.mv O O (AE ?_)))
         obtain⟨ab,bt,E⟩:=bd E
         refine LF.callb O O O It O H (Db (St.all _) a6 bt) λen eo ep bu db eq p=>?_
         obtain⟨rfl,⟨dc,dd⟩,eb⟩:=p
         refine Ai (vs:=[.int .i64 ab.Lo,.int .i64 ab.Hi]) O O O O Ad O bu .head O λer bv de=>Ai (vs:=[.bool true]) O O O O LV O bv (.tail .head) O λes bw df=>LF.nil (kp [9,8,7,4,3,20] O) (WF.nil (λaa ww hf hw=>?_))
         have bx:=W.trans (a4.trans (a5.trans (db.trans (de.trans df))))
         exact⟨ab.Lo,ab.Hi,true,_,_,hf.sub (kp [9,8,7,4,3,20] O),hw,bw,bx,dc,dd,E⟩
     ·
      rintro aa ww ⟨I,J,V,et,eu,hf,hw,bz,dg,dh,di,E⟩
      refine WF.run ?_ hf hw
      clear hf hw ww aa
      rw[Cu] at E
      refine WF.rp (.inl O) (QF.addw O O O (QF.mv O O (AA (kp [20,9,8,7,4,3] O) (WF.nil (λaa ww hf hw=>?_)))))
      exact⟨(A3 (c+1)),I,J,V,_,_,hf.sub (kp [9,8,7,4,3,20] O),hw,bz,(ae.trans dg),(BA _),dh,di,E⟩
    ·
     have E:=A8 ah E
     refine JE O (Ap (WF.nil (λaa ww hf hw=>?_)))
     cases E
     exact⟨O,_,_,hw,ae,(Ry M ⟨af,ag⟩)⟩
  ·
   intro dj ao ap D186 dk d
   have E:=A7 dj E
   have d:St ao (Pu (AB g.2.1∧AB g.2.2.1)::Bx A 51 [.int .i64 g.2.1,.int .i64 g.2.2.1]::Bx z 4 [.bool g.2.2.2]::Bx m 97 [.int .i64 b.Pos.Lo,.int .i64 b.Pos.Hi,.int .i64 b.Target,.int .i64 b.Open.Lo,.int .i64 b.Open.Hi]::Uz (D186::[])::Bx ba 97 [.int .i64 0,.int .i64 0,.int .i64 0,.int .i64 0,.int .i64 0]::L) ap:=d
   obtain⟨⟨dl,dm⟩,d⟩:=WK d
   refine Ap (WF.seq (WF.seq (WF.rp (.inl O) (AI Af d O (mt mh) O LV O (AA (kp [43,8,6,4] O) (WF.cut (λa w=>∃(u:Int) (y:Int),IV B ao ap (47,Me (D186::[])) a w [(6,.pointer (some ⟨ba,0,none⟩)),(4,.pointer (some ⟨m,0,none⟩))] (Bx m 97 [.int .i64 b.Pos.Lo,.int .i64 b.Pos.Hi,.int .i64 b.Target,.int .i64 u,.int .i64 y]::Uz (D186::[])::Bx ba 97 [.int .i64 0,.int .i64 0,.int .i64 0,.int .i64 0,.int .i64 0]::L) λ_ _=>AB u∧AB y∧F2 N b u y=some r) ?_ ?_))))))
   ·
    refine WF.if_ O (λaq=>?_) (λaq=>?_)
    ·
     have E:=A7 aq E
     refine WF.rl (LF.q 2 (QF.ldo (vs:=[.int .i64 g.2.1,.int .i64 g.2.2.1]) Af d O mh O O Ad O O (QF.fao O HE O (AE (G2 (vs:=[.int .i64 g.2.1,.int .i64 g.2.2.1]) (cs':=[.int .i64 b.Pos.Lo,.int .i64 b.Pos.Hi,.int .i64 b.Target,.int .i64 g.2.1,.int .i64 g.2.2.1]) O O O O Ad O d (.tail (.tail .head)) O O λev b0 dn=>LF.nil (kp [6,4] O) (WF.nil (λaa ww hf hw=>?_)))))))
     have b1:=b0.sel [2,2,2] 2 O
     exact⟨g.2.1,g.2.2.1,_,_,hf.sub (kp [6,4] O),hw,b1,dn,dl,dm,E⟩
    ·
     have E:=A8 aq E
     refine WF.skip (WF.nil (λaa ww hf hw=>?_))
     have b2:=d.sel [2,2,2] 2 O
     exact⟨b.Open.Lo,b.Open.Hi,_,_,hf.sub (kp [6,4] O),hw,b2,(Bg.refl ao ap),a7,a8,E⟩
   ·
    rintro aa ww ⟨u,y,ew,ey,hf,hw,ar,dp,dq,dr,E⟩
    refine WF.run ?_ hf hw
    clear hf hw ww aa
    rw[F2] at E
    refine WF.seq (WF.rl (LF.q 1 (QF.ldo (vs:=[.int .i64 b.Pos.Lo,.int .i64 b.Pos.Hi,.int .i64 b.Target,.int .i64 u,.int .i64 y]) Af ar O mh O O GF O O (AE (Ai (vs:=[.int .i64 b.Pos.Lo,.int .i64 b.Pos.Hi,.int .i64 b.Target,.int .i64 u,.int .i64 y]) O O O O GF O ar (.tail (.tail .head)) O λez b3 ds=>LF.nil (kp [6] O) (WF.ret (λaa ww hf hw=>?_)))))))
    have b4:=b3.sel [1,1] 1 O
    have b5:=e5.trans (ay.trans (a9.trans (az.trans (be.trans (bf.trans (bg.trans (cn.trans (dk.trans (dp.trans ds)))))))))
    refine X9 (vs:=[.agg #[.int .i64 b.Pos.Lo,.int .i64 b.Pos.Hi,.int .i64 b.Target,.int .i64 u,.int .i64 y]]) hf O hw b4 O b5 λw9 e0 bc au e2=>?_
    have b6:=au.drop .head
    cases E
    exact⟨(Gr (MA hf bc au O mh GF O) HY),⟨O,⟨r9,b7,b8,dq,dr⟩,b6⟩⟩
  ·
   intro dt e3 e4 D217 e6 ec
   have E:=A8 dt E
   cases E
theorem JN {k:Nat}{p0_w:Ah}{p:Value}{s:Value}{m:Value}{t:Value}{u:Value}{y:Value}{z:Value}{A:Value}{c:Value}{C:Value}{g:Value}{d:Value}(hs:St S (Bx k 106 [.string p0_w.b.Name,p,.int .i64 p0_w.b.Cells,s,m,t,u,y,z,A,.int .i64 p0_w.b.Err,.int .i64 p0_w.h.Hour,c,C,g,d]::OS AH 51 c p0_w.h.Vol::OS Aa 97 g p0_w.h.Links::OS AH 51 d p0_w.peaks::L) h) (d2:p0_w.b.Name.size≤maxLen) (d3:Sl S h AW.str p p0_w.b.Owners) (d4:AB p0_w.b.Cells) (d5:Sl S h BF s p0_w.b.Places) (a3:Sl S h A9 m p0_w.b.Links) (d6:Sl S h E7 t p0_w.b.Towns) (d7:Sl S h De u p0_w.b.Gauges) (d8:Sl S h Ex y p0_w.b.Roads) (d9:Sl S h Cd z p0_w.b.Shelters) (ea:Sl S h AW.int A p0_w.b.Room) (cb:AB p0_w.b.Err) (cc:AB p0_w.h.Hour) (an:Sl S h BO C p0_w.h.Queue) {J:Value}{Q:(List AF)}(M:Sl S h AH J Q) {r:(List A4)×(List AS)×(List AF)}(E:EQ N p0_w Q=some r):
 Bh Tryz.prog 51 #[.pointer (some ⟨k,0,none⟩),J] S h (λv S' h'=>∃w_0_13 w_0_14 w_0_15:Value,v= .tuple #[]∧St S' (Bx k 106 [.string p0_w.b.Name,p,.int .i64 p0_w.b.Cells,s,m,t,u,y,z,A,.int .i64 p0_w.b.Err,.int .i64 p0_w.h.Hour,c,w_0_13,w_0_14,w_0_15]::OS AH 51 c p0_w.h.Vol::OS BO 93 w_0_13 r.1::OS Aa 97 w_0_14 r.2.1::OS AH 51 w_0_15 r.2.2::L) h'):=by
 refine Ag (l:=[.pointer (some ⟨k,0,none⟩),J]) 162 Tryz.func51 O Tryz.ntmps51 O λB=>?_
 rw[EQ] at E
 refine WF.seq (WF.seq (WF.rp (.inl O) (QF.mv O O (Dy O O (QF.fao O D1 O (QF.fao O FV O (AI Af hs O mh O FH O (QF.leno hs (mt mh) O DY O λb1=>QF.mv O O (AA (kp [19,18,17,0,1] O) (WF.blockJ (λa w=>∃(l2:List AF),IV B S h (162,[]) a w [(0,.pointer (some ⟨k,0,none⟩))] (Bx k 106 [.string p0_w.b.Name,p,.int .i64 p0_w.b.Cells,s,m,t,u,y,z,A,.int .i64 p0_w.b.Err,.int .i64 p0_w.h.Hour,c,C,g,d]::OS AH 51 c p0_w.h.Vol::OS Aa 97 g p0_w.h.Links::OS AH 51 d l2::L) λ_ _=>Av N p0_w l2=some r) ?_ ?_))))))))))
 ·
  refine WF.loopF (λn1=>λa w=>∃(i6:Int) (l8:List AF),IV B S h (162,[]) a w [(18,.int .i64 (↑p0_w.h.Vol.length:Int)),(17,c),(0,.pointer (some ⟨k,0,none⟩)),(1,J),(19,.int .i64 i6)] (Bx k 106 [.string p0_w.b.Name,p,.int .i64 p0_w.b.Cells,s,m,t,u,y,z,A,.int .i64 p0_w.b.Err,.int .i64 p0_w.h.Hour,c,C,g,d]::OS AH 51 c p0_w.h.Vol::OS Aa 97 g p0_w.h.Links::OS AH 51 d l8::L) λ_ _=>AB i6∧Am N p0_w Q (Av N p0_w) n1 i6 l8=some r) N ?_ ?_ ?_
  ·
   intro aa ww hf hw
   exact⟨0,p0_w.peaks,_,_,hf.sub (kp [18,17,0,1,19] O),hw,hs,(Bg.refl S h),(iq (n:=0) O),E⟩
  ·
   rintro aa ww ⟨_,_,_,_,_,_,_,_,_,E⟩
   rw[Am] at E;cases E
  ·
   rintro n1 aa ww ⟨i6,l8,S9,js,hf,hw,aw,a4,r7,E⟩
   refine WF.run ?_ hf hw
   clear hf hw ww aa
   rw[Am] at E
   refine WF.seq (WF.rp (.inl O) (QF.lss O O O (AA (kp [20,18,17,0,1,19] O) (WF.seq (WF.if_ O (λcd=>?_) (λcd=>?_))))))
   ·
    have E:=A7 cd E
    refine WF.skip (WF.seq (WF.block (WF.seq (WF.rl (LF.q 3 (QF.mv O O ?_))))))
    obtain⟨jt,eb,E⟩:=bd E
    refine QF.ixoe aw (mt mh) O O DY eb O λju ec=>?_
    obtain⟨ao,ed,E⟩:=bd E
    have ha:=aw.epAt (mt mh) ed ED.id ec
    refine QF.ld Af (λ_ x=>x) O ha Ad (λe=>by cases e) O λjv hb=>AE (LF.al EH O aw λee jw ef a5=>LF.q 1 (QF.as_ O O (AE ?_)))
    have hc:=hb.mono a5
    obtain⟨rfl,⟨eg,eh⟩⟩:=AH.ex hc
    refine Ai (vs:=[.int .i64 ao.Lo,.int .i64 ao.Hi]) O O O O Ad O ef .head O λjx ax a6=>LF.nil (kp [4,5,18,17,0,1,19] O) (WF.seq (WF.seq (WF.rc (.inl O) ax (QF.mv O O (QF.mv O O ?_)))))
    have ei:=a4.trans (a5.trans a6)
    have hd:=M.mono' ei
    refine QF.len O hd DY O λjy=>QF.lss O O O (QF.mv O O ?_)
    obtain⟨ej,U,E⟩:=bd E
    refine QF.cutv 6 34 (.bool ej) ?_ ?_
    ·
     cases ek:(decide (i6<(↑Q.length:Int)))
     ·
      have U:=A8 ek U
      cases U
      exact AL O O
     ·
      have U:=A7 ek U
      refine QF.gy O O O (QF.mv O O (QF.gy O O O (QF.mv O O (QF.gy O O O ?_))))
      have el:=a4.trans (a5.trans a6)
      have he:=M.mono' el
      obtain⟨jz,em,U⟩:=bd U
      refine QF.ixe O O he DY em O λj0 hg=>QF.gy O O O (QF.ld Ak ax.1 O hg Ad (λe=>by cases e) O λj1 hh=>QF.gy O O O ?_)
      obtain⟨j2,en,U⟩:=bd U
      refine Ab O O O Nk O (λh' o=>Eo (St.all h') (hh.mono (o.all ax.1)) en) (QF.pick O O O ?_)
      cases U
      exact AJ O
    refine QF.mv O O ?_
    obtain⟨hi,W,E⟩:=bd E
    refine QF.cutv 7 42 (.bool hi) ?_ ?_
    ·
     cases eo:ej
     ·
      have W:=A8 eo W
      cases W
      exact AL O O
     ·
      have W:=A7 eo W
      refine QF.gy O O O (QF.mv O O (QF.gy O O O (QF.mv O O (QF.gy O O O ?_))))
      have ep:=a4.trans (a5.trans a6)
      have hj:=M.mono' ep
      obtain⟨j3,eq,W⟩:=bd W
      refine QF.ixe O O hj DY eq O λj4 hk=>QF.gy O O O (QF.fa O hk AF.f_Lo DD O λj5 hl=>QF.gy O O O (QF.ldi Ak ax.1 O hl AM O λj6=>QF.gy O O O (QF.geq O O O (QF.pick O O O ?_))))
      cases W
      exact AJ O
    refine Aq (kp [42,4,5,18,17,0,1,19] O) λer ai es=>WF.cut (λa w=>∃(ap:Int) (aq:Int),IV B S9 er (162,[]) a w [(4,.int .i64 i6),(5,.pointer (some ⟨ee,0,none⟩)),(18,.int .i64 (↑p0_w.h.Vol.length:Int)),(17,c),(0,.pointer (some ⟨k,0,none⟩)),(1,J),(19,.int .i64 i6)] (Bx ee 51 [.int .i64 ap,.int .i64 aq]::Bx k 106 [.string p0_w.b.Name,p,.int .i64 p0_w.b.Cells,s,m,t,u,y,z,A,.int .i64 p0_w.b.Err,.int .i64 p0_w.h.Hour,c,C,g,d]::OS AH 51 c p0_w.h.Vol::OS Aa 97 g p0_w.h.Links::OS AH 51 d l8::L) λ_ _=>AB ap∧AB aq∧C9 N i6 l8 (Am N p0_w Q (Av N p0_w) n1) ap aq=some r) ?_ ?_
    ·
     refine WF.if_ O (λce=>?_) (λce=>?_)
     ·
      have E:=A7 ce E
      refine EG 6 mo (by kernel_rfl) O ai (QF.ldo (vs:=[.int .i64 ao.Lo,.int .i64 ao.Hi]) Ak ai O mh O O Ad O O (QF.mv O O (QF.mv O O ?_)))
      have et:=a4.trans (a5.trans (a6.trans es))
      have hm:=M.mono' et
      obtain⟨j7,eu,E⟩:=bd E
      refine QF.ixe O O hm DY eu O λj8 hn=>QF.ld Ak ai.1 O hn Ad (λe=>by cases e) O λj9 ho=>?_
      obtain⟨bp,ev,E⟩:=bd E
      refine Ao O O O Qm O (λh' o=>JK (St.all h') (AH.mk (x:=ao) ⟨eg,eh⟩) (ho.mono (o.all ai.1)) ev) λhp=>?_
      obtain⟨hq,hr⟩:=hp
      refine DX λka ew ht=>Ai (vs:=[.int .i64 bp.Lo,.int .i64 bp.Hi]) O O O O Ad O ew .head O λkb ey hu=>LF.nil (kp [4,5,18,17,0,1,19] O) (WF.nil (λaa ww hf hw=>?_))
      exact⟨bp.Lo,bp.Hi,_,_,hf.sub (kp [4,5,18,17,0,1,19] O),hw,ey,(ht.trans hu),hq,hr,E⟩
     ·
      have E:=A8 ce E
      refine WF.skip (WF.nil (λaa ww hf hw=>?_))
      exact⟨ao.Lo,ao.Hi,_,_,hf.sub (kp [4,5,18,17,0,1,19] O),hw,ai,(Bg.refl S9 er),eg,eh,E⟩
    ·
     rintro aa ww ⟨ap,aq,kc,kd,hf,hw,ay,hv,hx,hy,E⟩
     refine WF.run ?_ hf hw
     clear hf hw ww aa
     rw[C9] at E
     refine No 7 mo (by kernel_rfl) O (QF.mv O O (Dy O O (QF.fao O FY O (AI Af ay O (mt mh) O FH O (QF.mv O O (QF.ldo (vs:=[.int .i64 ap,.int .i64 aq]) Af ay O mh O O Ad O O ?_))))))
     obtain⟨ke,ez,E⟩:=bd E
     refine QF.ixoe ay (mt (mt (mt (mt mh)))) O O DY ez O λkf e0=>AE ?_
     obtain⟨hz,e1,E⟩:=bd E
     refine LF.ste (r:=AH) (l:=l8) (i:=i6) (x:=hz) O O (AH.mk (x:=(⟨ap,aq⟩:AF)) ⟨hx,hy⟩) e0 e1 L0.id Ad (λe=>by cases e) ay (.tail (.tail (.tail (.tail .head)))) λkg e2 h0=>LF.nil (kp [18,17,0,1,19] O) (Ap (WF.rp (.inl O) (QF.addw O O O (QF.mv O O (AA (kp [19,18,17,0,1] O) (WF.nil (λaa ww hf hw=>?_)))))))
     have e3:=e2.sel [1,1,1,1] 1 O
     have e4:=a4.trans (a5.trans (a6.trans (es.trans (hv.trans h0))))
     exact⟨(A3 (i6+1)),(upd l8 i6 (⟨ap,aq⟩:AF)),_,_,hf.sub (kp [18,17,0,1,19] O),hw,e3,e4,(BA _),E⟩
   ·
    have E:=A8 cd E
    refine WF.exit O (λaa ww hf hw=>?_)
    exact⟨l8,_,_,hf.sub (kp [0] O),hw,aw,a4,E⟩
 ·
  rintro aa ww ⟨l2,cf,cg,hf,hw,bq,ch,E⟩
  refine WF.run ?_ hf hw
  clear hf hw ww aa
  rw[Av] at E
  refine WF.seq (WF.rp (.inl O) (QF.as_ O O (AA (kp [6,0] O) (WF.seq (WF.seq (WF.rp (.inl O) (QF.mv O O (Dy O O (QF.fao O D1 O (QF.fao O Gt O (AI Af bq O mh O Jf O ?_)))))))))))
  have e5:=an.mono' ch
  refine QF.len O e5 EU O λkh=>QF.mv O O (AA (kp [63,62,61,6,0] O) (WF.blockJ (λa w=>∃(a7:Value) (F:List A4) (ad:List AF),IV B cf cg (162,[]) a w [(0,.pointer (some ⟨k,0,none⟩)),(6,a7)] (OS BO 93 a7 F::Bx k 106 [.string p0_w.b.Name,p,.int .i64 p0_w.b.Cells,s,m,t,u,y,z,A,.int .i64 p0_w.b.Err,.int .i64 p0_w.h.Hour,c,C,g,d]::OS AH 51 c p0_w.h.Vol::OS Aa 97 g p0_w.h.Links::OS AH 51 d ad::L) λ_ _=>Bd N p0_w F ad=some r) ?_ ?_))
  ·
   refine WF.loopF (λn4=>λa w=>∃(aj:Value) (X:List A4) (Y:Int) (Z:List AF),IV B cf cg (162,[]) a w [(62,.int .i64 (↑p0_w.h.Queue.length:Int)),(61,C),(0,.pointer (some ⟨k,0,none⟩)),(6,aj),(63,.int .i64 Y)] (OS BO 93 aj X::Bx k 106 [.string p0_w.b.Name,p,.int .i64 p0_w.b.Cells,s,m,t,u,y,z,A,.int .i64 p0_w.b.Err,.int .i64 p0_w.h.Hour,c,C,g,d]::OS AH 51 c p0_w.h.Vol::OS Aa 97 g p0_w.h.Links::OS AH 51 d Z::L) λ_ _=>AB Y∧BT N p0_w (Bd N p0_w) n4 X Y Z=some r) N ?_ ?_ ?_
   ·
    intro aa ww hf hw
    have ci:=bq.nil BO 93
    exact⟨(.slice none 0 0),([]),0,l2,_,_,hf.sub (kp [62,61,0,6,63] O),hw,ci,(Bg.refl cf cg),(iq (n:=0) O),E⟩
   ·
    rintro aa ww ⟨_,_,_,_,_,_,_,_,_,_,_,E⟩
    rw[BT] at E;cases E
   ·
    rintro n4 aa ww ⟨aj,X,Y,Z,e6,e7,hf,hw,ar,a8,h1,E⟩
    refine WF.run ?_ hf hw
    clear hf hw ww aa
    rw[BT] at E
    refine WF.seq (WF.rp (.inl O) (QF.lss O O O (AA (kp [64,62,61,0,6,63] O) (WF.seq (WF.if_ O (λa9=>?_) (λa9=>?_))))))
    ·
     have E:=A7 a9 E
     refine WF.skip (WF.seq (WF.blockJ (λa w=>∃(az:Value) (a0:List A4) (a1:List AF),IV B e6 e7 (162,[]) a w [(62,.int .i64 (↑p0_w.h.Queue.length:Int)),(61,C),(0,.pointer (some ⟨k,0,none⟩)),(63,.int .i64 Y),(6,az)] (OS BO 93 az a0::Bx k 106 [.string p0_w.b.Name,p,.int .i64 p0_w.b.Cells,s,m,t,u,y,z,A,.int .i64 p0_w.b.Err,.int .i64 p0_w.h.Hour,c,C,g,d]::OS AH 51 c p0_w.h.Vol::OS Aa 97 g p0_w.h.Links::OS AH 51 d a1::L) λ_ _=>Du N Y (BT N p0_w (Bd N p0_w) n4) a0 a1=some r) ?_ ?_))
     ·
      refine WF.seq (WF.rl (LF.q 2 ?_))
      have e8:=e5.mono' a8
      obtain⟨G,cj,E⟩:=bd E
      refine QF.ixe O O e8 EU cj O λh2 e9=>QF.ld Af ar.1 O e9 IM (λe=>by cases e) O λh3 fb=>AE (LF.al Qw O ar λh4 h5 ck ba=>?_)
      have fc:=fb.mono ba
      obtain⟨rfl,⟨fd,fe,br,bt⟩⟩:=BO.ex fc
      refine Ai (vs:=[.int .i64 G.At,.int .i64 G.To,.int .i64 G.Vol.Lo,.int .i64 G.Vol.Hi]) O O O O IM O ck .head O λh6 H bu=>LF.nil (kp [8,62,61,0,6,63] O) (WF.seq (WF.rp (.inr ⟨mo,by kernel_rfl⟩) (QF.fao O Lr O (AI Af H O mh O AM O (QF.mv O O (Dy O O (QF.fao O D1 O (QF.fao O Gu O (AI Af H O (mt (mt mh)) O AM O (QF.leq O O O (AA (kp [74,8,62,61,0,6,63] O) (WF.if_ O (λbb=>?_) (λbb=>?_)))))))))))))
      ·
       have E:=A7 bb E
       refine EG 18 mo (by kernel_rfl) O H (QF.mv O O (Dy O O (QF.fao O FY O (AI Ak H O (mt (mt mh)) O FH O (QF.fao O Kn O (AI Ak H O mh O AM O (QF.mv O O (Dy O O (QF.fao O FY O (AI Ak H O (mt (mt mh)) O FH O (QF.fao O Kn O (AI Ak H O mh O AM O ?_))))))))))))
       obtain⟨h7,cl,E⟩:=bd E
       refine QF.ixoe H (mt (mt (mt (mt (mt mh))))) O O DY cl O λh8 cm=>?_
       obtain⟨h9,cn,E⟩:=bd E
       have ff:=H.epAt (mt (mt (mt (mt (mt mh))))) cn ED.id cm
       refine QF.ld Ak (λ_ x=>x) O ff Ad (λe=>by cases e) O λia fg=>QF.fao O Io O (QF.ldo (vs:=[.int .i64 G.Vol.Lo,.int .i64 G.Vol.Hi]) Ak H O mh O O Ad O O ?_)
       obtain⟨bv,co,E⟩:=bd E
       refine Ao O O O Qm O (λh' o=>JK (St.all h') (fg.mono (o.all H.1)) (AH.mk (x:=G.Vol) ⟨br,bt⟩) co) λfh=>?_
       obtain⟨fi,fj⟩:=fh
       obtain⟨ib,cp,E⟩:=bd E
       refine QF.ixoe H (mt (mt (mt (mt (mt mh))))) O O DY cp O λic cq=>DX λie cr fk=>?_
       obtain⟨fl,ct,E⟩:=bd E
       refine LF.ste (r:=AH) (l:=Z) (i:=G.To) (x:=fl) O O (AH.mk (x:=bv) ⟨fi,fj⟩) cq ct L0.id Ad (λe=>by cases e) cr (.tail (.tail (.tail (.tail (.tail .head))))) λig cu fm=>LF.nil (kp [62,61,0,6,63] O) (WF.nil (λaa ww hf hw=>?_))
       have cv:=cu.sel [1,1,1,1,1] 1 O
       have cw:=ba.trans (bu.trans (fk.trans fm))
       exact⟨aj,X,(upd Z G.To bv),_,_,hf.sub (kp [62,61,0,63,6] O),hw,cv,cw,E⟩
      ·
       have E:=A8 bb E
       refine WF.rl (LF.q 2 (QF.mv O O (QF.ldo (vs:=[.int .i64 G.At,.int .i64 G.To,.int .i64 G.Vol.Lo,.int .i64 G.Vol.Hi]) Af H O mh O O IM O O (AE (GY (cs:=[.int .i64 G.At,.int .i64 G.To,.int .i64 G.Vol.Lo,.int .i64 G.Vol.Hi]) P4 O O O O O O O H λih ii cx fn=>?_)))))
       obtain⟨cy,E⟩:=O1 E
       refine LF.app2 (r:=BO) (l:=X) (xs:=([G]:List A4)) O O P4 O mh ⟨_,_,O,⟨O,⟨fd,fe,br,bt⟩⟩,O⟩ O O cy O cx (λ_=>(.tail (.tail .head))) λfo ij cz fp=>?_
       have c0:=cz.drop .head
       refine LF.q 1 (QF.as_ O O (AE (LF.nil (kp [6,62,61,0,63] O) (WF.nil (λaa ww hf hw=>?_)))))
       have c1:=c0.sel [1,1,1,1,1] 1 O
       have c2:=ba.trans (bu.trans (fn.trans fp))
       exact⟨fo,(X++([G]:List A4)),Z,_,_,hf.sub (kp [62,61,0,63,6] O),hw,c1,c2,E⟩
     ·
      rintro aa ww ⟨az,a0,a1,ik,il,hf,hw,c3,fq,E⟩
      refine WF.run ?_ hf hw
      clear hf hw ww aa
      rw[Du] at E
      refine WF.rp (.inl O) (QF.addw O O O (QF.mv O O (AA (kp [63,62,61,0,6] O) (WF.nil (λaa ww hf hw=>?_)))))
      exact⟨az,a0,(A3 (Y+1)),a1,_,_,hf.sub (kp [62,61,0,6,63] O),hw,c3,(a8.trans fq),(BA _),E⟩
    ·
     have E:=A8 a9 E
     refine WF.exit O (λaa ww hf hw=>?_)
     exact⟨aj,X,Z,_,_,hf.sub (kp [0,6] O),hw,ar,a8,E⟩
  ·
   rintro aa ww ⟨a7,F,ad,bc,im,hf,hw,be,bw,E⟩
   refine WF.run ?_ hf hw
   clear hf hw ww aa
   rw[Bd] at E
   refine WF.seq (WF.rl (LF.q 5 (QF.mv O O (QF.mv O O (Dy O O (QF.fao O D1 O (QF.fao O Gt O (AE ?_))))))))
   obtain⟨K,I,rfl,io⟩:=be.oslen mh
   refine G2 (vs:=[(.slice K F.length I)]) (cs':=[.string p0_w.b.Name,p,.int .i64 p0_w.b.Cells,s,m,t,u,y,z,A,.int .i64 p0_w.b.Err,.int .i64 p0_w.h.Hour,c,(.slice K F.length I),g,d]) O O O O Jf O be (.tail .head) O O λbf au bx=>LF.nil (kp [0] O) (WF.seq (WF.seq (WF.rp (.inl O) (QF.mv O O (Dy O O (QF.fao O FY O (AI Af au O (mt mh) O FH O (QF.leno au (mt (mt (mt (mt mh)))) O DY O λip=>QF.mv O O (AA (kp [108,107,106,0] O) (WF.blockJ (λa w=>∃(ab:List AF),IV B bc bf (162,[]) a w [(0,.pointer (some ⟨k,0,none⟩))] (OS BO 93 (.slice K F.length I) F::Bx k 106 [.string p0_w.b.Name,p,.int .i64 p0_w.b.Cells,s,m,t,u,y,z,A,.int .i64 p0_w.b.Err,.int .i64 p0_w.h.Hour,c,(.slice K F.length I),g,d]::OS AH 51 c p0_w.h.Vol::OS Aa 97 g p0_w.h.Links::OS AH 51 d ab::L) λ_ _=>Bm N p0_w F ab=some r) ?_ ?_))))))))))
   ·
    refine WF.loopF (λn7=>λa w=>∃(ac:Int) (ae:List AF),IV B bc bf (162,[]) a w [(107,.int .i64 (↑ad.length:Int)),(106,d),(0,.pointer (some ⟨k,0,none⟩)),(108,.int .i64 ac)] (OS BO 93 (.slice K F.length I) F::Bx k 106 [.string p0_w.b.Name,p,.int .i64 p0_w.b.Cells,s,m,t,u,y,z,A,.int .i64 p0_w.b.Err,.int .i64 p0_w.h.Hour,c,(.slice K F.length I),g,d]::OS AH 51 c p0_w.h.Vol::OS Aa 97 g p0_w.h.Links::OS AH 51 d ae::L) λ_ _=>AB ac∧Bl N ad (Bm N p0_w F) n7 ac ae=some r) N ?_ ?_ ?_
    ·
     intro aa ww hf hw
     exact⟨0,ad,_,_,hf.sub (kp [107,106,0,108] O),hw,au,(Bg.refl bc bf),(iq (n:=0) O),E⟩
    ·
     rintro aa ww ⟨_,_,_,_,_,_,_,_,_,E⟩
     rw[Bl] at E;cases E
    ·
     rintro n7 aa ww ⟨ac,ae,ir,it,hf,hw,ag,bz,iu,E⟩
     refine WF.run ?_ hf hw
     clear hf hw ww aa
     rw[Bl] at E
     refine WF.seq (WF.rp (.inl O) (QF.lss O O O (AA (kp [109,107,106,0,108] O) (WF.seq (WF.if_ O (λbg=>?_) (λbg=>?_))))))
     ·
      have E:=A7 bg E
      refine WF.skip (WF.seq (WF.block (WF.seq (WF.rl (LF.q 3 (QF.mv O O ?_))))))
      obtain⟨iv,c4,E⟩:=bd E
      refine QF.ixoe ag (mt (mt (mt (mt mh)))) O O DY c4 O λiw c5=>?_
      obtain⟨ak,c6,E⟩:=bd E
      have fr:=ag.epAt (mt (mt (mt (mt mh)))) c6 ED.id c5
      refine QF.ld Af (λ_ x=>x) O fr Ad (λe=>by cases e) O λiy fs=>AE (LF.al EH O ag λiz i0 c7 b0=>LF.q 1 (QF.as_ O O (AE ?_)))
      have ft:=fs.mono b0
      obtain⟨rfl,⟨fu,fv⟩⟩:=AH.ex ft
      refine Ai (vs:=[.int .i64 ak.Lo,.int .i64 ak.Hi]) O O O O Ad O c7 .head O λi1 ah fw=>LF.nil (kp [9,10,107,106,0,108] O) (EG 8 mo (by kernel_rfl) O ah (QF.mv O O (Dy O O (QF.fao O FY O (AI Ak ah O (mt (mt mh)) O FH O (QF.mv O O (QF.ldo (vs:=[.int .i64 ak.Lo,.int .i64 ak.Hi]) Ak ah O mh O O Ad O O ?_)))))))
      obtain⟨b2,c8,E⟩:=bd E
      refine Ao O O O Ql O (λh' o=>Ha (St.all h') (AH.mk (x:=ak) ⟨fu,fv⟩) c8) λfx=>?_
      obtain⟨fy,fz⟩:=fx
      obtain⟨i2,c9,E⟩:=bd E
      refine QF.ixoe ah (mt (mt (mt (mt (mt mh))))) O O DY c9 O λi3 da=>DX λi4 db f0=>?_
      obtain⟨f1,dc,E⟩:=bd E
      refine LF.ste (r:=AH) (l:=ae) (i:=ac) (x:=f1) O O (AH.mk (x:=b2) ⟨fy,fz⟩) da dc L0.id Ad (λe=>by cases e) db (.tail (.tail (.tail (.tail (.tail .head))))) λi5 dd f2=>LF.nil (kp [107,106,0,108] O) (Ap (WF.rp (.inl O) (QF.addw O O O (QF.mv O O (AA (kp [108,107,106,0] O) (WF.nil (λaa ww hf hw=>?_)))))))
      have de:=dd.sel [1,1,1,1,1] 1 O
      have df:=bz.trans (b0.trans (fw.trans (f0.trans f2)))
      exact⟨(A3 (ac+1)),(upd ae ac b2),_,_,hf.sub (kp [107,106,0,108] O),hw,de,df,(BA _),E⟩
     ·
      have E:=A8 bg E
      refine WF.exit O (λaa ww hf hw=>?_)
      exact⟨ae,_,_,hf.sub (kp [0] O),hw,ag,bz,E⟩
   ·
    rintro aa ww ⟨ab,b3,b4,hf,hw,bh,b5,E⟩
    refine WF.run ?_ hf hw
    clear hf hw ww aa
    rw[Bm] at E
    refine WF.seq (WF.rp (.inl O) (QF.mv O O (Dy O O (QF.fao O FZ O (QF.fao O Ez O (AI Af bh O (mt mh) O HT O ?_))))))
    have dg:=ch.trans (bw.trans (bx.trans b5))
    have b6:=a3.mono' dg
    refine QF.len O b6 Fx O λi7=>QF.mv O O (AA (kp [128,127,126,0] O) (WF.block (WF.loopF (λn8=>λa w=>∃(V:Int) (af:List AS),IV B b3 b4 (162,[]) a w [(127,.int .i64 (↑p0_w.b.Links.length:Int)),(126,m),(0,.pointer (some ⟨k,0,none⟩)),(128,.int .i64 V)] (OS BO 93 (.slice K F.length I) F::Bx k 106 [.string p0_w.b.Name,p,.int .i64 p0_w.b.Cells,s,m,t,u,y,z,A,.int .i64 p0_w.b.Err,.int .i64 p0_w.h.Hour,c,(.slice K F.length I),g,d]::OS AH 51 c p0_w.h.Vol::OS Aa 97 g af::OS AH 51 d ab::L) λ_ _=>AB V∧Bc N p0_w F ab n8 V af=some r) N ?_ ?_ ?_)))
    ·
     intro aa ww hf hw
     exact⟨0,p0_w.h.Links,_,_,hf.sub (kp [127,126,0,128] O),hw,bh,(Bg.refl b3 b4),(iq (n:=0) O),E⟩
    ·
     rintro aa ww ⟨_,_,_,_,_,_,_,_,_,E⟩
     rw[Bc] at E;cases E
    ·
     rintro n8 aa ww ⟨V,af,f3,f4,hf,hw,av,bi,i8,E⟩
     refine WF.run ?_ hf hw
     clear hf hw ww aa
     rw[Bc] at E
     refine WF.seq (WF.rp (.inl O) (QF.lss O O O (AA (kp [129,127,126,0,128] O) (WF.seq (WF.if_ O (λbj=>?_) (λbj=>?_))))))
     ·
      have E:=A7 bj E
      refine WF.skip (WF.seq (WF.blockJ (λa w=>∃(a2:List AS),IV B f3 f4 (162,[]) a w [(127,.int .i64 (↑p0_w.b.Links.length:Int)),(126,m),(0,.pointer (some ⟨k,0,none⟩)),(128,.int .i64 V)] (OS BO 93 (.slice K F.length I) F::Bx k 106 [.string p0_w.b.Name,p,.int .i64 p0_w.b.Cells,s,m,t,u,y,z,A,.int .i64 p0_w.b.Err,.int .i64 p0_w.h.Hour,c,(.slice K F.length I),g,d]::OS AH 51 c p0_w.h.Vol::OS Aa 97 g a2::OS AH 51 d ab::L) λ_ _=>Dt N V (Bc N p0_w F ab n8) a2=some r) ?_ ?_))
      ·
       refine WF.seq (WF.rl (LF.q 3 (QF.mv O O ?_)))
       have f5:=b6.mono' bi
       obtain⟨j,dh,E⟩:=bd E
       refine QF.ixe O O f5 Fx dh O λi9 f6=>QF.ld Af av.1 O f6 Dk (λe=>by cases e) O λja f7=>AE (LF.al LE O av λjb jc di bk=>LF.q 1 (QF.as_ O O (AE ?_)))
       have f8:=f7.mono bk
       obtain⟨bl,bm,bn,rfl,f9,ga,gb,gc,b7,b8,b9,ge,gf,gg,gh,gi,gj,gk,gl,gm,gp,gq⟩:=A9.ex f8
       refine LF.st (vs:=[.string j.Name,.int .i64 j.Kind,.int .i64 j.From,.int .i64 j.To,bl,bm,bn,.int .i64 j.Positions,.int .i64 j.Speed,.int .i64 j.Leak,.int .i64 j.Crest,.int .i64 j.Num,.int .i64 j.Den,.int .i64 j.Prime,.int .i64 j.Break,.int .i64 j.BackNum,.int .i64 j.BackDen,.int .i64 j.Delay]) (cs':=[.string j.Name,.int .i64 j.Kind,.int .i64 j.From,.int .i64 j.To,bl,bm,bn,.int .i64 j.Positions,.int .i64 j.Speed,.int .i64 j.Leak,.int .i64 j.Crest,.int .i64 j.Num,.int .i64 j.Den,.int .i64 j.Prime,.int .i64 j.Break,.int .i64 j.BackNum,.int .i64 j.BackDen,.int .i64 j.Delay]) O O O (AD O (AD O (AD O (AD O (AD b7.one (AD b8.one (AD b9.one (AD O (AD O (AD O (AD O (AD O (AD O (AD O (AD O (AD O (AD O (AD O EI)))))))))))))))))) Dk O di .head O O λjd D am=>LF.nil (kp [11,12,127,126,0,128] O) (WF.seq (WF.rp (.inl O) (QF.fao O Di O (AI Af D O mh O AM O (QF.eql O O O (AA (kp [135,11,12,127,126,0,128] O) (WF.if_ O (λbo=>?_) (λbo=>?_))))))))
       ·
        have E:=A7 bo E
        refine EG 25 mo (by kernel_rfl) O D (QF.mv O O (Dy O O (QF.fao O D1 O (QF.fao O FJ O (AI Ak D O (mt (mt mh)) O Hp O (QF.mv O O (QF.ldo (vs:=[.string j.Name,.int .i64 j.Kind,.int .i64 j.From,.int .i64 j.To,bl,bm,bn,.int .i64 j.Positions,.int .i64 j.Speed,.int .i64 j.Leak,.int .i64 j.Crest,.int .i64 j.Num,.int .i64 j.Den,.int .i64 j.Prime,.int .i64 j.Break,.int .i64 j.BackNum,.int .i64 j.BackDen,.int .i64 j.Delay]) Ak D O mh O O Dk O O (QF.mv O O (Dy O O (QF.fao O D1 O (QF.fao O FJ O (AI Ak D O (mt (mt mh)) O Hp O (QF.mv O O ?_)))))))))))))
        obtain⟨je,dj,E⟩:=bd E
        refine QF.ixoe D (mt (mt (mt (mt mh)))) O O IN dj O λjf dk=>?_
        obtain⟨jg,dl,E⟩:=bd E
        have gr:=D.epAt (mt (mt (mt (mt mh)))) dl ED.id dk
        refine QF.ld Ak (λ_ x=>x) O gr GF (λe=>by cases e) O λjh gs=>QF.mv O O (Dy O O (QF.fao O FY O (AI Ak D O (mt (mt mh)) O FH O (QF.fao O GP O (AI Ak D O mh O AM O ?_)))))
        obtain⟨ji,dm,E⟩:=bd E
        refine QF.ixoe D (mt (mt (mt (mt (mt mh))))) O O DY dm O λjj dn=>?_
        obtain⟨jk,dp,E⟩:=bd E
        have gu:=D.epAt (mt (mt (mt (mt (mt mh))))) dp ED.id dn
        refine QF.ld Ak (λ_ x=>x) O gu Ad (λe=>by cases e) O λjl gv=>?_
        have gw:=b7.mono' am
        have gx:=b8.mono' am
        have gz:=b9.mono' am
        obtain⟨ca,dq,E⟩:=bd E
        refine Ao O O O XR O (λh' o=>NH (St.all h') (A9.mk (x:=j) f9 ga gb gc (gw.mono' (o.all D.1)) (gx.mono' (o.all D.1)) (gz.mono' (o.all D.1)) ge gf gg gh gi gj gk gl gm gp gq) (gs.mono (o.all D.1)) (gv.mono (o.all D.1)) dq) λg0=>?_
        obtain⟨g1,g2,g3,g4,g5⟩:=g0
        obtain⟨jm,dr,E⟩:=bd E
        refine QF.ixoe D (mt (mt (mt (mt mh)))) O O IN dr O λjn ds=>DX λjo dt g6=>?_
        obtain⟨g7,du,E⟩:=bd E
        refine LF.ste (r:=Aa) (l:=af) (i:=V) (x:=g7) O O (Aa.mk (x:=ca) ⟨g1,g2,g3,g4,g5⟩) ds du L0.id GF (λe=>by cases e) dt (.tail (.tail (.tail (.tail .head)))) λjp dv g8=>LF.nil (kp [127,126,0,128] O) (WF.nil (λaa ww hf hw=>?_))
        have dw:=dv.sel [1,1,1,1,1] 1 O
        have dx:=bk.trans (am.trans (g6.trans g8))
        exact⟨(upd af V ca),_,_,hf.sub (kp [127,126,0,128] O),hw,dw,dx,E⟩
       ·
        have E:=A8 bo E
        refine WF.skip (WF.nil (λaa ww hf hw=>?_))
        have dy:=D.sel [1,1,1,1,1] 1 O
        exact⟨af,_,_,hf.sub (kp [127,126,0,128] O),hw,dy,(bk.trans am),E⟩
      ·
       rintro aa ww ⟨a2,jq,jr,hf,hw,dz,g9,E⟩
       refine WF.run ?_ hf hw
       clear hf hw ww aa
       rw[Dt] at E
       refine WF.rp (.inl O) (QF.addw O O O (QF.mv O O (AA (kp [128,127,126,0] O) (WF.nil (λaa ww hf hw=>?_)))))
       exact⟨(A3 (V+1)),a2,_,_,hf.sub (kp [127,126,0,128] O),hw,dz,(bi.trans g9),(BA _),E⟩
     ·
      have E:=A8 bj E
      refine JE O (WF.nil (λaa ww hf hw=>?_))
      have d0:=av.sel [1,1,0,0,0] 0 O
      cases E
      have d1:=ch.trans (bw.trans (bx.trans (b5.trans bi)))
      exact Hq hf O hw HY O d1 ⟨_,_,_,O,d0⟩
end Go.Proofs.YtibidnaedddfdaaGreat
