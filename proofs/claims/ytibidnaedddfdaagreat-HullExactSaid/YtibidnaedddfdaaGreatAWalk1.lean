import Derived.Test.YtibidnaedddfdaaGreatAWalk0
namespace Go.Proofs.YtibidnaedddfdaaGreat
open Go.RowKit
set_option linter.unusedVariables false
set_option linter.unusedSimpArgs false
set_option maxRecDepth 10000
set_option maxHeartbeats 2000000
variable {N:Nat}{S:Nat→Prop}{L:List HP}{h:Ad}
theorem Gb (hs:St S L h) {a:Value}{c:AF}(b:Rd S h AK a c) {r:Bool}(E:EF N c=some r):
 BP Tryz.prog 13 #[a] S h (λv S' h'=>v= .bool r∧St S' (L) h'):=by
 refine Ac (l:=[a]) 8 Tryz.func13 O Tryz.ntmps13 O λB=>?_
 rw[EF] at E
 refine WF.seq (WF.rl (LF.boxp O b (λe=>by cases e) O hs λo p s d j i=>LF.q 1 (QF.as_ O O (AE (LF.nil (kp [1] O) (WF.seq (WF.rp (.inl O) (QF.fa O i AF.f_Lo Cj O λt k=>QF.ldi Aa d.1 O k AN O λu=>QF.fa O i AF.f_Hi CT O λm g=>QF.ldi Aa d.1 O g AN O λn=>QF.leq O O O ?_))))))))
 refine QF.as_ O O (AA (kp [2] O) (WF.ret (λaa ww hf hw=>?_)))
 cases E
 exact CS hf hw O O j ⟨O,d⟩
theorem Jg (hs:St S L h) {a:Value}{i:AF}(d:Rd S h AK a i) {b:Value}{j:AF}(g:Rd S h AK b j) {r:AF}(E:Hy N i j=some r):
 BP Tryz.prog 102 #[a,b] S h (λv S' h'=>v= .agg #[.int .i64 r.Lo,.int .i64 r.Hi]∧AF.ok r∧St S' (L) h'):=by
 refine Ac (l:=[a,b]) 16 Tryz.func102 O Tryz.ntmps102 O λB=>?_
 rw[Hy] at E
 refine WF.seq (WF.rl (LF.boxp O d (λe=>by cases e) O hs λq1 S2 h3 C e5 k6=>?_))
 have k7:=g.mono e5
 refine LF.boxp O k7 (λe=>by cases e) O C λq8 S9 ab n p D=>LF.al EL O n λac ad c m=>LF.nil (kp [4,3,2] O) (WF.seq (EC 11 mo (by kernel_rfl) O c ?_))
 have q:=k6.mono (p.trans m)
 refine QF.fa O q AF.f_Lo Cj O λae F=>QF.ldi Ak c.1 O F AN O λG=>?_
 have s:=D.mono m
 refine QF.fa O s AF.f_Lo Cj O λaf H=>QF.ldi Ak c.1 O H AN O λI=>?_
 obtain⟨t,u,E⟩:=bd E
 refine Af O O O KA O (λh' o=>Cs (St.all h') G I u) λJ=>?_
 have K:=J
 refine QF.fa O q AF.f_Hi CT O λag M=>QF.ldi Ak c.1 O M AN O λQ=>QF.fa O s AF.f_Hi CT O λah U=>QF.ldi Ak c.1 O U AN O λV=>?_
 obtain⟨w,x,E⟩:=bd E
 refine Af O O O KA O (λh' o=>Cs (St.all h') Q V x) λW=>?_
 have X:=W
 refine QF.bld (cs:=[.int .i64 t,.int .i64 w]) Ga O O O (C1 λai y Y=>Aj (vs:=[.int .i64 t,.int .i64 w]) O O O O Ag O y .head O λaj k Z=>LF.nil (kp [4] O) (WF.ret (λaa ww hf hw=>?_)))
 have z:=k.drop .head
 cases E
 have A:=e5.trans (p.trans (m.trans (Y.trans Z)))
 exact Hb hf O hw (GF (Md hf hw k O mh Ag O) HW) O A ⟨O,⟨K,X⟩,z⟩
theorem Hv (hs:St S L h) {b:Value}{a:AF}(c:Rd S h AK b a) {r:AF}(E:F3 N a=some r):
 BP Tryz.prog 103 #[b] S h (λv S' h'=>v= .agg #[.int .i64 r.Lo,.int .i64 r.Hi]∧AF.ok r∧St S' (L) h'):=by
 refine Ac (l:=[b]) 10 Tryz.func103 O Tryz.ntmps103 O λB=>?_
 rw[F3] at E
 refine WF.seq (WF.rl (LF.boxp O c (λe=>by cases e) O hs λD F G o x y=>LF.al EL O o λH I g i=>LF.nil (kp [2,1] O) (WF.seq (WF.rl (LF.q 7 ?_)))))
 have j:=y.mono i
 refine QF.fa O j AF.f_Lo Cj O λz p=>QF.ldi Aa g.1 O p AN O λs=>QF.min O O O (QF.fa O j AF.f_Hi CT O λA t=>QF.ldi Aa g.1 O t AN O λu=>QF.min O O O (QF.bld (cs:=[.int .i64 (min a.Lo 1125899906842624),.int .i64 (min a.Hi 1125899906842624)]) Ga O O O (AE (Aj (vs:=[.int .i64 (min a.Lo 1125899906842624),.int .i64 (min a.Hi 1125899906842624)]) O O O O Ag O g .head O λC d w=>LF.nil (kp [2] O) (WF.ret (λaa ww hf hw=>?_))))))
 have k:=d.drop .head
 cases E
 have m:=x.trans (i.trans w)
 exact Hb hf O hw (GF (Md hf hw d O mh Ag O) HW) O m ⟨O,⟨(HY s (iq (n:=1125899906842624) O)),(HY u (iq (n:=1125899906842624) O))⟩,k⟩
theorem Mb (hs:St S L h) {a:Value}{g:AX}(c:Rd S h A0 a g) {b:Value}{i:AF}(d:Rd S h AK b i) {r:AF×AX}(E:Ir N g i=some r):
 BP Tryz.prog 148 #[a,b] S h (λv S' h'=>∃j k:Value,v= .func (.func 172) #[] #[j,k]∧Pt S' h' AK j r.1∧Pt S' h' A0 k r.2∧St S' (L) h'):=by
 refine Ac (l:=[a,b]) 6 Tryz.func148 O Tryz.ntmps148 O λB=>?_
 rw[Ir] at E
 refine WF.seq (WF.rl (LF.boxp O c (λe=>by cases e) O hs λy z A o t u=>?_))
 have w:=d.mono t
 refine LF.boxp O w (λe=>by cases e) O o λC D x m n p=>LF.q 1 (QF.as_ O O (AE (LF.nil (kp [3,2] O) (WF.seq (WF.rp (.inl O) (QF.mkf O O O (QF.as_ O O (AA (kp [4] O) (WF.ret (λaa ww hf hw=>?_))))))))))
 have s:=u.mono n
 cases E
 exact CS hf hw O O (t.trans n) ⟨_,_,O,p,s,m⟩
theorem F9 (hs:St S L h) {b:Value}{c:AF}(d:Rd S h AK b c) {a:Int}(i:AB a) {r:Bool}(E:D9 N c a=some r):
 BP Tryz.prog 73 #[b,.int .i64 a] S h (λv S' h'=>v= .bool r∧St S' (L) h'):=by
 refine Ac (l:=[b,.int .i64 a]) 15 Tryz.func73 O Tryz.ntmps73 O λB=>?_
 rw[D9] at E
 refine WF.seq (WF.rl (LF.boxp O d (λe=>by cases e) O hs λt u w g m k=>LF.q 1 (QF.as_ O O (AE (LF.nil (kp [2,1] O) (WF.seq (WF.rp (.inl O) (QF.fa O k AF.f_Lo Cj O λx n=>QF.ldi Aa g.1 O n AN O λy=>QF.mv O O (QF.leq O O O (QF.mv O O ?_))))))))))
 refine QF.cutv 5 14 (.bool ((decide (c.Lo≤a))&&(decide (a≤c.Hi)))) ?_ ?_
 ·
  cases o:(decide (c.Lo≤a))
  ·exact AL O O
  ·exact QF.gy O O O (QF.mv O O (QF.gy O O O (QF.fa O k AF.f_Hi CT O λp j=>QF.gy O O O (QF.ldi Aa g.1 O j AN O λs=>QF.gy O O O (QF.leq O O O (QF.pick O O O (AH O)))))))
 refine QF.as_ O O (AA (kp [4] O) (WF.ret (λaa ww hf hw=>?_)))
 cases E
 exact CS hf hw O O m ⟨O,g⟩
theorem Lk {σ:Type}{yv:Value}{Y:Bool→σ→HP}{yld:Int→σ→Option (Bool×σ)}{S0:Nat→Prop}{h0:Ad}(yc:YC Tryz.prog yv Y U4 yld S0 h0) (e0:BO S0 h0 S h) {s:σ}(hs:St S (Y true s::L) h) {i:Value}{c1_:AF}(m:Pt S h AK i c1_) {j:Value}{c2_:AX}(w:Pt S h A0 j c2_) {r:Bool×σ}(E:Hz N c1_ c2_ yld s=some r):
 BP Tryz.prog 172 #[yv,i,j] S h (λv S' h'=>v= .tuple #[]∧St S' (Y r.1 r.2::L) h'):=by
 refine Ac (l:=[yv,i,j]) 36 Tryz.func172 O Tryz.ntmps172 O λB=>?_
 rw[Hz] at E
 refine WF.seq (WF.seq (VR (KC 1 Mi (QF.ld Aa hs.1 O m Ag (λe=>by cases e) O λv1 k2=>QF.yn (YQ 1 Mi ?_)))))
 obtain⟨y3,ad,E⟩:=bd E
 refine LF.callb O O O P5 O hs (Gb (St.all _) (k2.mono ⟨λb hb=>hs.1 b hb,λ_ _=>rfl,Nat.le_refl _⟩) ad) λv4 S5 h6 x n ay p=>?_
 obtain⟨rfl,az⟩:=p
 refine LF.yn (KC 2 Mi (QF.not O O (QF.mv O O (QF.yn ?_))))
 cases G:(!y3)
 ·
  have E:=Aw G E
  refine KC 3 Mi (QF.gy O O O (QF.mv O O (QF.gy O O O ?_)))
  have H:=m.mono n
  refine QF.fa O H AF.f_Lo Cj O λa0 ae=>QF.gy O O O (QF.ldi Aa x.1 O ae AN O λaf=>QF.yn (YL.gy O O O ?_))
  obtain⟨a1,I,E⟩:=bd E
  refine T7 yc O O I (e0.trans n) x ⟨O,af⟩ O (λy ag ah d k=>?_) (λy ag ah d k=>?_)
  ·
   have E:=Av y E
   refine KC 3 Mi (QF.gy O O O (QF.not O O (QF.pick O O O (QF.mv O O (QF.yn (KC 3 Mi (QF.gy O O O (QF.mv O O (QF.gy O O O ?_)))))))))
   have J:=H.mono d
   refine QF.fa O J AF.f_Hi CT O λa2 ai=>QF.gy O O O (QF.ldi Aa k.1 O ai AN O λaj=>QF.yn (YL.gy O O O ?_))
   obtain⟨a3,K,E⟩:=bd E
   refine T7 yc O O K (e0.trans (n.trans d)) k ⟨O,aj⟩ O (λz ak am g c=>?_) (λz ak am g c=>?_)
   ·
    have E:=Av z E
    refine KC 2 Mi (QF.gy O O O (QF.not O O (QF.pick O O O (QF.yn (YL.nil (kp [20,0,1,2] O) (WF.ifF O (WF.skip (WF.seq (WF.rc (.inl O) c ?_)))))))))
    have M:=n.trans (d.trans g)
    have A:=w.mono M
    refine QF.fa O A Fl Hx O λa4 an=>QF.ldi Ak c.1 O an AN O λa5=>QF.lss O O O (QF.mv O O ?_)
    obtain⟨ao,a,E⟩:=bd E
    refine QF.cutv 6 30 (.bool ao) ?_ ?_
    ·
     cases Q:(decide (c2_.Break<9223372036854775807))
     ·
      have a:=Aw Q a
      cases a
      exact AL O O
     ·
      have a:=Av Q a
      refine QF.gy O O O ?_
      have ap:=J.mono g
      refine QF.ld Ak c.1 O ap Ag (λe=>by cases e) O λa6 aq=>QF.gy O O O (QF.fa O A Fl Hx O λa7 ar=>QF.gy O O O (QF.ldi Ak c.1 O ar AN O λa8=>QF.gy O O O (QF.addw O O O (QF.gy O O O ?_))))
      obtain⟨a9,U,a⟩:=bd a
      refine AZ O O O Nu O (λh' o=>F9 (St.all h') (aq.mono (o.all c.1)) (Au _) U) (QF.pick O O O ?_)
      cases a
      exact AH O
    refine Ai (kp [30,0,2] O) λba q t=>WF.if_ O (λC=>?_) (λC=>?_)
    ·
     have E:=Av C E
     refine VR (KC 4 Mi (QF.mv O O ?_))
     have au:=A.mono t
     refine QF.fa O au Fl Hx O λbb av=>QF.ldi Aa q.1 O av AN O λbc=>QF.addw O O O (QF.yn ?_)
     obtain⟨be,V,E⟩:=bd E
     have W:=n.trans (d.trans (g.trans t))
     refine T7 yc O O V (e0.trans W) q ⟨O,(Au _)⟩ O (λD aw ax F u=>?_) (λD aw ax F u=>?_)
     ·
      have E:=Av D E
      refine YL.nil KI (WF.nil (λaa ww hf hw=>?_))
      cases E
      have X:=n.trans (d.trans (g.trans (t.trans F)))
      exact Hb hf O hw HW O X ⟨O,u⟩
     ·
      have E:=Aw D E
      refine YL.nil KI (WF.nil (λaa ww hf hw=>?_))
      cases E
      have Z:=n.trans (d.trans (g.trans (t.trans F)))
      exact Hb hf O hw HW O Z ⟨O,u⟩
    ·
     have E:=Aw C E
     refine WF.skip (WF.nil (λaa ww hf hw=>?_))
     cases E
     have ab:=n.trans (d.trans (g.trans t))
     exact Hb hf O hw HW O ab ⟨O,q⟩
   ·
    have E:=Aw z E
    refine KC 2 Mi (QF.gy O O O (QF.not O O (QF.pick O O O (QF.yn (YL.nil (kp [20,0,1,2] O) (WF.ifT O (WF.ret (λaa ww hf hw=>?_))))))))
    cases E
    have ac:=n.trans (d.trans g)
    exact Hb hf O hw HW O ac ⟨O,c⟩
  ·
   have E:=Aw y E
   refine KC 3 Mi (QF.gy O O O (QF.not O O (QF.pick O O O (QF.mv O O (QF.yn (KC 6 Mi (QF.gnT O O O O O (QF.gnT O O O O O (QF.gnT O O O O O (QF.gnT O O O O O (QF.gnT O O O O O (QF.pick O O O (QF.yn ?_)))))))))))))
   refine YL.nil (kp [20,0,1,2] O) (WF.ifT O (WF.ret (λaa ww hf hw=>?_)))
   cases E
   exact Hb hf O hw HW O (n.trans d) ⟨O,k⟩
 ·
  have E:=Av G E
  refine KC 7 Mi (QF.gnT O O O O O (QF.gnT O O O O O (QF.gnT O O O O O (QF.gnT O O O O O (QF.gnT O O O O O (QF.pick O O O (QF.mv O O (QF.yn (KC 6 Mi (QF.gnT O O O O O (QF.gnT O O O O O (QF.gnT O O O O O (QF.gnT O O O O O ?_)))))))))))))
  refine QF.gnT O O O O O (QF.pick O O O (QF.yn (YL.nil (kp [20,0,1,2] O) (WF.ifT O (WF.ret (λaa ww hf hw=>?_))))))
  cases E
  exact Hb hf O hw HW O n ⟨O,x⟩
theorem M8 (hs:St S L h) {d:Value}{n:AX}(k:Rd S h A0 d n) {g:Value}{b:BM}(m:Rd S h DE g b) {i:Int}(X:AB i) {r:BM}(E:JN N n b i=some r):
 BP Tryz.prog 149 #[d,g,.int .i64 i] S h (λv S' h'=>v= .agg #[.int .i64 r.Pos,.int .i64 r.Target,.bool r.Stuck,.bool r.Open]∧BM.ok r∧St S' (L) h'):=by
 refine Ac (l:=[d,g,.int .i64 i]) 24 Tryz.func149 O Tryz.ntmps149 O λB=>?_
 rw[JN] at E
 refine WF.seq (WF.rl (LF.boxp O k (λe=>by cases e) O hs λq1 S2 h3 Y Z k6=>?_))
 have k7:=m.mono Z
 obtain⟨rfl,⟨r9,C⟩⟩:=DE.ex k7
 refine LF.box O O O Y λD aj F t=>LF.al OB O F λG H c u=>LF.nil (kp [6,4,3,2] O) (WF.seq (WF.seq (WF.rp (.inl O) ?_)))
 have x:=k6.mono (t.trans u)
 refine QF.fa O x AX.f_Kind Ck O λak ab=>QF.ldi Aa c.1 O ab AN O λam=>QF.neq O O O (AA (kp [9,6,4,3,2] O) (WF.if_ O (λy=>?_) (λy=>?_)))
 ·
  have E:=Av y E
  refine WF.seq (WF.rl (LF.q 1 (QF.ldo (vs:=[.int .i64 b.Pos,.int .i64 b.Target,.bool b.Stuck,.bool b.Open]) Aa c O (mt mh) O O G5 O O (AE (Aj (vs:=[.int .i64 b.Pos,.int .i64 b.Target,.bool b.Stuck,.bool b.Open]) O O O O G5 O c .head O λan I ac=>LF.nil (kp [6] O) (WF.ret (λaa ww hf hw=>?_)))))))
  have o:=I.drop (.tail .head)
  have J:=o.drop .head
  cases E
  have K:=Z.trans (t.trans (u.trans ac))
  exact Hb hf O hw (GF (Md hf hw o O mh G5 O) HW) O K ⟨O,⟨r9,C⟩,J⟩
 ·
  have E:=Aw y E
  refine WF.skip (WF.seq (WF.blockJ (λa w=>∃(j:Bool),IV B S2 H (24,[]) a w [(6,.pointer (some ⟨G,0,none⟩)),(4,.pointer (some ⟨D,0,none⟩))] (Bx G 81 [.int .i64 0,.int .i64 0,.bool false,.bool false]::Bx D 81 [.int .i64 b.Pos,.int .i64 b.Target,.bool b.Stuck,.bool j]::L) λ_ _=>F1 N b j=some r) ?_ ?_))
  ·
   refine WF.seq (WF.rp (.inl O) (QF.mv O O (QF.fa O x H8 LI O λao ad=>QF.ldi Aa c.1 O ad AN O λap=>QF.geq O O O (QF.as_ O O (AA (kp [11,6,4,3,2] O) (WF.if_ O (λz=>?_) (λz=>?_)))))))
   ·
    have E:=Av z E
    refine WF.rl (LF.q 1 (QF.fao O Jl O (AE (HT (vs:=[.bool true]) (cs':=[.int .i64 b.Pos,.int .i64 b.Target,.bool b.Stuck,.bool true]) O O O O Kd O c (.tail .head) O O λaq M ae=>LF.nil (kp [6,4] O) (WF.nil (λaa ww hf hw=>?_))))))
    exact⟨true,_,_,hf.sub (kp [6,4] O),hw,M,ae,E⟩
   ·
    have E:=Aw z E
    refine WF.seq (WF.rp (.inl O) (QF.mv O O (QF.fa O x Fl Hx O λar af=>QF.ldi Aa c.1 O af AN O λau=>QF.leq O O O (QF.as_ O O (AA (kp [17,6,4] O) (WF.if_ O (λA=>?_) (λA=>?_)))))))
    ·
     have E:=Av A E
     refine WF.rl (LF.q 1 (QF.fao O Jl O (AE (HT (vs:=[.bool false]) (cs':=[.int .i64 b.Pos,.int .i64 b.Target,.bool b.Stuck,.bool false]) O O O O Kd O c (.tail .head) O O λav Q ag=>LF.nil (kp [6,4] O) (WF.nil (λaa ww hf hw=>?_))))))
     exact⟨false,_,_,hf.sub (kp [6,4] O),hw,Q,ag,E⟩
    ·
     have E:=Aw A E
     refine WF.skip (WF.nil (λaa ww hf hw=>?_))
     exact⟨b.Open,_,_,hf.sub (kp [6,4] O),hw,c,(BO.refl S2 H),E⟩
  ·
   rintro aa ww ⟨j,aw,ax,hf,hw,p,ah,E⟩
   refine WF.run ?_ hf hw
   clear hf hw ww aa
   rw[F1] at E
   refine WF.seq (WF.rl (LF.q 1 (QF.ldo (vs:=[.int .i64 b.Pos,.int .i64 b.Target,.bool b.Stuck,.bool j]) Aa p O (mt mh) O O G5 O O (AE (Aj (vs:=[.int .i64 b.Pos,.int .i64 b.Target,.bool b.Stuck,.bool j]) O O O O G5 O p .head O λay U ai=>LF.nil (kp [6] O) (WF.ret (λaa ww hf hw=>?_)))))))
   have s:=U.drop (.tail .head)
   have V:=s.drop .head
   cases E
   have W:=Z.trans (t.trans (u.trans (ah.trans ai)))
   exact Hb hf O hw (GF (Md hf hw s O mh G5 O) HW) O W ⟨O,⟨r9,C⟩,V⟩
theorem JJ (hs:St S L h) {c:Value}{a:AF}(i:Rd S h AK c a) {d:Value}{b:AF}(j:Rd S h AK d b) {r:AF}(E:Ge N a b=some r):
 BP Tryz.prog 54 #[c,d] S h (λv S' h'=>v= .agg #[.int .i64 r.Lo,.int .i64 r.Hi]∧AF.ok r∧St S' (L) h'):=by
 refine Ac (l:=[c,d]) 16 Tryz.func54 O Tryz.ntmps54 O λB=>?_
 rw[Ge] at E
 refine WF.seq (WF.rl (LF.boxp O i (λe=>by cases e) O hs λq1 S2 h3 w J K=>?_))
 have M:=j.mono J
 refine LF.boxp O M (λe=>by cases e) O w λq8 S9 Q n o x=>LF.al EL O n λU V g m=>LF.nil (kp [4,3,2] O) (WF.seq (WF.rl (LF.q 11 ?_)))
 have p:=K.mono (o.trans m)
 refine QF.fa O p AF.f_Lo Cj O λW y=>QF.ldi Aa g.1 O y AN O λz=>?_
 have s:=x.mono m
 refine QF.fa O s AF.f_Lo Cj O λX A=>QF.ldi Aa g.1 O A AN O λC=>QF.min O O O (QF.fa O p AF.f_Hi CT O λY D=>QF.ldi Aa g.1 O D AN O λF=>QF.fa O s AF.f_Hi CT O λZ G=>QF.ldi Aa g.1 O G AN O λH=>QF.max O O O (QF.bld (cs:=[.int .i64 (min a.Lo b.Lo),.int .i64 (max a.Hi b.Hi)]) Ga O O O (AE (Aj (vs:=[.int .i64 (min a.Lo b.Lo),.int .i64 (max a.Hi b.Hi)]) O O O O Ag O g .head O λab k I=>LF.nil (kp [4] O) (WF.ret (λaa ww hf hw=>?_))))))
 have t:=k.drop .head
 cases E
 have u:=J.trans (o.trans (m.trans I))
 exact Hb hf O hw (GF (Md hf hw k O mh Ag O) HW) O u ⟨O,⟨(HY z C),(GQ F H)⟩,t⟩
theorem NU (hs:St S L h) {C:Value}{s:AX}(av:Rd S h A0 C s) {D:Value}{b:AT}(aw:Rd S h Ab D b) {F:Value}{a2:AF}(ax:Rd S h AK F a2) {r:AT}(E:Jp N s b a2=some r):
 BP Tryz.prog 104 #[C,D,F] S h (λv S' h'=>v= .agg #[.int .i64 r.Pos.Lo,.int .i64 r.Pos.Hi,.int .i64 r.Target,.int .i64 r.Open.Lo,.int .i64 r.Open.Hi]∧AT.ok r∧St S' (L) h'):=by
 refine Ac (l:=[C,D,F]) 47 Tryz.func104 O Tryz.ntmps104 O λB=>?_
 rw[Jp] at E
 have hsd:=Wj hs
 refine WF.seq (WF.rl (LF.boxp O av (λe=>by cases e) O hsd λq1 S2 h3 du e5 k6=>?_))
 have k7:=aw.mono e5
 obtain⟨rfl,⟨r9,b7,b8,a7,a8⟩⟩:=Ab.ex k7
 refine LF.box O O O du λm e7 b9 ay=>?_
 have dv:=ax.mono (e5.trans ay)
 refine LF.boxp O dv (λe=>by cases e) O b9 λe8 e9 fb ca a9 dw=>LF.al PN O ca λba fc Q az=>LF.nil (kp [6,5,4,3] O) (WF.seq (WF.seq (WF.rp (.inl O) ?_)))
 have cb:=ay.trans (a9.trans az)
 have cc:=k6.mono cb
 refine QF.fa O cc AX.f_Kind Ck O λfd dx=>QF.ldi Aa Q.1 O dx AN O λfe=>QF.neq O O O (AA (kp [14,6,5,4,3] O) (WF.if_ O (λbb=>?_) (λbb=>?_)))
 ·
  have E:=Av bb E
  refine WF.seq (WF.rl (LF.q 1 (QF.ldo (vs:=[.int .i64 b.Pos.Lo,.int .i64 b.Pos.Hi,.int .i64 b.Target,.int .i64 b.Open.Lo,.int .i64 b.Open.Hi]) Aa Q O (mt mh) O O GT O O (AE (Aj (vs:=[.int .i64 b.Pos.Lo,.int .i64 b.Pos.Hi,.int .i64 b.Target,.int .i64 b.Open.Lo,.int .i64 b.Open.Hi]) O O O O GT O Q .head O λff cd dy=>LF.nil (kp [6] O) (WF.ret (λaa ww hf hw=>?_)))))))
  have ce:=cd.sel [2,0] 1 O
  have cf:=e5.trans (ay.trans (a9.trans (az.trans dy)))
  refine XG (vs:=[.agg #[.int .i64 b.Pos.Lo,.int .i64 b.Pos.Hi,.int .i64 b.Target,.int .i64 b.Open.Lo,.int .i64 b.Open.Hi]]) hf O hw ce O cf λw9 fg bc a3 fh=>?_
  have cg:=a3.drop .head
  cases E
  exact⟨(GF (Md hf bc a3 O mh GT O) HW),⟨O,⟨r9,b7,b8,a7,a8⟩,cg⟩⟩
 ·
  have E:=Aw bb E
  refine WF.skip (WF.seq (WF.rl (LF.al Wu O Q λz fi ch be=>Aj (vs:=[.bool false]) O O O O Kd O ch .head O λfj ci bf=>LF.nil (kp [7,6,5,4,3] O) (WF.seq (WF.rl (LF.al EL O ci λA fk ac bg=>LF.nil (kp [8,7,6,5,4,3] O) (WF.seq (WF.seq (WF.rl (LF.q 2 ?_))))))))))
  have cj:=be.trans (bf.trans bg)
  have ck:=cc.mono cj
  refine QF.ld Aa ac.1 O ck C3 (λe=>by cases e) O λfl dz=>?_
  have cl:=az.trans (be.trans (bf.trans bg))
  have d0:=dw.mono cl
  refine QF.ld Aa ac.1 O d0 Ag (λe=>by cases e) O λfm d1=>AE ?_
  obtain⟨fn,cm,E⟩:=bd E
  refine LF.call O O O WM O (Mb ac dz d1 cm) λfo fp fq cn p=>?_
  obtain⟨co,cp,rfl,d2,d3,cq⟩:=p
  refine LF.nil (kp [18,8,7,6,4,3] O) (WF.block ?_)
  have cr:=cq.sel [0,0,1,1,0] 0 O
  obtain⟨g,ct,E⟩:=bd E
  refine Wf (Ds:=([])) 0 (λ(ss:Int×Int×Bool)=>[Pu (AB ss.1∧AB ss.2.1),Bx A 51 [.int .i64 ss.1,.int .i64 ss.2.1],Bx z 4 [.bool ss.2.2],Bx m 97 [.int .i64 b.Pos.Lo,.int .i64 b.Pos.Hi,.int .i64 b.Target,.int .i64 b.Open.Lo,.int .i64 b.Open.Hi]]) (0,0,false) U4 (λxx ss=>HJ N s b xx ss.1 ss.2.1 ss.2.2) g (λvs=>[(9,vs.getD 0 undef),(8,.pointer (some ⟨A,0,none⟩)),(7,.pointer (some ⟨z,0,none⟩)),(4,.pointer (some ⟨m,0,none⟩)),(3,q1)]) O WH (by kernel_rfl) (RO cr ⟨(iq (n:=0) O),(iq (n:=0) O)⟩) (λk=>U4.len k) (λk e=>U4.mono k e) ?_ ?_ ?_ ?_ ?_
  ·
   intro yv Y S1 h1 L1 e1 yc d4
   have d5:=d2.mono e1
   have d6:=d3.mono e1
   rw[show ((#[yv]:Array Value)++ #[co,cp])= #[yv,co,cp] from Yq _ _]
   exact(Lk yc (BO.refl _ _) d4 d5 d6 ct).mono λ_ _ _ _ p=>p.2
  ·
   intro vs B h1 hl
   match vs,hl with
   |[v0],_=>
    refine WF.rp (.inl O) ?_
    refine QF.as_ O O ?_
    refine AA (kp [9,19,8,7,4,3] O) ?_
    refine WF.nil (λaa ww hf hw=>?_)
    exact⟨hf.sub (kp [9,8,7,4,3] O),hw⟩
  ·
   rintro K ⟨a0,a1,bh⟩ out vs bi bj L81 B cu d7 cv cw
   have E:HJ N s b K a0 a1 bh=some out:=cu
   rw[HJ] at E
   obtain⟨rfl,d8⟩:=cv
   have ad:St bi (Pu (AB a0∧AB a1)::Bx A 51 [.int .i64 a0,.int .i64 a1]::Bx z 4 [.bool bh]::Bx m 97 [.int .i64 b.Pos.Lo,.int .i64 b.Pos.Hi,.int .i64 b.Target,.int .i64 b.Open.Lo,.int .i64 b.Open.Hi]::L81) bj:=cw
   obtain⟨⟨d9,ea⟩,ad⟩:=VS ad
   refine WF.block (WF.seq (WF.rp (.inl O) (QF.mv O O (AA (kp [20,9,8,7,4,3] O) (WF.block (WF.loopF (λn1=>λa w=>∃(c:Int) (i:Int) (j:Int) (t:Bool),IV B bi bj (47,[]) a w [(9,.int .i64 K),(8,.pointer (some ⟨A,0,none⟩)),(7,.pointer (some ⟨z,0,none⟩)),(4,.pointer (some ⟨m,0,none⟩)),(3,q1),(20,.int .i64 c)] (Bx A 51 [.int .i64 i,.int .i64 j]::Bx z 4 [.bool t]::Bx m 97 [.int .i64 b.Pos.Lo,.int .i64 b.Pos.Hi,.int .i64 b.Target,.int .i64 b.Open.Lo,.int .i64 b.Open.Hi]::L81) λ_ _=>AB c∧AB i∧AB j∧DK N s b K n1 c i j t=some out) N ?_ ?_ ?_))))))
   ·
    intro aa ww hf hw
    exact⟨0,a0,a1,bh,_,_,hf.sub (kp [9,8,7,4,3,20] O),hw,ad,(BO.refl bi bj),(iq (n:=0) O),d9,ea,E⟩
   ·
    rintro aa ww ⟨_,_,_,_,_,_,_,_,_,_,_,_,_,E⟩
    rw[DK] at E;cases E
   ·
    rintro n1 aa ww ⟨c,i,j,t,U,cx,hf,hw,M,ae,cy,af,ag,E⟩
    refine WF.run ?_ hf hw
    clear hf hw ww aa
    rw[DK] at E
    refine WF.seq (WF.rp (.inl O) (QF.lss O O O (AA (kp [21,9,8,7,4,3,20] O) (WF.seq (WF.if_ O (λah=>?_) (λah=>?_))))))
    ·
     have E:=Av ah E
     refine WF.skip (WF.seq (WF.blockJ (λa w=>∃(I:Int) (J:Int) (V:Bool),IV B U cx (47,[]) a w [(9,.int .i64 K),(8,.pointer (some ⟨A,0,none⟩)),(7,.pointer (some ⟨z,0,none⟩)),(4,.pointer (some ⟨m,0,none⟩)),(3,q1),(20,.int .i64 c)] (Bx A 51 [.int .i64 I,.int .i64 J]::Bx z 4 [.bool V]::Bx m 97 [.int .i64 b.Pos.Lo,.int .i64 b.Pos.Hi,.int .i64 b.Target,.int .i64 b.Open.Lo,.int .i64 b.Open.Hi]::L81) λ_ _=>AB I∧AB J∧FJ N c (DK N s b K n1) I J V=some out) ?_ ?_))
     ·
      refine WF.seq (WF.rp (.inl O) (QF.mv O O (QF.as_ O O (AA (kp [10,9,8,7,4,3,20] O) (WF.seq (WF.seq (WF.rc (.inl O) M (QF.fao O Hd O (QF.ldo (vs:=[.int .i64 b.Open.Lo,.int .i64 b.Open.Hi]) Ak M O (mt (mt mh)) O O Ag O O (QF.mv O O ?_))))))))))
      obtain⟨ed,bk,E⟩:=bd E
      refine AZ O O O Nu O (λh' o=>F9 (St.all h') (AK.mk (x:=b.Open) ⟨a7,a8⟩) cy bk) (QF.not O O (Ai (kp [27,10,9,8,7,4,3,20] O) λee G W=>WF.if_ O (λai=>?_) (λai=>?_)))
      ·
       have E:=Av ai E
       refine WF.exit O (λaa ww hf hw=>?_)
       exact⟨i,j,t,_,_,hf.sub (kp [9,8,7,4,3,20] O),hw,G,W,af,ag,E⟩
      ·
       have E:=Aw ai E
       refine WF.skip (WF.seq (WF.rp (.inl O) (QF.as_ O O (AA (kp [11,10,9,8,7,4,3,20] O) (WF.seq (WF.seq (WF.rc (.inl O) G ?_)))))))
       have bl:=cn.trans (d7.trans (ae.trans W))
       have cz:=ck.mono bl
       refine QF.ld Ak G.1 O cz C3 (λe=>by cases e) O λef c0=>QF.mv O O (QF.eql O O O (QF.bld (cs:=[.int .i64 0,.int .i64 0,.bool false,.bool (decide (c=1))]) SR O O O (QF.mv O O ?_)))
       obtain⟨eg,bm,E⟩:=bd E
       refine Af O O O WL O (λh' o=>M8 (St.all h') (c0.mono (o.all G.1)) (DE.mk (x:=(⟨0,0,false,(decide (c=1))⟩:BM)) ⟨(iq (n:=0) O),(iq (n:=0) O)⟩) d8 bm) λc1=>?_
       obtain⟨eh,ei⟩:=c1
       refine QF.fld O Uj O O (Ai (kp [34,11,9,8,7,4,3,20] O) λaj ak a4=>WF.cut (λa w=>∃(X:Int),IV B U aj (47,[]) a w [(9,.int .i64 K),(8,.pointer (some ⟨A,0,none⟩)),(7,.pointer (some ⟨z,0,none⟩)),(4,.pointer (some ⟨m,0,none⟩)),(3,q1),(20,.int .i64 c),(11,.int .i64 X)] (Bx A 51 [.int .i64 i,.int .i64 j]::Bx z 4 [.bool t]::Bx m 97 [.int .i64 b.Pos.Lo,.int .i64 b.Pos.Hi,.int .i64 b.Target,.int .i64 b.Open.Lo,.int .i64 b.Open.Hi]::L81) λ_ _=>AB X∧HL N i j t (FJ N c (DK N s b K n1)) X=some out) ?_ ?_)
       ·
        refine WF.if_ O (λam=>?_) (λam=>?_)
        ·
         have E:=Av am E
         refine WF.rp (.inl O) (QF.as_ O O (AA (kp [11,9,8,7,4,3,20] O) (WF.nil (λaa ww hf hw=>?_))))
         exact⟨1,_,_,hf.sub (kp [9,8,7,4,3,20,11] O),hw,ak,(BO.refl U aj),(iq (n:=1) O),E⟩
        ·
         have E:=Aw am E
         refine WF.skip (WF.nil (λaa ww hf hw=>?_))
         exact⟨0,_,_,hf.sub (kp [9,8,7,4,3,20,11] O),hw,ak,(BO.refl U aj),(iq (n:=0) O),E⟩
       ·
        rintro aa ww ⟨X,ej,ek,hf,hw,H,a5,a6,E⟩
        refine WF.run ?_ hf hw
        clear hf hw ww aa
        rw[HL] at E
        refine WF.seq (WF.rp (.inl O) (AI Aa H O (mt mh) O Kd O (AA (kp [35,9,8,7,4,3,20,11] O) (WF.if_ O (λan=>?_) (λan=>?_)))))
        ·
         have E:=Av an E
         refine EC 4 mo (by kernel_rfl) O H (QF.ldo (vs:=[.int .i64 i,.int .i64 j]) Ak H O mh O O Ag O O (QF.mv O O ?_))
         obtain⟨c2,bn,E⟩:=bd E
         refine Af O O O JF O (λh' o=>C5 (St.all h') a6 bn) λc3=>?_
         obtain⟨c4,c5⟩:=c3
         obtain⟨Z,bo,E⟩:=bd E
         refine Af O O O Tk O (λh' o=>JJ (St.all h') (AK.mk (x:=(⟨i,j⟩:AF)) ⟨af,ag⟩) (AK.mk (x:=c2) ⟨c4,c5⟩) bo) λc6=>?_
         obtain⟨c7,c8⟩:=c6
         refine C1 λel bp c9=>Aj (vs:=[.int .i64 Z.Lo,.int .i64 Z.Hi]) O O O O Ag O bp .head O λem bq da=>LF.nil (kp [9,8,7,4,3,20] O) (WF.nil (λaa ww hf hw=>?_))
         have br:=W.trans (a4.trans (a5.trans (c9.trans da)))
         exact⟨Z.Lo,Z.Hi,t,_,_,hf.sub (kp [9,8,7,4,3,20] O),hw,bq,br,c7,c8,E⟩
        ·
         have E:=Aw an E
         refine WF.rl (LF.q 1 (QF.mv O O (AE ?_)))
         obtain⟨ab,bt,E⟩:=bd E
         refine LF.callb O O O JF O H (C5 (St.all _) a6 bt) λen eo ep bu db eq p=>?_
         obtain⟨rfl,⟨dc,dd⟩,eb⟩:=p
         refine Aj (vs:=[.int .i64 ab.Lo,.int .i64 ab.Hi]) O O O O Ag O bu .head O λer bv de=>Aj (vs:=[.bool true]) O O O O Kd O bv (.tail .head) O λes bw df=>LF.nil (kp [9,8,7,4,3,20] O) (WF.nil (λaa ww hf hw=>?_))
         have bx:=W.trans (a4.trans (a5.trans (db.trans (de.trans df))))
         exact⟨ab.Lo,ab.Hi,true,_,_,hf.sub (kp [9,8,7,4,3,20] O),hw,bw,bx,dc,dd,E⟩
     ·
      rintro aa ww ⟨I,J,V,et,eu,hf,hw,bz,dg,dh,di,E⟩
      refine WF.run ?_ hf hw
      clear hf hw ww aa
      rw[FJ] at E
      refine WF.rp (.inl O) (QF.addw O O O (QF.mv O O (AA (kp [20,9,8,7,4,3] O) (WF.nil (λaa ww hf hw=>?_)))))
      exact⟨(Ar (c+1)),I,J,V,_,_,hf.sub (kp [9,8,7,4,3,20] O),hw,bz,(ae.trans dg),(Au _),dh,di,E⟩
    ·
     have E:=Aw ah E
     refine Ja O (Al (WF.nil (λaa ww hf hw=>?_)))
     cases E
     exact⟨O,_,_,hw,ae,(RO M ⟨af,ag⟩)⟩
  ·
   intro dj ao ap D186 dk d
   have E:=Av dj E
   have d:St ao (Pu (AB g.2.1∧AB g.2.2.1)::Bx A 51 [.int .i64 g.2.1,.int .i64 g.2.2.1]::Bx z 4 [.bool g.2.2.2]::Bx m 97 [.int .i64 b.Pos.Lo,.int .i64 b.Pos.Hi,.int .i64 b.Target,.int .i64 b.Open.Lo,.int .i64 b.Open.Hi]::UI (D186::[])::Bx ba 97 [.int .i64 0,.int .i64 0,.int .i64 0,.int .i64 0,.int .i64 0]::L) ap:=d
   obtain⟨⟨dl,dm⟩,d⟩:=VS d
   refine Al (WF.seq (WF.seq (WF.rp (.inl O) (AI Aa d O (mt mh) O Kd O (AA (kp [43,8,6,4] O) (WF.cut (λa w=>∃(u:Int) (y:Int),IV B ao ap (47,Mx (D186::[])) a w [(6,.pointer (some ⟨ba,0,none⟩)),(4,.pointer (some ⟨m,0,none⟩))] (Bx m 97 [.int .i64 b.Pos.Lo,.int .i64 b.Pos.Hi,.int .i64 b.Target,.int .i64 u,.int .i64 y]::UI (D186::[])::Bx ba 97 [.int .i64 0,.int .i64 0,.int .i64 0,.int .i64 0,.int .i64 0]::L) λ_ _=>AB u∧AB y∧HK N b u y=some r) ?_ ?_))))))
   ·
    refine WF.if_ O (λaq=>?_) (λaq=>?_)
    ·
     have E:=Av aq E
     refine WF.rl (LF.q 2 (QF.ldo (vs:=[.int .i64 g.2.1,.int .i64 g.2.2.1]) Aa d O mh O O Ag O O (QF.fao O Hd O (AE (HT (vs:=[.int .i64 g.2.1,.int .i64 g.2.2.1]) (cs':=[.int .i64 b.Pos.Lo,.int .i64 b.Pos.Hi,.int .i64 b.Target,.int .i64 g.2.1,.int .i64 g.2.2.1]) O O O O Ag O d (.tail (.tail .head)) O O λev b0 dn=>LF.nil (kp [6,4] O) (WF.nil (λaa ww hf hw=>?_)))))))
     have b1:=b0.sel [2,2,2] 2 O
     exact⟨g.2.1,g.2.2.1,_,_,hf.sub (kp [6,4] O),hw,b1,dn,dl,dm,E⟩
    ·
     have E:=Aw aq E
     refine WF.skip (WF.nil (λaa ww hf hw=>?_))
     have b2:=d.sel [2,2,2] 2 O
     exact⟨b.Open.Lo,b.Open.Hi,_,_,hf.sub (kp [6,4] O),hw,b2,(BO.refl ao ap),a7,a8,E⟩
   ·
    rintro aa ww ⟨u,y,ew,ey,hf,hw,ar,dp,dq,dr,E⟩
    refine WF.run ?_ hf hw
    clear hf hw ww aa
    rw[HK] at E
    refine WF.seq (WF.rl (LF.q 1 (QF.ldo (vs:=[.int .i64 b.Pos.Lo,.int .i64 b.Pos.Hi,.int .i64 b.Target,.int .i64 u,.int .i64 y]) Aa ar O mh O O GT O O (AE (Aj (vs:=[.int .i64 b.Pos.Lo,.int .i64 b.Pos.Hi,.int .i64 b.Target,.int .i64 u,.int .i64 y]) O O O O GT O ar (.tail (.tail .head)) O λez b3 ds=>LF.nil (kp [6] O) (WF.ret (λaa ww hf hw=>?_)))))))
    have b4:=b3.sel [1,1] 1 O
    have b5:=e5.trans (ay.trans (a9.trans (az.trans (be.trans (bf.trans (bg.trans (cn.trans (dk.trans (dp.trans ds)))))))))
    refine XG (vs:=[.agg #[.int .i64 b.Pos.Lo,.int .i64 b.Pos.Hi,.int .i64 b.Target,.int .i64 u,.int .i64 y]]) hf O hw b4 O b5 λw9 e0 bc au e2=>?_
    have b6:=au.drop .head
    cases E
    exact⟨(GF (Md hf bc au O mh GT O) HW),⟨O,⟨r9,b7,b8,dq,dr⟩,b6⟩⟩
  ·
   intro dt e3 e4 D217 e6 ec
   have E:=Aw dt E
   cases E
theorem Jj {k:Nat}{p0_w:Ao}{p:Value}{s:Value}{m:Value}{t:Value}{u:Value}{y:Value}{z:Value}{A:Value}{c:Value}{C:Value}{g:Value}{d:Value}(hs:St S (Bx k 106 [.string p0_w.b.Name,p,.int .i64 p0_w.b.Cells,s,m,t,u,y,z,A,.int .i64 p0_w.b.Err,.int .i64 p0_w.h.Hour,c,C,g,d]::OS AK 51 c p0_w.h.Vol::OS Ab 97 g p0_w.h.Links::OS AK 51 d p0_w.peaks::L) h) (d2:p0_w.b.Name.size≤maxLen) (d3:Sl S h AW.str p p0_w.b.Owners) (d4:AB p0_w.b.Cells) (d5:Sl S h A7 s p0_w.b.Places) (a3:Sl S h A0 m p0_w.b.Links) (d6:Sl S h FI t p0_w.b.Towns) (d7:Sl S h C9 u p0_w.b.Gauges) (d8:Sl S h FD y p0_w.b.Roads) (d9:Sl S h B9 z p0_w.b.Shelters) (ea:Sl S h AW.int A p0_w.b.Room) (cb:AB p0_w.b.Err) (cc:AB p0_w.h.Hour) (an:Sl S h BE C p0_w.h.Queue) {J:Value}{Q:(List AF)}(M:Sl S h AK J Q) {r:(List Ay)×(List AT)×(List AF)}(E:Gf N p0_w Q=some r):
 BP Tryz.prog 51 #[.pointer (some ⟨k,0,none⟩),J] S h (λv S' h'=>∃w_0_13 w_0_14 w_0_15:Value,v= .tuple #[]∧St S' (Bx k 106 [.string p0_w.b.Name,p,.int .i64 p0_w.b.Cells,s,m,t,u,y,z,A,.int .i64 p0_w.b.Err,.int .i64 p0_w.h.Hour,c,w_0_13,w_0_14,w_0_15]::OS AK 51 c p0_w.h.Vol::OS BE 93 w_0_13 r.1::OS Ab 97 w_0_14 r.2.1::OS AK 51 w_0_15 r.2.2::L) h'):=by
 refine Ac (l:=[.pointer (some ⟨k,0,none⟩),J]) 162 Tryz.func51 O Tryz.ntmps51 O λB=>?_
 rw[Gf] at E
 refine WF.seq (WF.seq (WF.rp (.inl O) (QF.mv O O (Dj O O (QF.fao O Do O (QF.fao O GX O (AI Aa hs O mh O Fq O (QF.leno hs (mt mh) O EM O λb1=>QF.mv O O (AA (kp [19,18,17,0,1] O) (WF.blockJ (λa w=>∃(l2:List AF),IV B S h (162,[]) a w [(0,.pointer (some ⟨k,0,none⟩))] (Bx k 106 [.string p0_w.b.Name,p,.int .i64 p0_w.b.Cells,s,m,t,u,y,z,A,.int .i64 p0_w.b.Err,.int .i64 p0_w.h.Hour,c,C,g,d]::OS AK 51 c p0_w.h.Vol::OS Ab 97 g p0_w.h.Links::OS AK 51 d l2::L) λ_ _=>Dc N p0_w l2=some r) ?_ ?_))))))))))
 ·
  refine WF.loopF (λn1=>λa w=>∃(i6:Int) (l8:List AF),IV B S h (162,[]) a w [(18,.int .i64 (↑p0_w.h.Vol.length:Int)),(17,c),(0,.pointer (some ⟨k,0,none⟩)),(1,J),(19,.int .i64 i6)] (Bx k 106 [.string p0_w.b.Name,p,.int .i64 p0_w.b.Cells,s,m,t,u,y,z,A,.int .i64 p0_w.b.Err,.int .i64 p0_w.h.Hour,c,C,g,d]::OS AK 51 c p0_w.h.Vol::OS Ab 97 g p0_w.h.Links::OS AK 51 d l8::L) λ_ _=>AB i6∧B6 N p0_w Q (Dc N p0_w) n1 i6 l8=some r) N ?_ ?_ ?_
  ·
   intro aa ww hf hw
   exact⟨0,p0_w.peaks,_,_,hf.sub (kp [18,17,0,1,19] O),hw,hs,(BO.refl S h),(iq (n:=0) O),E⟩
  ·
   rintro aa ww ⟨_,_,_,_,_,_,_,_,_,E⟩
   rw[B6] at E;cases E
  ·
   rintro n1 aa ww ⟨i6,l8,S9,js,hf,hw,aw,a4,r7,E⟩
   refine WF.run ?_ hf hw
   clear hf hw ww aa
   rw[B6] at E
   refine WF.seq (WF.rp (.inl O) (QF.lss O O O (AA (kp [20,18,17,0,1,19] O) (WF.seq (WF.if_ O (λcd=>?_) (λcd=>?_))))))
   ·
    have E:=Av cd E
    refine WF.skip (WF.seq (WF.block (WF.seq (WF.rl (LF.q 3 (QF.mv O O ?_))))))
    obtain⟨jt,eb,E⟩:=bd E
    refine QF.ixoe aw (mt mh) O O EM eb O λju ec=>?_
    obtain⟨ao,ed,E⟩:=bd E
    have ha:=aw.epAt (mt mh) ed D8.id ec
    refine QF.ld Aa (λ_ x=>x) O ha Ag (λe=>by cases e) O λjv hb=>AE (LF.al EL O aw λee jw ef a5=>LF.q 1 (QF.as_ O O (AE ?_)))
    have hc:=hb.mono a5
    obtain⟨rfl,⟨eg,eh⟩⟩:=AK.ex hc
    refine Aj (vs:=[.int .i64 ao.Lo,.int .i64 ao.Hi]) O O O O Ag O ef .head O λjx ax a6=>LF.nil (kp [4,5,18,17,0,1,19] O) (WF.seq (WF.seq (WF.rc (.inl O) ax (QF.mv O O (QF.mv O O ?_)))))
    have ei:=a4.trans (a5.trans a6)
    have hd:=M.mono' ei
    refine QF.len O hd EM O λjy=>QF.lss O O O (QF.mv O O ?_)
    obtain⟨ej,U,E⟩:=bd E
    refine QF.cutv 6 34 (.bool ej) ?_ ?_
    ·
     cases ek:(decide (i6<(↑Q.length:Int)))
     ·
      have U:=Aw ek U
      cases U
      exact AL O O
     ·
      have U:=Av ek U
      refine QF.gy O O O (QF.mv O O (QF.gy O O O (QF.mv O O (QF.gy O O O ?_))))
      have el:=a4.trans (a5.trans a6)
      have he:=M.mono' el
      obtain⟨jz,em,U⟩:=bd U
      refine QF.ixe O O he EM em O λj0 hg=>QF.gy O O O (QF.ld Ak ax.1 O hg Ag (λe=>by cases e) O λj1 hh=>QF.gy O O O ?_)
      obtain⟨j2,en,U⟩:=bd U
      refine AZ O O O P5 O (λh' o=>Gb (St.all h') (hh.mono (o.all ax.1)) en) (QF.pick O O O ?_)
      cases U
      exact AH O
    refine QF.mv O O ?_
    obtain⟨hi,W,E⟩:=bd E
    refine QF.cutv 7 42 (.bool hi) ?_ ?_
    ·
     cases eo:ej
     ·
      have W:=Aw eo W
      cases W
      exact AL O O
     ·
      have W:=Av eo W
      refine QF.gy O O O (QF.mv O O (QF.gy O O O (QF.mv O O (QF.gy O O O ?_))))
      have ep:=a4.trans (a5.trans a6)
      have hj:=M.mono' ep
      obtain⟨j3,eq,W⟩:=bd W
      refine QF.ixe O O hj EM eq O λj4 hk=>QF.gy O O O (QF.fa O hk AF.f_Lo Cj O λj5 hl=>QF.gy O O O (QF.ldi Ak ax.1 O hl AN O λj6=>QF.gy O O O (QF.geq O O O (QF.pick O O O ?_))))
      cases W
      exact AH O
    refine Ai (kp [42,4,5,18,17,0,1,19] O) λer ai es=>WF.cut (λa w=>∃(ap:Int) (aq:Int),IV B S9 er (162,[]) a w [(4,.int .i64 i6),(5,.pointer (some ⟨ee,0,none⟩)),(18,.int .i64 (↑p0_w.h.Vol.length:Int)),(17,c),(0,.pointer (some ⟨k,0,none⟩)),(1,J),(19,.int .i64 i6)] (Bx ee 51 [.int .i64 ap,.int .i64 aq]::Bx k 106 [.string p0_w.b.Name,p,.int .i64 p0_w.b.Cells,s,m,t,u,y,z,A,.int .i64 p0_w.b.Err,.int .i64 p0_w.h.Hour,c,C,g,d]::OS AK 51 c p0_w.h.Vol::OS Ab 97 g p0_w.h.Links::OS AK 51 d l8::L) λ_ _=>AB ap∧AB aq∧Eh N i6 l8 (B6 N p0_w Q (Dc N p0_w) n1) ap aq=some r) ?_ ?_
    ·
     refine WF.if_ O (λce=>?_) (λce=>?_)
     ·
      have E:=Av ce E
      refine EC 6 mo (by kernel_rfl) O ai (QF.ldo (vs:=[.int .i64 ao.Lo,.int .i64 ao.Hi]) Ak ai O mh O O Ag O O (QF.mv O O (QF.mv O O ?_)))
      have et:=a4.trans (a5.trans (a6.trans es))
      have hm:=M.mono' et
      obtain⟨j7,eu,E⟩:=bd E
      refine QF.ixe O O hm EM eu O λj8 hn=>QF.ld Ak ai.1 O hn Ag (λe=>by cases e) O λj9 ho=>?_
      obtain⟨bp,ev,E⟩:=bd E
      refine Af O O O QV O (λh' o=>Jg (St.all h') (AK.mk (x:=ao) ⟨eg,eh⟩) (ho.mono (o.all ai.1)) ev) λhp=>?_
      obtain⟨hq,hr⟩:=hp
      refine C1 λka ew ht=>Aj (vs:=[.int .i64 bp.Lo,.int .i64 bp.Hi]) O O O O Ag O ew .head O λkb ey hu=>LF.nil (kp [4,5,18,17,0,1,19] O) (WF.nil (λaa ww hf hw=>?_))
      exact⟨bp.Lo,bp.Hi,_,_,hf.sub (kp [4,5,18,17,0,1,19] O),hw,ey,(ht.trans hu),hq,hr,E⟩
     ·
      have E:=Aw ce E
      refine WF.skip (WF.nil (λaa ww hf hw=>?_))
      exact⟨ao.Lo,ao.Hi,_,_,hf.sub (kp [4,5,18,17,0,1,19] O),hw,ai,(BO.refl S9 er),eg,eh,E⟩
    ·
     rintro aa ww ⟨ap,aq,kc,kd,hf,hw,ay,hv,hx,hy,E⟩
     refine WF.run ?_ hf hw
     clear hf hw ww aa
     rw[Eh] at E
     refine N0 7 mo (by kernel_rfl) O (QF.mv O O (Dj O O (QF.fao O Fu O (AI Aa ay O (mt mh) O Fq O (QF.mv O O (QF.ldo (vs:=[.int .i64 ap,.int .i64 aq]) Aa ay O mh O O Ag O O ?_))))))
     obtain⟨ke,ez,E⟩:=bd E
     refine QF.ixoe ay (mt (mt (mt (mt mh)))) O O EM ez O λkf e0=>AE ?_
     obtain⟨hz,e1,E⟩:=bd E
     refine LF.ste (r:=AK) (l:=l8) (i:=i6) (x:=hz) O O (AK.mk (x:=(⟨ap,aq⟩:AF)) ⟨hx,hy⟩) e0 e1 MS.id Ag (λe=>by cases e) ay (.tail (.tail (.tail (.tail .head)))) λkg e2 h0=>LF.nil (kp [18,17,0,1,19] O) (Al (WF.rp (.inl O) (QF.addw O O O (QF.mv O O (AA (kp [19,18,17,0,1] O) (WF.nil (λaa ww hf hw=>?_)))))))
     have e3:=e2.sel [1,1,1,1] 1 O
     have e4:=a4.trans (a5.trans (a6.trans (es.trans (hv.trans h0))))
     exact⟨(Ar (i6+1)),(upd l8 i6 (⟨ap,aq⟩:AF)),_,_,hf.sub (kp [18,17,0,1,19] O),hw,e3,e4,(Au _),E⟩
   ·
    have E:=Aw cd E
    refine WF.exit O (λaa ww hf hw=>?_)
    exact⟨l8,_,_,hf.sub (kp [0] O),hw,aw,a4,E⟩
 ·
  rintro aa ww ⟨l2,cf,cg,hf,hw,bq,ch,E⟩
  refine WF.run ?_ hf hw
  clear hf hw ww aa
  rw[Dc] at E
  refine WF.seq (WF.rp (.inl O) (QF.as_ O O (AA (kp [6,0] O) (WF.seq (WF.seq (WF.rp (.inl O) (QF.mv O O (Dj O O (QF.fao O Do O (QF.fao O HG O (AI Aa bq O mh O J4 O ?_)))))))))))
  have e5:=an.mono' ch
  refine QF.len O e5 EZ O λkh=>QF.mv O O (AA (kp [63,62,61,6,0] O) (WF.blockJ (λa w=>∃(a7:Value) (F:List Ay) (ad:List AF),IV B cf cg (162,[]) a w [(0,.pointer (some ⟨k,0,none⟩)),(6,a7)] (OS BE 93 a7 F::Bx k 106 [.string p0_w.b.Name,p,.int .i64 p0_w.b.Cells,s,m,t,u,y,z,A,.int .i64 p0_w.b.Err,.int .i64 p0_w.h.Hour,c,C,g,d]::OS AK 51 c p0_w.h.Vol::OS Ab 97 g p0_w.h.Links::OS AK 51 d ad::L) λ_ _=>Db N p0_w F ad=some r) ?_ ?_))
  ·
   refine WF.loopF (λn4=>λa w=>∃(aj:Value) (X:List Ay) (Y:Int) (Z:List AF),IV B cf cg (162,[]) a w [(62,.int .i64 (↑p0_w.h.Queue.length:Int)),(61,C),(0,.pointer (some ⟨k,0,none⟩)),(6,aj),(63,.int .i64 Y)] (OS BE 93 aj X::Bx k 106 [.string p0_w.b.Name,p,.int .i64 p0_w.b.Cells,s,m,t,u,y,z,A,.int .i64 p0_w.b.Err,.int .i64 p0_w.h.Hour,c,C,g,d]::OS AK 51 c p0_w.h.Vol::OS Ab 97 g p0_w.h.Links::OS AK 51 d Z::L) λ_ _=>AB Y∧B5 N p0_w (Db N p0_w) n4 X Y Z=some r) N ?_ ?_ ?_
   ·
    intro aa ww hf hw
    have ci:=bq.nil BE 93
    exact⟨(.slice none 0 0),([]),0,l2,_,_,hf.sub (kp [62,61,0,6,63] O),hw,ci,(BO.refl cf cg),(iq (n:=0) O),E⟩
   ·
    rintro aa ww ⟨_,_,_,_,_,_,_,_,_,_,_,E⟩
    rw[B5] at E;cases E
   ·
    rintro n4 aa ww ⟨aj,X,Y,Z,e6,e7,hf,hw,ar,a8,h1,E⟩
    refine WF.run ?_ hf hw
    clear hf hw ww aa
    rw[B5] at E
    refine WF.seq (WF.rp (.inl O) (QF.lss O O O (AA (kp [64,62,61,0,6,63] O) (WF.seq (WF.if_ O (λa9=>?_) (λa9=>?_))))))
    ·
     have E:=Av a9 E
     refine WF.skip (WF.seq (WF.blockJ (λa w=>∃(az:Value) (a0:List Ay) (a1:List AF),IV B e6 e7 (162,[]) a w [(62,.int .i64 (↑p0_w.h.Queue.length:Int)),(61,C),(0,.pointer (some ⟨k,0,none⟩)),(63,.int .i64 Y),(6,az)] (OS BE 93 az a0::Bx k 106 [.string p0_w.b.Name,p,.int .i64 p0_w.b.Cells,s,m,t,u,y,z,A,.int .i64 p0_w.b.Err,.int .i64 p0_w.h.Hour,c,C,g,d]::OS AK 51 c p0_w.h.Vol::OS Ab 97 g p0_w.h.Links::OS AK 51 d a1::L) λ_ _=>Eg N Y (B5 N p0_w (Db N p0_w) n4) a0 a1=some r) ?_ ?_))
     ·
      refine WF.seq (WF.rl (LF.q 2 ?_))
      have e8:=e5.mono' a8
      obtain⟨G,cj,E⟩:=bd E
      refine QF.ixe O O e8 EZ cj O λh2 e9=>QF.ld Aa ar.1 O e9 Ij (λe=>by cases e) O λh3 fb=>AE (LF.al Qg O ar λh4 h5 ck ba=>?_)
      have fc:=fb.mono ba
      obtain⟨rfl,⟨fd,fe,br,bt⟩⟩:=BE.ex fc
      refine Aj (vs:=[.int .i64 G.At,.int .i64 G.To,.int .i64 G.Vol.Lo,.int .i64 G.Vol.Hi]) O O O O Ij O ck .head O λh6 H bu=>LF.nil (kp [8,62,61,0,6,63] O) (WF.seq (WF.rp (.inr ⟨mo,by kernel_rfl⟩) (QF.fao O ME O (AI Aa H O mh O AN O (QF.mv O O (Dj O O (QF.fao O Do O (QF.fao O Ia O (AI Aa H O (mt (mt mh)) O AN O (QF.leq O O O (AA (kp [74,8,62,61,0,6,63] O) (WF.if_ O (λbb=>?_) (λbb=>?_)))))))))))))
      ·
       have E:=Av bb E
       refine EC 18 mo (by kernel_rfl) O H (QF.mv O O (Dj O O (QF.fao O Fu O (AI Ak H O (mt (mt mh)) O Fq O (QF.fao O LD O (AI Ak H O mh O AN O (QF.mv O O (Dj O O (QF.fao O Fu O (AI Ak H O (mt (mt mh)) O Fq O (QF.fao O LD O (AI Ak H O mh O AN O ?_))))))))))))
       obtain⟨h7,cl,E⟩:=bd E
       refine QF.ixoe H (mt (mt (mt (mt (mt mh))))) O O EM cl O λh8 cm=>?_
       obtain⟨h9,cn,E⟩:=bd E
       have ff:=H.epAt (mt (mt (mt (mt (mt mh))))) cn D8.id cm
       refine QF.ld Ak (λ_ x=>x) O ff Ag (λe=>by cases e) O λia fg=>QF.fao O JA O (QF.ldo (vs:=[.int .i64 G.Vol.Lo,.int .i64 G.Vol.Hi]) Ak H O mh O O Ag O O ?_)
       obtain⟨bv,co,E⟩:=bd E
       refine Af O O O QV O (λh' o=>Jg (St.all h') (fg.mono (o.all H.1)) (AK.mk (x:=G.Vol) ⟨br,bt⟩) co) λfh=>?_
       obtain⟨fi,fj⟩:=fh
       obtain⟨ib,cp,E⟩:=bd E
       refine QF.ixoe H (mt (mt (mt (mt (mt mh))))) O O EM cp O λic cq=>C1 λie cr fk=>?_
       obtain⟨fl,ct,E⟩:=bd E
       refine LF.ste (r:=AK) (l:=Z) (i:=G.To) (x:=fl) O O (AK.mk (x:=bv) ⟨fi,fj⟩) cq ct MS.id Ag (λe=>by cases e) cr (.tail (.tail (.tail (.tail (.tail .head))))) λig cu fm=>LF.nil (kp [62,61,0,6,63] O) (WF.nil (λaa ww hf hw=>?_))
       have cv:=cu.sel [1,1,1,1,1] 1 O
       have cw:=ba.trans (bu.trans (fk.trans fm))
       exact⟨aj,X,(upd Z G.To bv),_,_,hf.sub (kp [62,61,0,63,6] O),hw,cv,cw,E⟩
      ·
       have E:=Aw bb E
       refine WF.rl (LF.q 2 (QF.mv O O (QF.ldo (vs:=[.int .i64 G.At,.int .i64 G.To,.int .i64 G.Vol.Lo,.int .i64 G.Vol.Hi]) Aa H O mh O O Ij O O (AE (Gn (cs:=[.int .i64 G.At,.int .i64 G.To,.int .i64 G.Vol.Lo,.int .i64 G.Vol.Hi]) P0 O O O O O O O H λih ii cx fn=>?_)))))
       obtain⟨cy,E⟩:=O4 E
       refine LF.app2 (r:=BE) (l:=X) (xs:=([G]:List Ay)) O O P0 O mh ⟨_,_,O,⟨O,⟨fd,fe,br,bt⟩⟩,O⟩ O O cy O cx (λ_=>(.tail (.tail .head))) λfo ij cz fp=>?_
       have c0:=cz.drop .head
       refine LF.q 1 (QF.as_ O O (AE (LF.nil (kp [6,62,61,0,63] O) (WF.nil (λaa ww hf hw=>?_)))))
       have c1:=c0.sel [1,1,1,1,1] 1 O
       have c2:=ba.trans (bu.trans (fn.trans fp))
       exact⟨fo,(X++([G]:List Ay)),Z,_,_,hf.sub (kp [62,61,0,63,6] O),hw,c1,c2,E⟩
     ·
      rintro aa ww ⟨az,a0,a1,ik,il,hf,hw,c3,fq,E⟩
      refine WF.run ?_ hf hw
      clear hf hw ww aa
      rw[Eg] at E
      refine WF.rp (.inl O) (QF.addw O O O (QF.mv O O (AA (kp [63,62,61,0,6] O) (WF.nil (λaa ww hf hw=>?_)))))
      exact⟨az,a0,(Ar (Y+1)),a1,_,_,hf.sub (kp [62,61,0,6,63] O),hw,c3,(a8.trans fq),(Au _),E⟩
    ·
     have E:=Aw a9 E
     refine WF.exit O (λaa ww hf hw=>?_)
     exact⟨aj,X,Z,_,_,hf.sub (kp [0,6] O),hw,ar,a8,E⟩
  ·
   rintro aa ww ⟨a7,F,ad,bc,im,hf,hw,be,bw,E⟩
   refine WF.run ?_ hf hw
   clear hf hw ww aa
   rw[Db] at E
   refine WF.seq (WF.rl (LF.q 5 (QF.mv O O (QF.mv O O (Dj O O (QF.fao O Do O (QF.fao O HG O (AE ?_))))))))
   obtain⟨K,I,rfl,io⟩:=be.oslen mh
   refine HT (vs:=[(.slice K F.length I)]) (cs':=[.string p0_w.b.Name,p,.int .i64 p0_w.b.Cells,s,m,t,u,y,z,A,.int .i64 p0_w.b.Err,.int .i64 p0_w.h.Hour,c,(.slice K F.length I),g,d]) O O O O J4 O be (.tail .head) O O λbf au bx=>LF.nil (kp [0] O) (WF.seq (WF.seq (WF.rp (.inl O) (QF.mv O O (Dj O O (QF.fao O Fu O (AI Aa au O (mt mh) O Fq O (QF.leno au (mt (mt (mt (mt mh)))) O EM O λip=>QF.mv O O (AA (kp [108,107,106,0] O) (WF.blockJ (λa w=>∃(ab:List AF),IV B bc bf (162,[]) a w [(0,.pointer (some ⟨k,0,none⟩))] (OS BE 93 (.slice K F.length I) F::Bx k 106 [.string p0_w.b.Name,p,.int .i64 p0_w.b.Cells,s,m,t,u,y,z,A,.int .i64 p0_w.b.Err,.int .i64 p0_w.h.Hour,c,(.slice K F.length I),g,d]::OS AK 51 c p0_w.h.Vol::OS Ab 97 g p0_w.h.Links::OS AK 51 d ab::L) λ_ _=>Ef N p0_w F ab=some r) ?_ ?_))))))))))
   ·
    refine WF.loopF (λn7=>λa w=>∃(ac:Int) (ae:List AF),IV B bc bf (162,[]) a w [(107,.int .i64 (↑ad.length:Int)),(106,d),(0,.pointer (some ⟨k,0,none⟩)),(108,.int .i64 ac)] (OS BE 93 (.slice K F.length I) F::Bx k 106 [.string p0_w.b.Name,p,.int .i64 p0_w.b.Cells,s,m,t,u,y,z,A,.int .i64 p0_w.b.Err,.int .i64 p0_w.h.Hour,c,(.slice K F.length I),g,d]::OS AK 51 c p0_w.h.Vol::OS Ab 97 g p0_w.h.Links::OS AK 51 d ae::L) λ_ _=>AB ac∧Da N ad (Ef N p0_w F) n7 ac ae=some r) N ?_ ?_ ?_
    ·
     intro aa ww hf hw
     exact⟨0,ad,_,_,hf.sub (kp [107,106,0,108] O),hw,au,(BO.refl bc bf),(iq (n:=0) O),E⟩
    ·
     rintro aa ww ⟨_,_,_,_,_,_,_,_,_,E⟩
     rw[Da] at E;cases E
    ·
     rintro n7 aa ww ⟨ac,ae,ir,it,hf,hw,ag,bz,iu,E⟩
     refine WF.run ?_ hf hw
     clear hf hw ww aa
     rw[Da] at E
     refine WF.seq (WF.rp (.inl O) (QF.lss O O O (AA (kp [109,107,106,0,108] O) (WF.seq (WF.if_ O (λbg=>?_) (λbg=>?_))))))
     ·
      have E:=Av bg E
      refine WF.skip (WF.seq (WF.block (WF.seq (WF.rl (LF.q 3 (QF.mv O O ?_))))))
      obtain⟨iv,c4,E⟩:=bd E
      refine QF.ixoe ag (mt (mt (mt (mt mh)))) O O EM c4 O λiw c5=>?_
      obtain⟨ak,c6,E⟩:=bd E
      have fr:=ag.epAt (mt (mt (mt (mt mh)))) c6 D8.id c5
      refine QF.ld Aa (λ_ x=>x) O fr Ag (λe=>by cases e) O λiy fs=>AE (LF.al EL O ag λiz i0 c7 b0=>LF.q 1 (QF.as_ O O (AE ?_)))
      have ft:=fs.mono b0
      obtain⟨rfl,⟨fu,fv⟩⟩:=AK.ex ft
      refine Aj (vs:=[.int .i64 ak.Lo,.int .i64 ak.Hi]) O O O O Ag O c7 .head O λi1 ah fw=>LF.nil (kp [9,10,107,106,0,108] O) (EC 8 mo (by kernel_rfl) O ah (QF.mv O O (Dj O O (QF.fao O Fu O (AI Ak ah O (mt (mt mh)) O Fq O (QF.mv O O (QF.ldo (vs:=[.int .i64 ak.Lo,.int .i64 ak.Hi]) Ak ah O mh O O Ag O O ?_)))))))
      obtain⟨b2,c8,E⟩:=bd E
      refine Af O O O QU O (λh' o=>Hv (St.all h') (AK.mk (x:=ak) ⟨fu,fv⟩) c8) λfx=>?_
      obtain⟨fy,fz⟩:=fx
      obtain⟨i2,c9,E⟩:=bd E
      refine QF.ixoe ah (mt (mt (mt (mt (mt mh))))) O O EM c9 O λi3 da=>C1 λi4 db f0=>?_
      obtain⟨f1,dc,E⟩:=bd E
      refine LF.ste (r:=AK) (l:=ae) (i:=ac) (x:=f1) O O (AK.mk (x:=b2) ⟨fy,fz⟩) da dc MS.id Ag (λe=>by cases e) db (.tail (.tail (.tail (.tail (.tail .head))))) λi5 dd f2=>LF.nil (kp [107,106,0,108] O) (Al (WF.rp (.inl O) (QF.addw O O O (QF.mv O O (AA (kp [108,107,106,0] O) (WF.nil (λaa ww hf hw=>?_)))))))
      have de:=dd.sel [1,1,1,1,1] 1 O
      have df:=bz.trans (b0.trans (fw.trans (f0.trans f2)))
      exact⟨(Ar (ac+1)),(upd ae ac b2),_,_,hf.sub (kp [107,106,0,108] O),hw,de,df,(Au _),E⟩
     ·
      have E:=Aw bg E
      refine WF.exit O (λaa ww hf hw=>?_)
      exact⟨ae,_,_,hf.sub (kp [0] O),hw,ag,bz,E⟩
   ·
    rintro aa ww ⟨ab,b3,b4,hf,hw,bh,b5,E⟩
    refine WF.run ?_ hf hw
    clear hf hw ww aa
    rw[Ef] at E
    refine WF.seq (WF.rp (.inl O) (QF.mv O O (Dj O O (QF.fao O Fv O (QF.fao O EE O (AI Aa bh O (mt mh) O G7 O ?_))))))
    have dg:=ch.trans (bw.trans (bx.trans b5))
    have b6:=a3.mono' dg
    refine QF.len O b6 FT O λi7=>QF.mv O O (AA (kp [128,127,126,0] O) (WF.block (WF.loopF (λn8=>λa w=>∃(V:Int) (af:List AT),IV B b3 b4 (162,[]) a w [(127,.int .i64 (↑p0_w.b.Links.length:Int)),(126,m),(0,.pointer (some ⟨k,0,none⟩)),(128,.int .i64 V)] (OS BE 93 (.slice K F.length I) F::Bx k 106 [.string p0_w.b.Name,p,.int .i64 p0_w.b.Cells,s,m,t,u,y,z,A,.int .i64 p0_w.b.Err,.int .i64 p0_w.h.Hour,c,(.slice K F.length I),g,d]::OS AK 51 c p0_w.h.Vol::OS Ab 97 g af::OS AK 51 d ab::L) λ_ _=>AB V∧B4 N p0_w F ab n8 V af=some r) N ?_ ?_ ?_)))
    ·
     intro aa ww hf hw
     exact⟨0,p0_w.h.Links,_,_,hf.sub (kp [127,126,0,128] O),hw,bh,(BO.refl b3 b4),(iq (n:=0) O),E⟩
    ·
     rintro aa ww ⟨_,_,_,_,_,_,_,_,_,E⟩
     rw[B4] at E;cases E
    ·
     rintro n8 aa ww ⟨V,af,f3,f4,hf,hw,av,bi,i8,E⟩
     refine WF.run ?_ hf hw
     clear hf hw ww aa
     rw[B4] at E
     refine WF.seq (WF.rp (.inl O) (QF.lss O O O (AA (kp [129,127,126,0,128] O) (WF.seq (WF.if_ O (λbj=>?_) (λbj=>?_))))))
     ·
      have E:=Av bj E
      refine WF.skip (WF.seq (WF.blockJ (λa w=>∃(a2:List AT),IV B f3 f4 (162,[]) a w [(127,.int .i64 (↑p0_w.b.Links.length:Int)),(126,m),(0,.pointer (some ⟨k,0,none⟩)),(128,.int .i64 V)] (OS BE 93 (.slice K F.length I) F::Bx k 106 [.string p0_w.b.Name,p,.int .i64 p0_w.b.Cells,s,m,t,u,y,z,A,.int .i64 p0_w.b.Err,.int .i64 p0_w.h.Hour,c,(.slice K F.length I),g,d]::OS AK 51 c p0_w.h.Vol::OS Ab 97 g a2::OS AK 51 d ab::L) λ_ _=>Ee N V (B4 N p0_w F ab n8) a2=some r) ?_ ?_))
      ·
       refine WF.seq (WF.rl (LF.q 3 (QF.mv O O ?_)))
       have f5:=b6.mono' bi
       obtain⟨j,dh,E⟩:=bd E
       refine QF.ixe O O f5 FT dh O λi9 f6=>QF.ld Aa av.1 O f6 C3 (λe=>by cases e) O λja f7=>AE (LF.al KX O av λjb jc di bk=>LF.q 1 (QF.as_ O O (AE ?_)))
       have f8:=f7.mono bk
       obtain⟨bl,bm,bn,rfl,f9,ga,gb,gc,b7,b8,b9,ge,gf,gg,gh,gi,gj,gk,gl,gm,gp,gq⟩:=A0.ex f8
       refine LF.st (vs:=[.string j.Name,.int .i64 j.Kind,.int .i64 j.From,.int .i64 j.To,bl,bm,bn,.int .i64 j.Positions,.int .i64 j.Speed,.int .i64 j.Leak,.int .i64 j.Crest,.int .i64 j.Num,.int .i64 j.Den,.int .i64 j.Prime,.int .i64 j.Break,.int .i64 j.BackNum,.int .i64 j.BackDen,.int .i64 j.Delay]) (cs':=[.string j.Name,.int .i64 j.Kind,.int .i64 j.From,.int .i64 j.To,bl,bm,bn,.int .i64 j.Positions,.int .i64 j.Speed,.int .i64 j.Leak,.int .i64 j.Crest,.int .i64 j.Num,.int .i64 j.Den,.int .i64 j.Prime,.int .i64 j.Break,.int .i64 j.BackNum,.int .i64 j.BackDen,.int .i64 j.Delay]) O O O (AC O (AC O (AC O (AC O (AC b7.one (AC b8.one (AC b9.one (AC O (AC O (AC O (AC O (AC O (AC O (AC O (AC O (AC O (AC O (AC O C6)))))))))))))))))) C3 O di .head O O λjd D am=>LF.nil (kp [11,12,127,126,0,128] O) (WF.seq (WF.rp (.inl O) (QF.fao O Ck O (AI Aa D O mh O AN O (QF.eql O O O (AA (kp [135,11,12,127,126,0,128] O) (WF.if_ O (λbo=>?_) (λbo=>?_))))))))
       ·
        have E:=Av bo E
        refine EC 25 mo (by kernel_rfl) O D (QF.mv O O (Dj O O (QF.fao O Do O (QF.fao O FV O (AI Ak D O (mt (mt mh)) O H9 O (QF.mv O O (QF.ldo (vs:=[.string j.Name,.int .i64 j.Kind,.int .i64 j.From,.int .i64 j.To,bl,bm,bn,.int .i64 j.Positions,.int .i64 j.Speed,.int .i64 j.Leak,.int .i64 j.Crest,.int .i64 j.Num,.int .i64 j.Den,.int .i64 j.Prime,.int .i64 j.Break,.int .i64 j.BackNum,.int .i64 j.BackDen,.int .i64 j.Delay]) Ak D O mh O O C3 O O (QF.mv O O (Dj O O (QF.fao O Do O (QF.fao O FV O (AI Ak D O (mt (mt mh)) O H9 O (QF.mv O O ?_)))))))))))))
        obtain⟨je,dj,E⟩:=bd E
        refine QF.ixoe D (mt (mt (mt (mt mh)))) O O Il dj O λjf dk=>?_
        obtain⟨jg,dl,E⟩:=bd E
        have gr:=D.epAt (mt (mt (mt (mt mh)))) dl D8.id dk
        refine QF.ld Ak (λ_ x=>x) O gr GT (λe=>by cases e) O λjh gs=>QF.mv O O (Dj O O (QF.fao O Fu O (AI Ak D O (mt (mt mh)) O Fq O (QF.fao O Gd O (AI Ak D O mh O AN O ?_)))))
        obtain⟨ji,dm,E⟩:=bd E
        refine QF.ixoe D (mt (mt (mt (mt (mt mh))))) O O EM dm O λjj dn=>?_
        obtain⟨jk,dp,E⟩:=bd E
        have gu:=D.epAt (mt (mt (mt (mt (mt mh))))) dp D8.id dn
        refine QF.ld Ak (λ_ x=>x) O gu Ag (λe=>by cases e) O λjl gv=>?_
        have gw:=b7.mono' am
        have gx:=b8.mono' am
        have gz:=b9.mono' am
        obtain⟨ca,dq,E⟩:=bd E
        refine Af O O O WZ O (λh' o=>NU (St.all h') (A0.mk (x:=j) f9 ga gb gc (gw.mono' (o.all D.1)) (gx.mono' (o.all D.1)) (gz.mono' (o.all D.1)) ge gf gg gh gi gj gk gl gm gp gq) (gs.mono (o.all D.1)) (gv.mono (o.all D.1)) dq) λg0=>?_
        obtain⟨g1,g2,g3,g4,g5⟩:=g0
        obtain⟨jm,dr,E⟩:=bd E
        refine QF.ixoe D (mt (mt (mt (mt mh)))) O O Il dr O λjn ds=>C1 λjo dt g6=>?_
        obtain⟨g7,du,E⟩:=bd E
        refine LF.ste (r:=Ab) (l:=af) (i:=V) (x:=g7) O O (Ab.mk (x:=ca) ⟨g1,g2,g3,g4,g5⟩) ds du MS.id GT (λe=>by cases e) dt (.tail (.tail (.tail (.tail .head)))) λjp dv g8=>LF.nil (kp [127,126,0,128] O) (WF.nil (λaa ww hf hw=>?_))
        have dw:=dv.sel [1,1,1,1,1] 1 O
        have dx:=bk.trans (am.trans (g6.trans g8))
        exact⟨(upd af V ca),_,_,hf.sub (kp [127,126,0,128] O),hw,dw,dx,E⟩
       ·
        have E:=Aw bo E
        refine WF.skip (WF.nil (λaa ww hf hw=>?_))
        have dy:=D.sel [1,1,1,1,1] 1 O
        exact⟨af,_,_,hf.sub (kp [127,126,0,128] O),hw,dy,(bk.trans am),E⟩
      ·
       rintro aa ww ⟨a2,jq,jr,hf,hw,dz,g9,E⟩
       refine WF.run ?_ hf hw
       clear hf hw ww aa
       rw[Ee] at E
       refine WF.rp (.inl O) (QF.addw O O O (QF.mv O O (AA (kp [128,127,126,0] O) (WF.nil (λaa ww hf hw=>?_)))))
       exact⟨(Ar (V+1)),a2,_,_,hf.sub (kp [127,126,0,128] O),hw,dz,(bi.trans g9),(Au _),E⟩
     ·
      have E:=Aw bj E
      refine Ja O (WF.nil (λaa ww hf hw=>?_))
      have d0:=av.sel [1,1,0,0,0] 0 O
      cases E
      have d1:=ch.trans (bw.trans (bx.trans (b5.trans bi)))
      exact Hb hf O hw HW O d1 ⟨_,_,_,O,d0⟩
end Go.Proofs.YtibidnaedddfdaaGreat
