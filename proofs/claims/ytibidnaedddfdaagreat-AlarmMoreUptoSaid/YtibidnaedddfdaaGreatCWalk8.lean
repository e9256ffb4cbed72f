import Derived.Test.YtibidnaedddfdaaGreatCWalk7
namespace Go.Proofs.YtibidnaedddfdaaGreat
open Go.RowKit
set_option linter.unusedVariables false
set_option linter.unusedSimpArgs false
set_option maxRecDepth 10000
set_option maxHeartbeats 2000000
variable {N:Nat}{S:Nat→Prop}{L:List HP}{h:AX}
theorem JL (hs:St S L h) {a:Value}{i:AD}(d:Rd S h AF a i) {b:Value}{j:AD}(g:Rd S h AF b j) {r:AD}(E:F5 N i j=some r):
 Bf Tryz.prog 102 #[a,b] S h (λv S' h'=>v= .agg #[.int .i64 r.Lo,.int .i64 r.Hi]∧AD.ok r∧St S' (L) h'):=by
 refine Ab (l:=[a,b]) 16 Tryz.func102 O Tryz.ntmps102 O λB=>?_
 rw[F5] at E
 refine WF.seq (WF.rl (LF.boxp O d (λe=>by cases e) O hs λq1 S2 h3 C e5 k6=>?_))
 have k7:=g.mono e5
 refine LF.boxp O k7 (λe=>by cases e) O C λq8 S9 ab n p D=>LF.al Ee O n λac ad c m=>LF.nil (kp [4,3,2] O) (WF.seq (Ed 11 mo (by kernel_rfl) O c ?_))
 have q:=k6.mono (p.trans m)
 refine QF.fa O q AD.f_Lo DE O λae F=>QF.ldi Ai c.1 O F AL O λG=>?_
 have s:=D.mono m
 refine QF.fa O s AD.f_Lo DE O λaf H=>QF.ldi Ai c.1 O H AL O λI=>?_
 obtain⟨t,u,E⟩:=bd E
 refine Ao O O O Mh O (λh' o=>Ex (St.all h') G I u) λJ=>?_
 have K:=J
 refine QF.fa O q AD.f_Hi Cn O λag M=>QF.ldi Ai c.1 O M AL O λQ=>QF.fa O s AD.f_Hi Cn O λah U=>QF.ldi Ai c.1 O U AL O λV=>?_
 obtain⟨w,x,E⟩:=bd E
 refine Ao O O O Mh O (λh' o=>Ex (St.all h') Q V x) λW=>?_
 have X:=W
 refine QF.bld (cs:=[.int .i64 t,.int .i64 w]) HD O O O (Dj λai y Y=>Ad (vs:=[.int .i64 t,.int .i64 w]) O O O O Ag O y .head O λaj k Z=>LF.nil (kp [4] O) (WF.ret (λaa ww hf hw=>?_)))
 have z:=k.drop .head
 cases E
 have A:=e5.trans (p.trans (m.trans (Y.trans Z)))
 exact HQ hf O hw (Gk (LD hf hw k O mh Ag O) HC) O A ⟨O,⟨K,X⟩,z⟩
theorem HW (hs:St S L h) {b:Value}{a:AD}(c:Rd S h AF b a) {r:AD}(E:Fs N a=some r):
 Bf Tryz.prog 103 #[b] S h (λv S' h'=>v= .agg #[.int .i64 r.Lo,.int .i64 r.Hi]∧AD.ok r∧St S' (L) h'):=by
 refine Ab (l:=[b]) 10 Tryz.func103 O Tryz.ntmps103 O λB=>?_
 rw[Fs] at E
 refine WF.seq (WF.rl (LF.boxp O c (λe=>by cases e) O hs λD F G o x y=>LF.al Ee O o λH I g i=>LF.nil (kp [2,1] O) (WF.seq (WF.rl (LF.q 7 ?_)))))
 have j:=y.mono i
 refine QF.fa O j AD.f_Lo DE O λz p=>QF.ldi Af g.1 O p AL O λs=>QF.min O O O (QF.fa O j AD.f_Hi Cn O λA t=>QF.ldi Af g.1 O t AL O λu=>QF.min O O O (QF.bld (cs:=[.int .i64 (min a.Lo 1125899906842624),.int .i64 (min a.Hi 1125899906842624)]) HD O O O (AG (Ad (vs:=[.int .i64 (min a.Lo 1125899906842624),.int .i64 (min a.Hi 1125899906842624)]) O O O O Ag O g .head O λC d w=>LF.nil (kp [2] O) (WF.ret (λaa ww hf hw=>?_))))))
 have k:=d.drop .head
 cases E
 have m:=x.trans (i.trans w)
 exact HQ hf O hw (Gk (LD hf hw d O mh Ag O) HC) O m ⟨O,⟨(Gg s (iq (n:=1125899906842624) O)),(Gg u (iq (n:=1125899906842624) O))⟩,k⟩
theorem MG (hs:St S L h) {a:Value}{g:AQ}(c:Rd S h A9 a g) {b:Value}{i:AD}(d:Rd S h AF b i) {r:AD×AQ}(E:HF N g i=some r):
 Bf Tryz.prog 148 #[a,b] S h (λv S' h'=>∃j k:Value,v= .func (.func 172) #[] #[j,k]∧Pt S' h' AF j r.1∧Pt S' h' A9 k r.2∧St S' (L) h'):=by
 refine Ab (l:=[a,b]) 6 Tryz.func148 O Tryz.ntmps148 O λB=>?_
 rw[HF] at E
 refine WF.seq (WF.rl (LF.boxp O c (λe=>by cases e) O hs λy z A o t u=>?_))
 have w:=d.mono t
 refine LF.boxp O w (λe=>by cases e) O o λC D x m n p=>LF.q 1 (QF.as_ O O (AG (LF.nil (kp [3,2] O) (WF.seq (WF.rp (.inl O) (QF.mkf O O O (QF.as_ O O (AA (kp [4] O) (WF.ret (λaa ww hf hw=>?_))))))))))
 have s:=u.mono n
 cases E
 exact DD hf hw O O (t.trans n) ⟨_,_,O,p,s,m⟩
theorem LC {σ:Type}{yv:Value}{Y:Bool→σ→HP}{yld:Int→σ→Option (Bool×σ)}{S0:Nat→Prop}{h0:AX}(yc:YC Tryz.prog yv Y WM yld S0 h0) (e0:Bc S0 h0 S h) {s:σ}(hs:St S (Y true s::L) h) {i:Value}{c1_:AD}(m:Pt S h AF i c1_) {j:Value}{c2_:AQ}(w:Pt S h A9 j c2_) {r:Bool×σ}(E:Fp N c1_ c2_ yld s=some r):
 Bf Tryz.prog 172 #[yv,i,j] S h (λv S' h'=>v= .tuple #[]∧St S' (Y r.1 r.2::L) h'):=by
 refine Ab (l:=[yv,i,j]) 36 Tryz.func172 O Tryz.ntmps172 O λB=>?_
 rw[Fp] at E
 refine WF.seq (WF.seq (U1 (IX 1 Kn (QF.ld Af hs.1 O m Ag (λe=>by cases e) O λv1 k2=>QF.yn (Zp 1 Kn ?_)))))
 obtain⟨y3,ad,E⟩:=bd E
 refine LF.callb O O O OX O hs (Fg (St.all _) (k2.mono ⟨λb hb=>hs.1 b hb,λ_ _=>rfl,Nat.le_refl _⟩) ad) λv4 S5 h6 x n ay p=>?_
 obtain⟨rfl,az⟩:=p
 refine LF.yn (IX 2 Kn (QF.not O O (QF.mv O O (QF.yn ?_))))
 cases G:(!y3)
 ·
  have E:=A3 G E
  refine IX 3 Kn (QF.gy O O O (QF.mv O O (QF.gy O O O ?_)))
  have H:=m.mono n
  refine QF.fa O H AD.f_Lo DE O λa0 ae=>QF.gy O O O (QF.ldi Af x.1 O ae AL O λaf=>QF.yn (YL.gy O O O ?_))
  obtain⟨a1,I,E⟩:=bd E
  refine SA yc O O I (e0.trans n) x ⟨O,af⟩ O (λy ag ah d k=>?_) (λy ag ah d k=>?_)
  ·
   have E:=A0 y E
   refine IX 3 Kn (QF.gy O O O (QF.not O O (QF.pick O O O (QF.mv O O (QF.yn (IX 3 Kn (QF.gy O O O (QF.mv O O (QF.gy O O O ?_)))))))))
   have J:=H.mono d
   refine QF.fa O J AD.f_Hi Cn O λa2 ai=>QF.gy O O O (QF.ldi Af k.1 O ai AL O λaj=>QF.yn (YL.gy O O O ?_))
   obtain⟨a3,K,E⟩:=bd E
   refine SA yc O O K (e0.trans (n.trans d)) k ⟨O,aj⟩ O (λz ak am g c=>?_) (λz ak am g c=>?_)
   ·
    have E:=A0 z E
    refine IX 2 Kn (QF.gy O O O (QF.not O O (QF.pick O O O (QF.yn (YL.nil (kp [20,0,1,2] O) (WF.ifF O (WF.skip (WF.seq (WF.rc (.inl O) c ?_)))))))))
    have M:=n.trans (d.trans g)
    have A:=w.mono M
    refine QF.fa O A Fb HY O λa4 an=>QF.ldi Ai c.1 O an AL O λa5=>QF.lss O O O (QF.mv O O ?_)
    obtain⟨ao,a,E⟩:=bd E
    refine QF.cutv 6 30 (.bool ao) ?_ ?_
    ·
     cases Q:(decide (c2_.Break<9223372036854775807))
     ·
      have a:=A3 Q a
      cases a
      exact AK O O
     ·
      have a:=A0 Q a
      refine QF.gy O O O ?_
      have ap:=J.mono g
      refine QF.ld Ai c.1 O ap Ag (λe=>by cases e) O λa6 aq=>QF.gy O O O (QF.fa O A Fb HY O λa7 ar=>QF.gy O O O (QF.ldi Ai c.1 O ar AL O λa8=>QF.gy O O O (QF.addw O O O (QF.gy O O O ?_))))
      obtain⟨a9,U,a⟩:=bd a
      refine Aa O O O Ub O (λh' o=>JK (St.all h') (aq.mono (o.all c.1)) (BA _) U) (QF.pick O O O ?_)
      cases a
      exact AH O
    refine Ak (kp [30,0,2] O) λba q t=>WF.if_ O (λC=>?_) (λC=>?_)
    ·
     have E:=A0 C E
     refine U1 (IX 4 Kn (QF.mv O O ?_))
     have au:=A.mono t
     refine QF.fa O au Fb HY O λbb av=>QF.ldi Af q.1 O av AL O λbc=>QF.addw O O O (QF.yn ?_)
     obtain⟨be,V,E⟩:=bd E
     have W:=n.trans (d.trans (g.trans t))
     refine SA yc O O V (e0.trans W) q ⟨O,(BA _)⟩ O (λD aw ax F u=>?_) (λD aw ax F u=>?_)
     ·
      have E:=A0 D E
      refine YL.nil JH (WF.nil (λaa ww hf hw=>?_))
      cases E
      have X:=n.trans (d.trans (g.trans (t.trans F)))
      exact HQ hf O hw HC O X ⟨O,u⟩
     ·
      have E:=A3 D E
      refine YL.nil JH (WF.nil (λaa ww hf hw=>?_))
      cases E
      have Z:=n.trans (d.trans (g.trans (t.trans F)))
      exact HQ hf O hw HC O Z ⟨O,u⟩
    ·
     have E:=A3 C E
     refine WF.skip (WF.nil (λaa ww hf hw=>?_))
     cases E
     have ab:=n.trans (d.trans (g.trans t))
     exact HQ hf O hw HC O ab ⟨O,q⟩
   ·
    have E:=A3 z E
    refine IX 2 Kn (QF.gy O O O (QF.not O O (QF.pick O O O (QF.yn (YL.nil (kp [20,0,1,2] O) (WF.ifT O (WF.ret (λaa ww hf hw=>?_))))))))
    cases E
    have ac:=n.trans (d.trans g)
    exact HQ hf O hw HC O ac ⟨O,c⟩
  ·
   have E:=A3 y E
   refine IX 3 Kn (QF.gy O O O (QF.not O O (QF.pick O O O (QF.mv O O (QF.yn (IX 6 Kn (QF.gnT O O O O O (QF.gnT O O O O O (QF.gnT O O O O O (QF.gnT O O O O O (QF.gnT O O O O O (QF.pick O O O (QF.yn ?_)))))))))))))
   refine YL.nil (kp [20,0,1,2] O) (WF.ifT O (WF.ret (λaa ww hf hw=>?_)))
   cases E
   exact HQ hf O hw HC O (n.trans d) ⟨O,k⟩
 ·
  have E:=A0 G E
  refine IX 7 Kn (QF.gnT O O O O O (QF.gnT O O O O O (QF.gnT O O O O O (QF.gnT O O O O O (QF.gnT O O O O O (QF.pick O O O (QF.mv O O (QF.yn (IX 6 Kn (QF.gnT O O O O O (QF.gnT O O O O O (QF.gnT O O O O O (QF.gnT O O O O O ?_)))))))))))))
  refine QF.gnT O O O O O (QF.pick O O O (QF.yn (YL.nil (kp [20,0,1,2] O) (WF.ifT O (WF.ret (λaa ww hf hw=>?_))))))
  cases E
  exact HQ hf O hw HC O n ⟨O,x⟩
theorem Ml (hs:St S L h) {d:Value}{n:AQ}(k:Rd S h A9 d n) {g:Value}{b:Db}(m:Rd S h GM g b) {i:Int}(X:AB i) {r:Db}(E:Gr N n b i=some r):
 Bf Tryz.prog 149 #[d,g,.int .i64 i] S h (λv S' h'=>v= .agg #[.int .i64 r.Pos,.int .i64 r.Target,.bool r.Stuck,.bool r.Open]∧Db.ok r∧St S' (L) h'):=by
 refine Ab (l:=[d,g,.int .i64 i]) 24 Tryz.func149 O Tryz.ntmps149 O λB=>?_
 rw[Gr] at E
 refine WF.seq (WF.rl (LF.boxp O k (λe=>by cases e) O hs λq1 S2 h3 Y Z k6=>?_))
 have k7:=m.mono Z
 obtain⟨rfl,⟨r9,C⟩⟩:=GM.ex k7
 refine LF.box O O O Y λD aj F t=>LF.al Sr O F λG H c u=>LF.nil (kp [6,4,3,2] O) (WF.seq (WF.seq (WF.rp (.inl O) ?_)))
 have x:=k6.mono (t.trans u)
 refine QF.fa O x AQ.f_Kind Do O λak ab=>QF.ldi Af c.1 O ab AL O λam=>QF.neq O O O (AA (kp [9,6,4,3,2] O) (WF.if_ O (λy=>?_) (λy=>?_)))
 ·
  have E:=A0 y E
  refine WF.seq (WF.rl (LF.q 1 (QF.ldo (vs:=[.int .i64 b.Pos,.int .i64 b.Target,.bool b.Stuck,.bool b.Open]) Af c O (mt mh) O O IL O O (AG (Ad (vs:=[.int .i64 b.Pos,.int .i64 b.Target,.bool b.Stuck,.bool b.Open]) O O O O IL O c .head O λan I ac=>LF.nil (kp [6] O) (WF.ret (λaa ww hf hw=>?_)))))))
  have o:=I.drop (.tail .head)
  have J:=o.drop .head
  cases E
  have K:=Z.trans (t.trans (u.trans ac))
  exact HQ hf O hw (Gk (LD hf hw o O mh IL O) HC) O K ⟨O,⟨r9,C⟩,J⟩
 ·
  have E:=A3 y E
  refine WF.skip (WF.seq (WF.blockJ (λa w=>∃(j:Bool),IV B S2 H (24,[]) a w [(6,.pointer (some ⟨G,0,none⟩)),(4,.pointer (some ⟨D,0,none⟩))] (Bx G 81 [.int .i64 0,.int .i64 0,.bool false,.bool false]::Bx D 81 [.int .i64 b.Pos,.int .i64 b.Target,.bool b.Stuck,.bool j]::L) λ_ _=>Ey N b j=some r) ?_ ?_))
  ·
   refine WF.seq (WF.rp (.inl O) (QF.mv O O (QF.fa O x Hm Kh O λao ad=>QF.ldi Af c.1 O ad AL O λap=>QF.geq O O O (QF.as_ O O (AA (kp [11,6,4,3,2] O) (WF.if_ O (λz=>?_) (λz=>?_)))))))
   ·
    have E:=A0 z E
    refine WF.rl (LF.q 1 (QF.fao O Rn O (AG (H3 (vs:=[.bool true]) (cs':=[.int .i64 b.Pos,.int .i64 b.Target,.bool b.Stuck,.bool true]) O O O O ME O c (.tail .head) O O λaq M ae=>LF.nil (kp [6,4] O) (WF.nil (λaa ww hf hw=>?_))))))
    exact⟨true,_,_,hf.sub (kp [6,4] O),hw,M,ae,E⟩
   ·
    have E:=A3 z E
    refine WF.seq (WF.rp (.inl O) (QF.mv O O (QF.fa O x Fb HY O λar af=>QF.ldi Af c.1 O af AL O λau=>QF.leq O O O (QF.as_ O O (AA (kp [17,6,4] O) (WF.if_ O (λA=>?_) (λA=>?_)))))))
    ·
     have E:=A0 A E
     refine WF.rl (LF.q 1 (QF.fao O Rn O (AG (H3 (vs:=[.bool false]) (cs':=[.int .i64 b.Pos,.int .i64 b.Target,.bool b.Stuck,.bool false]) O O O O ME O c (.tail .head) O O λav Q ag=>LF.nil (kp [6,4] O) (WF.nil (λaa ww hf hw=>?_))))))
     exact⟨false,_,_,hf.sub (kp [6,4] O),hw,Q,ag,E⟩
    ·
     have E:=A3 A E
     refine WF.skip (WF.nil (λaa ww hf hw=>?_))
     exact⟨b.Open,_,_,hf.sub (kp [6,4] O),hw,c,(Bc.refl S2 H),E⟩
  ·
   rintro aa ww ⟨j,aw,ax,hf,hw,p,ah,E⟩
   refine WF.run ?_ hf hw
   clear hf hw ww aa
   rw[Ey] at E
   refine WF.seq (WF.rl (LF.q 1 (QF.ldo (vs:=[.int .i64 b.Pos,.int .i64 b.Target,.bool b.Stuck,.bool j]) Af p O (mt mh) O O IL O O (AG (Ad (vs:=[.int .i64 b.Pos,.int .i64 b.Target,.bool b.Stuck,.bool j]) O O O O IL O p .head O λay U ai=>LF.nil (kp [6] O) (WF.ret (λaa ww hf hw=>?_)))))))
   have s:=U.drop (.tail .head)
   have V:=s.drop .head
   cases E
   have W:=Z.trans (t.trans (u.trans (ah.trans ai)))
   exact HQ hf O hw (Gk (LD hf hw s O mh IL O) HC) O W ⟨O,⟨r9,C⟩,V⟩
theorem NK (hs:St S L h) {C:Value}{s:AQ}(av:Rd S h A9 C s) {D:Value}{b:AT}(aw:Rd S h AZ D b) {F:Value}{a2:AD}(ax:Rd S h AF F a2) {r:AT}(E:HG N s b a2=some r):
 Bf Tryz.prog 104 #[C,D,F] S h (λv S' h'=>v= .agg #[.int .i64 r.Pos.Lo,.int .i64 r.Pos.Hi,.int .i64 r.Target,.int .i64 r.Open.Lo,.int .i64 r.Open.Hi]∧AT.ok r∧St S' (L) h'):=by
 refine Ab (l:=[C,D,F]) 47 Tryz.func104 O Tryz.ntmps104 O λB=>?_
 rw[HG] at E
 have hsd:=U4 hs
 refine WF.seq (WF.rl (LF.boxp O av (λe=>by cases e) O hsd λq1 S2 h3 du e5 k6=>?_))
 have k7:=aw.mono e5
 obtain⟨rfl,⟨r9,b7,b8,a7,a8⟩⟩:=AZ.ex k7
 refine LF.box O O O du λm e7 b9 ay=>?_
 have dv:=ax.mono (e5.trans ay)
 refine LF.boxp O dv (λe=>by cases e) O b9 λe8 e9 fb ca a9 dw=>LF.al RE O ca λba fc Q az=>LF.nil (kp [6,5,4,3] O) (WF.seq (WF.seq (WF.rp (.inl O) ?_)))
 have cb:=ay.trans (a9.trans az)
 have cc:=k6.mono cb
 refine QF.fa O cc AQ.f_Kind Do O λfd dx=>QF.ldi Af Q.1 O dx AL O λfe=>QF.neq O O O (AA (kp [14,6,5,4,3] O) (WF.if_ O (λbb=>?_) (λbb=>?_)))
 ·
  have E:=A0 bb E
  refine WF.seq (WF.rl (LF.q 1 (QF.ldo (vs:=[.int .i64 b.Pos.Lo,.int .i64 b.Pos.Hi,.int .i64 b.Target,.int .i64 b.Open.Lo,.int .i64 b.Open.Hi]) Af Q O (mt mh) O O Gj O O (AG (Ad (vs:=[.int .i64 b.Pos.Lo,.int .i64 b.Pos.Hi,.int .i64 b.Target,.int .i64 b.Open.Lo,.int .i64 b.Open.Hi]) O O O O Gj O Q .head O λff cd dy=>LF.nil (kp [6] O) (WF.ret (λaa ww hf hw=>?_)))))))
  have ce:=cd.sel [2,0] 1 O
  have cf:=e5.trans (ay.trans (a9.trans (az.trans dy)))
  refine VV (vs:=[.agg #[.int .i64 b.Pos.Lo,.int .i64 b.Pos.Hi,.int .i64 b.Target,.int .i64 b.Open.Lo,.int .i64 b.Open.Hi]]) hf O hw ce O cf λw9 fg bc a3 fh=>?_
  have cg:=a3.drop .head
  cases E
  exact⟨(Gk (LD hf bc a3 O mh Gj O) HC),⟨O,⟨r9,b7,b8,a7,a8⟩,cg⟩⟩
 ·
  have E:=A3 bb E
  refine WF.skip (WF.seq (WF.rl (LF.al YQ O Q λz fi ch be=>Ad (vs:=[.bool false]) O O O O ME O ch .head O λfj ci bf=>LF.nil (kp [7,6,5,4,3] O) (WF.seq (WF.rl (LF.al Ee O ci λA fk ac bg=>LF.nil (kp [8,7,6,5,4,3] O) (WF.seq (WF.seq (WF.rl (LF.q 2 ?_))))))))))
  have cj:=be.trans (bf.trans bg)
  have ck:=cc.mono cj
  refine QF.ld Af ac.1 O ck Du (λe=>by cases e) O λfl dz=>?_
  have cl:=az.trans (be.trans (bf.trans bg))
  have d0:=dw.mono cl
  refine QF.ld Af ac.1 O d0 Ag (λe=>by cases e) O λfm d1=>AG ?_
  obtain⟨fn,cm,E⟩:=bd E
  refine LF.call O O O Xj O (MG ac dz d1 cm) λfo fp fq cn p=>?_
  obtain⟨co,cp,rfl,d2,d3,cq⟩:=p
  refine LF.nil (kp [18,8,7,6,4,3] O) (WF.block ?_)
  have cr:=cq.sel [0,0,1,1,0] 0 O
  obtain⟨g,ct,E⟩:=bd E
  refine U2 (Ds:=([])) 0 (λ(ss:Int×Int×Bool)=>[Pu (AB ss.1∧AB ss.2.1),Bx A 51 [.int .i64 ss.1,.int .i64 ss.2.1],Bx z 4 [.bool ss.2.2],Bx m 97 [.int .i64 b.Pos.Lo,.int .i64 b.Pos.Hi,.int .i64 b.Target,.int .i64 b.Open.Lo,.int .i64 b.Open.Hi]]) (0,0,false) WM (λxx ss=>Ei N s b xx ss.1 ss.2.1 ss.2.2) g (λvs=>[(9,vs.getD 0 undef),(8,.pointer (some ⟨A,0,none⟩)),(7,.pointer (some ⟨z,0,none⟩)),(4,.pointer (some ⟨m,0,none⟩)),(3,q1)]) O Xe (by kernel_rfl) (L5 cr ⟨(iq (n:=0) O),(iq (n:=0) O)⟩) (λk=>WM.len k) (λk e=>WM.mono k e) ?_ ?_ ?_ ?_ ?_
  ·
   intro yv Y S1 h1 L1 e1 yc d4
   have d5:=d2.mono e1
   have d6:=d3.mono e1
   rw[show ((#[yv]:Array Value)++ #[co,cp])= #[yv,co,cp] from Zo _ _]
   exact(LC yc (Bc.refl _ _) d4 d5 d6 ct).mono λ_ _ _ _ p=>p.2
  ·
   intro vs B h1 hl
   match vs,hl with
   |[v0],_=>
    refine WF.rp (.inl O) ?_
    refine QF.as_ O O ?_
    refine AA (kp [9,19,8,7,4,3] O) ?_
    refine WF.nil (λaa ww hf hw=>?_)
    exact⟨hf.sub (kp [9,8,7,4,3] O),hw⟩
  ·
   rintro K ⟨a0,a1,bh⟩ out vs bi bj L81 B cu d7 cv cw
   have E:Ei N s b K a0 a1 bh=some out:=cu
   rw[Ei] at E
   obtain⟨rfl,d8⟩:=cv
   have ad:St bi (Pu (AB a0∧AB a1)::Bx A 51 [.int .i64 a0,.int .i64 a1]::Bx z 4 [.bool bh]::Bx m 97 [.int .i64 b.Pos.Lo,.int .i64 b.Pos.Hi,.int .i64 b.Target,.int .i64 b.Open.Lo,.int .i64 b.Open.Hi]::L81) bj:=cw
   obtain⟨⟨d9,ea⟩,ad⟩:=QR ad
   refine WF.block (WF.seq (WF.rp (.inl O) (QF.mv O O (AA (kp [20,9,8,7,4,3] O) (WF.block (WF.loopF (λn1=>λa w=>∃(c:Int) (i:Int) (j:Int) (t:Bool),IV B bi bj (47,[]) a w [(9,.int .i64 K),(8,.pointer (some ⟨A,0,none⟩)),(7,.pointer (some ⟨z,0,none⟩)),(4,.pointer (some ⟨m,0,none⟩)),(3,q1),(20,.int .i64 c)] (Bx A 51 [.int .i64 i,.int .i64 j]::Bx z 4 [.bool t]::Bx m 97 [.int .i64 b.Pos.Lo,.int .i64 b.Pos.Hi,.int .i64 b.Target,.int .i64 b.Open.Lo,.int .i64 b.Open.Hi]::L81) λ_ _=>AB c∧AB i∧AB j∧Bz N s b K n1 c i j t=some out) N ?_ ?_ ?_))))))
   ·
    intro aa ww hf hw
    exact⟨0,a0,a1,bh,_,_,hf.sub (kp [9,8,7,4,3,20] O),hw,ad,(Bc.refl bi bj),(iq (n:=0) O),d9,ea,E⟩
   ·
    rintro aa ww ⟨_,_,_,_,_,_,_,_,_,_,_,_,_,E⟩
    rw[Bz] at E;cases E
   ·
    rintro n1 aa ww ⟨c,i,j,t,U,cx,hf,hw,M,ae,cy,af,ag,E⟩
    refine WF.run ?_ hf hw
    clear hf hw ww aa
    rw[Bz] at E
    refine WF.seq (WF.rp (.inl O) (QF.lss O O O (AA (kp [21,9,8,7,4,3,20] O) (WF.seq (WF.if_ O (λah=>?_) (λah=>?_))))))
    ·
     have E:=A0 ah E
     refine WF.skip (WF.seq (WF.blockJ (λa w=>∃(I:Int) (J:Int) (V:Bool),IV B U cx (47,[]) a w [(9,.int .i64 K),(8,.pointer (some ⟨A,0,none⟩)),(7,.pointer (some ⟨z,0,none⟩)),(4,.pointer (some ⟨m,0,none⟩)),(3,q1),(20,.int .i64 c)] (Bx A 51 [.int .i64 I,.int .i64 J]::Bx z 4 [.bool V]::Bx m 97 [.int .i64 b.Pos.Lo,.int .i64 b.Pos.Hi,.int .i64 b.Target,.int .i64 b.Open.Lo,.int .i64 b.Open.Hi]::L81) λ_ _=>AB I∧AB J∧Ct N c (Bz N s b K n1) I J V=some out) ?_ ?_))
     ·
      refine WF.seq (WF.rp (.inl O) (QF.mv O O (QF.as_ O O (AA (kp [10,9,8,7,4,3,20] O) (WF.seq (WF.seq (WF.rc (.inl O) M (QF.fao O Hg O (QF.ldo (vs:=[.int .i64 b.Open.Lo,.int .i64 b.Open.Hi]) Ai M O (mt (mt mh)) O O Ag O O (QF.mv O O ?_))))))))))
      obtain⟨ed,bk,E⟩:=bd E
      refine Aa O O O Ub O (λh' o=>JK (St.all h') (AF.mk (x:=b.Open) ⟨a7,a8⟩) cy bk) (QF.not O O (Ak (kp [27,10,9,8,7,4,3,20] O) λee G W=>WF.if_ O (λai=>?_) (λai=>?_)))
      ·
       have E:=A0 ai E
       refine WF.exit O (λaa ww hf hw=>?_)
       exact⟨i,j,t,_,_,hf.sub (kp [9,8,7,4,3,20] O),hw,G,W,af,ag,E⟩
      ·
       have E:=A3 ai E
       refine WF.skip (WF.seq (WF.rp (.inl O) (QF.as_ O O (AA (kp [11,10,9,8,7,4,3,20] O) (WF.seq (WF.seq (WF.rc (.inl O) G ?_)))))))
       have bl:=cn.trans (d7.trans (ae.trans W))
       have cz:=ck.mono bl
       refine QF.ld Ai G.1 O cz Du (λe=>by cases e) O λef c0=>QF.mv O O (QF.eql O O O (QF.bld (cs:=[.int .i64 0,.int .i64 0,.bool false,.bool (decide (c=1))]) TP O O O (QF.mv O O ?_)))
       obtain⟨eg,bm,E⟩:=bd E
       refine Ao O O O Xi O (λh' o=>Ml (St.all h') (c0.mono (o.all G.1)) (GM.mk (x:=(⟨0,0,false,(decide (c=1))⟩:Db)) ⟨(iq (n:=0) O),(iq (n:=0) O)⟩) d8 bm) λc1=>?_
       obtain⟨eh,ei⟩:=c1
       refine QF.fld O Vo O O (Ak (kp [34,11,9,8,7,4,3,20] O) λaj ak a4=>WF.cut (λa w=>∃(X:Int),IV B U aj (47,[]) a w [(9,.int .i64 K),(8,.pointer (some ⟨A,0,none⟩)),(7,.pointer (some ⟨z,0,none⟩)),(4,.pointer (some ⟨m,0,none⟩)),(3,q1),(20,.int .i64 c),(11,.int .i64 X)] (Bx A 51 [.int .i64 i,.int .i64 j]::Bx z 4 [.bool t]::Bx m 97 [.int .i64 b.Pos.Lo,.int .i64 b.Pos.Hi,.int .i64 b.Target,.int .i64 b.Open.Lo,.int .i64 b.Open.Hi]::L81) λ_ _=>AB X∧FG N i j t (Ct N c (Bz N s b K n1)) X=some out) ?_ ?_)
       ·
        refine WF.if_ O (λam=>?_) (λam=>?_)
        ·
         have E:=A0 am E
         refine WF.rp (.inl O) (QF.as_ O O (AA (kp [11,9,8,7,4,3,20] O) (WF.nil (λaa ww hf hw=>?_))))
         exact⟨1,_,_,hf.sub (kp [9,8,7,4,3,20,11] O),hw,ak,(Bc.refl U aj),(iq (n:=1) O),E⟩
        ·
         have E:=A3 am E
         refine WF.skip (WF.nil (λaa ww hf hw=>?_))
         exact⟨0,_,_,hf.sub (kp [9,8,7,4,3,20,11] O),hw,ak,(Bc.refl U aj),(iq (n:=0) O),E⟩
       ·
        rintro aa ww ⟨X,ej,ek,hf,hw,H,a5,a6,E⟩
        refine WF.run ?_ hf hw
        clear hf hw ww aa
        rw[FG] at E
        refine WF.seq (WF.rp (.inl O) (AI Af H O (mt mh) O ME O (AA (kp [35,9,8,7,4,3,20,11] O) (WF.if_ O (λan=>?_) (λan=>?_)))))
        ·
         have E:=A0 an E
         refine Ed 4 mo (by kernel_rfl) O H (QF.ldo (vs:=[.int .i64 i,.int .i64 j]) Ai H O mh O O Ag O O (QF.mv O O ?_))
         obtain⟨c2,bn,E⟩:=bd E
         refine Ao O O O K0 O (λh' o=>Ev (St.all h') a6 bn) λc3=>?_
         obtain⟨c4,c5⟩:=c3
         obtain⟨Z,bo,E⟩:=bd E
         refine Ao O O O Uc O (λh' o=>Ix (St.all h') (AF.mk (x:=(⟨i,j⟩:AD)) ⟨af,ag⟩) (AF.mk (x:=c2) ⟨c4,c5⟩) bo) λc6=>?_
         obtain⟨c7,c8⟩:=c6
         refine Dj λel bp c9=>Ad (vs:=[.int .i64 Z.Lo,.int .i64 Z.Hi]) O O O O Ag O bp .head O λem bq da=>LF.nil (kp [9,8,7,4,3,20] O) (WF.nil (λaa ww hf hw=>?_))
         have br:=W.trans (a4.trans (a5.trans (c9.trans da)))
         exact⟨Z.Lo,Z.Hi,t,_,_,hf.sub (kp [9,8,7,4,3,20] O),hw,bq,br,c7,c8,E⟩
        ·
         have E:=A3 an E
         refine WF.rl (LF.q 1 (QF.mv O O (AG ?_)))
         obtain⟨ab,bt,E⟩:=bd E
         refine LF.callb O O O K0 O H (Ev (St.all _) a6 bt) λen eo ep bu db eq p=>?_
         obtain⟨rfl,⟨dc,dd⟩,eb⟩:=p
         refine Ad (vs:=[.int .i64 ab.Lo,.int .i64 ab.Hi]) O O O O Ag O bu .head O λer bv de=>Ad (vs:=[.bool true]) O O O O ME O bv (.tail .head) O λes bw df=>LF.nil (kp [9,8,7,4,3,20] O) (WF.nil (λaa ww hf hw=>?_))
         have bx:=W.trans (a4.trans (a5.trans (db.trans (de.trans df))))
         exact⟨ab.Lo,ab.Hi,true,_,_,hf.sub (kp [9,8,7,4,3,20] O),hw,bw,bx,dc,dd,E⟩
     ·
      rintro aa ww ⟨I,J,V,et,eu,hf,hw,bz,dg,dh,di,E⟩
      refine WF.run ?_ hf hw
      clear hf hw ww aa
      rw[Ct] at E
      refine WF.rp (.inl O) (QF.addw O O O (QF.mv O O (AA (kp [20,9,8,7,4,3] O) (WF.nil (λaa ww hf hw=>?_)))))
      exact⟨(Aw (c+1)),I,J,V,_,_,hf.sub (kp [9,8,7,4,3,20] O),hw,bz,(ae.trans dg),(BA _),dh,di,E⟩
    ·
     have E:=A3 ah E
     refine Hu O (Ap (WF.nil (λaa ww hf hw=>?_)))
     cases E
     exact⟨O,_,_,hw,ae,(L5 M ⟨af,ag⟩)⟩
  ·
   intro dj ao ap D186 dk d
   have E:=A0 dj E
   have d:St ao (Pu (AB g.2.1∧AB g.2.2.1)::Bx A 51 [.int .i64 g.2.1,.int .i64 g.2.2.1]::Bx z 4 [.bool g.2.2.2]::Bx m 97 [.int .i64 b.Pos.Lo,.int .i64 b.Pos.Hi,.int .i64 b.Target,.int .i64 b.Open.Lo,.int .i64 b.Open.Hi]::QX (D186::[])::Bx ba 97 [.int .i64 0,.int .i64 0,.int .i64 0,.int .i64 0,.int .i64 0]::L) ap:=d
   obtain⟨⟨dl,dm⟩,d⟩:=QR d
   refine Ap (WF.seq (WF.seq (WF.rp (.inl O) (AI Af d O (mt mh) O ME O (AA (kp [43,8,6,4] O) (WF.cut (λa w=>∃(u:Int) (y:Int),IV B ao ap (47,Jd (D186::[])) a w [(6,.pointer (some ⟨ba,0,none⟩)),(4,.pointer (some ⟨m,0,none⟩))] (Bx m 97 [.int .i64 b.Pos.Lo,.int .i64 b.Pos.Hi,.int .i64 b.Target,.int .i64 u,.int .i64 y]::QX (D186::[])::Bx ba 97 [.int .i64 0,.int .i64 0,.int .i64 0,.int .i64 0,.int .i64 0]::L) λ_ _=>AB u∧AB y∧GB N b u y=some r) ?_ ?_))))))
   ·
    refine WF.if_ O (λaq=>?_) (λaq=>?_)
    ·
     have E:=A0 aq E
     refine WF.rl (LF.q 2 (QF.ldo (vs:=[.int .i64 g.2.1,.int .i64 g.2.2.1]) Af d O mh O O Ag O O (QF.fao O Hg O (AG (H3 (vs:=[.int .i64 g.2.1,.int .i64 g.2.2.1]) (cs':=[.int .i64 b.Pos.Lo,.int .i64 b.Pos.Hi,.int .i64 b.Target,.int .i64 g.2.1,.int .i64 g.2.2.1]) O O O O Ag O d (.tail (.tail .head)) O O λev b0 dn=>LF.nil (kp [6,4] O) (WF.nil (λaa ww hf hw=>?_)))))))
     have b1:=b0.sel [2,2,2] 2 O
     exact⟨g.2.1,g.2.2.1,_,_,hf.sub (kp [6,4] O),hw,b1,dn,dl,dm,E⟩
    ·
     have E:=A3 aq E
     refine WF.skip (WF.nil (λaa ww hf hw=>?_))
     have b2:=d.sel [2,2,2] 2 O
     exact⟨b.Open.Lo,b.Open.Hi,_,_,hf.sub (kp [6,4] O),hw,b2,(Bc.refl ao ap),a7,a8,E⟩
   ·
    rintro aa ww ⟨u,y,ew,ey,hf,hw,ar,dp,dq,dr,E⟩
    refine WF.run ?_ hf hw
    clear hf hw ww aa
    rw[GB] at E
    refine WF.seq (WF.rl (LF.q 1 (QF.ldo (vs:=[.int .i64 b.Pos.Lo,.int .i64 b.Pos.Hi,.int .i64 b.Target,.int .i64 u,.int .i64 y]) Af ar O mh O O Gj O O (AG (Ad (vs:=[.int .i64 b.Pos.Lo,.int .i64 b.Pos.Hi,.int .i64 b.Target,.int .i64 u,.int .i64 y]) O O O O Gj O ar (.tail (.tail .head)) O λez b3 ds=>LF.nil (kp [6] O) (WF.ret (λaa ww hf hw=>?_)))))))
    have b4:=b3.sel [1,1] 1 O
    have b5:=e5.trans (ay.trans (a9.trans (az.trans (be.trans (bf.trans (bg.trans (cn.trans (dk.trans (dp.trans ds)))))))))
    refine VV (vs:=[.agg #[.int .i64 b.Pos.Lo,.int .i64 b.Pos.Hi,.int .i64 b.Target,.int .i64 u,.int .i64 y]]) hf O hw b4 O b5 λw9 e0 bc au e2=>?_
    have b6:=au.drop .head
    cases E
    exact⟨(Gk (LD hf bc au O mh Gj O) HC),⟨O,⟨r9,b7,b8,dq,dr⟩,b6⟩⟩
  ·
   intro dt e3 e4 D217 e6 ec
   have E:=A3 dt E
   cases E
theorem JM {k:Nat}{p0_w:Ac}{p:Value}{s:Value}{m:Value}{t:Value}{u:Value}{y:Value}{z:Value}{A:Value}{c:Value}{C:Value}{g:Value}{d:Value}(hs:St S (Bx k 106 [.string p0_w.b.Name,p,.int .i64 p0_w.b.Cells,s,m,t,u,y,z,A,.int .i64 p0_w.b.Err,.int .i64 p0_w.h.Hour,c,C,g,d]::OS AF 51 c p0_w.h.Vol::OS AZ 97 g p0_w.h.Links::OS AF 51 d p0_w.peaks::L) h) (d2:p0_w.b.Name.size≤maxLen) (d3:Sl S h AV.str p p0_w.b.Owners) (d4:AB p0_w.b.Cells) (d5:Sl S h BO s p0_w.b.Places) (a3:Sl S h A9 m p0_w.b.Links) (d6:Sl S h EK t p0_w.b.Towns) (d7:Sl S h Di u p0_w.b.Gauges) (d8:Sl S h Et y p0_w.b.Roads) (d9:Sl S h Cc z p0_w.b.Shelters) (ea:Sl S h AV.int A p0_w.b.Room) (cb:AB p0_w.b.Err) (cc:AB p0_w.h.Hour) (an:Sl S h BS C p0_w.h.Queue) {J:Value}{Q:(List AD)}(M:Sl S h AF J Q) {r:(List Az)×(List AT)×(List AD)}(E:Ea N p0_w Q=some r):
 Bf Tryz.prog 51 #[.pointer (some ⟨k,0,none⟩),J] S h (λv S' h'=>∃w_0_13 w_0_14 w_0_15:Value,v= .tuple #[]∧St S' (Bx k 106 [.string p0_w.b.Name,p,.int .i64 p0_w.b.Cells,s,m,t,u,y,z,A,.int .i64 p0_w.b.Err,.int .i64 p0_w.h.Hour,c,w_0_13,w_0_14,w_0_15]::OS AF 51 c p0_w.h.Vol::OS BS 93 w_0_13 r.1::OS AZ 97 w_0_14 r.2.1::OS AF 51 w_0_15 r.2.2::L) h'):=by
 refine Ab (l:=[.pointer (some ⟨k,0,none⟩),J]) 162 Tryz.func51 O Tryz.ntmps51 O λB=>?_
 rw[Ea] at E
 refine WF.seq (WF.seq (WF.rp (.inl O) (QF.mv O O (D8 O O (QF.fao O EE O (QF.fao O Kf O (AI Af hs O mh O Gn O (QF.leno hs (mt mh) O FM O λb1=>QF.mv O O (AA (kp [19,18,17,0,1] O) (WF.blockJ (λa w=>∃(l2:List AD),IV B S h (162,[]) a w [(0,.pointer (some ⟨k,0,none⟩))] (Bx k 106 [.string p0_w.b.Name,p,.int .i64 p0_w.b.Cells,s,m,t,u,y,z,A,.int .i64 p0_w.b.Err,.int .i64 p0_w.h.Hour,c,C,g,d]::OS AF 51 c p0_w.h.Vol::OS AZ 97 g p0_w.h.Links::OS AF 51 d l2::L) λ_ _=>Am N p0_w l2=some r) ?_ ?_))))))))))
 ·
  refine WF.loopF (λn1=>λa w=>∃(i6:Int) (l8:List AD),IV B S h (162,[]) a w [(18,.int .i64 (↑p0_w.h.Vol.length:Int)),(17,c),(0,.pointer (some ⟨k,0,none⟩)),(1,J),(19,.int .i64 i6)] (Bx k 106 [.string p0_w.b.Name,p,.int .i64 p0_w.b.Cells,s,m,t,u,y,z,A,.int .i64 p0_w.b.Err,.int .i64 p0_w.h.Hour,c,C,g,d]::OS AF 51 c p0_w.h.Vol::OS AZ 97 g p0_w.h.Links::OS AF 51 d l8::L) λ_ _=>AB i6∧Ah N p0_w Q (Am N p0_w) n1 i6 l8=some r) N ?_ ?_ ?_
  ·
   intro aa ww hf hw
   exact⟨0,p0_w.peaks,_,_,hf.sub (kp [18,17,0,1,19] O),hw,hs,(Bc.refl S h),(iq (n:=0) O),E⟩
  ·
   rintro aa ww ⟨_,_,_,_,_,_,_,_,_,E⟩
   rw[Ah] at E;cases E
  ·
   rintro n1 aa ww ⟨i6,l8,S9,js,hf,hw,aw,a4,r7,E⟩
   refine WF.run ?_ hf hw
   clear hf hw ww aa
   rw[Ah] at E
   refine WF.seq (WF.rp (.inl O) (QF.lss O O O (AA (kp [20,18,17,0,1,19] O) (WF.seq (WF.if_ O (λcd=>?_) (λcd=>?_))))))
   ·
    have E:=A0 cd E
    refine WF.skip (WF.seq (WF.block (WF.seq (WF.rl (LF.q 3 (QF.mv O O ?_))))))
    obtain⟨jt,eb,E⟩:=bd E
    refine QF.ixoe aw (mt mh) O O FM eb O λju ec=>?_
    obtain⟨ao,ed,E⟩:=bd E
    have ha:=aw.epAt (mt mh) ed EO.id ec
    refine QF.ld Af (λ_ x=>x) O ha Ag (λe=>by cases e) O λjv hb=>AG (LF.al Ee O aw λee jw ef a5=>LF.q 1 (QF.as_ O O (AG ?_)))
    have hc:=hb.mono a5
    obtain⟨rfl,⟨eg,eh⟩⟩:=AF.ex hc
    refine Ad (vs:=[.int .i64 ao.Lo,.int .i64 ao.Hi]) O O O O Ag O ef .head O λjx ax a6=>LF.nil (kp [4,5,18,17,0,1,19] O) (WF.seq (WF.seq (WF.rc (.inl O) ax (QF.mv O O (QF.mv O O ?_)))))
    have ei:=a4.trans (a5.trans a6)
    have hd:=M.mono' ei
    refine QF.len O hd FM O λjy=>QF.lss O O O (QF.mv O O ?_)
    obtain⟨ej,U,E⟩:=bd E
    refine QF.cutv 6 34 (.bool ej) ?_ ?_
    ·
     cases ek:(decide (i6<(↑Q.length:Int)))
     ·
      have U:=A3 ek U
      cases U
      exact AK O O
     ·
      have U:=A0 ek U
      refine QF.gy O O O (QF.mv O O (QF.gy O O O (QF.mv O O (QF.gy O O O ?_))))
      have el:=a4.trans (a5.trans a6)
      have he:=M.mono' el
      obtain⟨jz,em,U⟩:=bd U
      refine QF.ixe O O he FM em O λj0 hg=>QF.gy O O O (QF.ld Ai ax.1 O hg Ag (λe=>by cases e) O λj1 hh=>QF.gy O O O ?_)
      obtain⟨j2,en,U⟩:=bd U
      refine Aa O O O OX O (λh' o=>Fg (St.all h') (hh.mono (o.all ax.1)) en) (QF.pick O O O ?_)
      cases U
      exact AH O
    refine QF.mv O O ?_
    obtain⟨hi,W,E⟩:=bd E
    refine QF.cutv 7 42 (.bool hi) ?_ ?_
    ·
     cases eo:ej
     ·
      have W:=A3 eo W
      cases W
      exact AK O O
     ·
      have W:=A0 eo W
      refine QF.gy O O O (QF.mv O O (QF.gy O O O (QF.mv O O (QF.gy O O O ?_))))
      have ep:=a4.trans (a5.trans a6)
      have hj:=M.mono' ep
      obtain⟨j3,eq,W⟩:=bd W
      refine QF.ixe O O hj FM eq O λj4 hk=>QF.gy O O O (QF.fa O hk AD.f_Lo DE O λj5 hl=>QF.gy O O O (QF.ldi Ai ax.1 O hl AL O λj6=>QF.gy O O O (QF.geq O O O (QF.pick O O O ?_))))
      cases W
      exact AH O
    refine Ak (kp [42,4,5,18,17,0,1,19] O) λer ai es=>WF.cut (λa w=>∃(ap:Int) (aq:Int),IV B S9 er (162,[]) a w [(4,.int .i64 i6),(5,.pointer (some ⟨ee,0,none⟩)),(18,.int .i64 (↑p0_w.h.Vol.length:Int)),(17,c),(0,.pointer (some ⟨k,0,none⟩)),(1,J),(19,.int .i64 i6)] (Bx ee 51 [.int .i64 ap,.int .i64 aq]::Bx k 106 [.string p0_w.b.Name,p,.int .i64 p0_w.b.Cells,s,m,t,u,y,z,A,.int .i64 p0_w.b.Err,.int .i64 p0_w.h.Hour,c,C,g,d]::OS AF 51 c p0_w.h.Vol::OS AZ 97 g p0_w.h.Links::OS AF 51 d l8::L) λ_ _=>AB ap∧AB aq∧DB N i6 l8 (Ah N p0_w Q (Am N p0_w) n1) ap aq=some r) ?_ ?_
    ·
     refine WF.if_ O (λce=>?_) (λce=>?_)
     ·
      have E:=A0 ce E
      refine Ed 6 mo (by kernel_rfl) O ai (QF.ldo (vs:=[.int .i64 ao.Lo,.int .i64 ao.Hi]) Ai ai O mh O O Ag O O (QF.mv O O (QF.mv O O ?_)))
      have et:=a4.trans (a5.trans (a6.trans es))
      have hm:=M.mono' et
      obtain⟨j7,eu,E⟩:=bd E
      refine QF.ixe O O hm FM eu O λj8 hn=>QF.ld Ai ai.1 O hn Ag (λe=>by cases e) O λj9 ho=>?_
      obtain⟨bp,ev,E⟩:=bd E
      refine Ao O O O Q5 O (λh' o=>JL (St.all h') (AF.mk (x:=ao) ⟨eg,eh⟩) (ho.mono (o.all ai.1)) ev) λhp=>?_
      obtain⟨hq,hr⟩:=hp
      refine Dj λka ew ht=>Ad (vs:=[.int .i64 bp.Lo,.int .i64 bp.Hi]) O O O O Ag O ew .head O λkb ey hu=>LF.nil (kp [4,5,18,17,0,1,19] O) (WF.nil (λaa ww hf hw=>?_))
      exact⟨bp.Lo,bp.Hi,_,_,hf.sub (kp [4,5,18,17,0,1,19] O),hw,ey,(ht.trans hu),hq,hr,E⟩
     ·
      have E:=A3 ce E
      refine WF.skip (WF.nil (λaa ww hf hw=>?_))
      exact⟨ao.Lo,ao.Hi,_,_,hf.sub (kp [4,5,18,17,0,1,19] O),hw,ai,(Bc.refl S9 er),eg,eh,E⟩
    ·
     rintro aa ww ⟨ap,aq,kc,kd,hf,hw,ay,hv,hx,hy,E⟩
     refine WF.run ?_ hf hw
     clear hf hw ww aa
     rw[DB] at E
     refine Nr 7 mo (by kernel_rfl) O (QF.mv O O (D8 O O (QF.fao O Fk O (AI Af ay O (mt mh) O Gn O (QF.mv O O (QF.ldo (vs:=[.int .i64 ap,.int .i64 aq]) Af ay O mh O O Ag O O ?_))))))
     obtain⟨ke,ez,E⟩:=bd E
     refine QF.ixoe ay (mt (mt (mt (mt mh)))) O O FM ez O λkf e0=>AG ?_
     obtain⟨hz,e1,E⟩:=bd E
     refine LF.ste (r:=AF) (l:=l8) (i:=i6) (x:=hz) O O (AF.mk (x:=(⟨ap,aq⟩:AD)) ⟨hx,hy⟩) e0 e1 MA.id Ag (λe=>by cases e) ay (.tail (.tail (.tail (.tail .head)))) λkg e2 h0=>LF.nil (kp [18,17,0,1,19] O) (Ap (WF.rp (.inl O) (QF.addw O O O (QF.mv O O (AA (kp [19,18,17,0,1] O) (WF.nil (λaa ww hf hw=>?_)))))))
     have e3:=e2.sel [1,1,1,1] 1 O
     have e4:=a4.trans (a5.trans (a6.trans (es.trans (hv.trans h0))))
     exact⟨(Aw (i6+1)),(upd l8 i6 (⟨ap,aq⟩:AD)),_,_,hf.sub (kp [18,17,0,1,19] O),hw,e3,e4,(BA _),E⟩
   ·
    have E:=A3 cd E
    refine WF.exit O (λaa ww hf hw=>?_)
    exact⟨l8,_,_,hf.sub (kp [0] O),hw,aw,a4,E⟩
 ·
  rintro aa ww ⟨l2,cf,cg,hf,hw,bq,ch,E⟩
  refine WF.run ?_ hf hw
  clear hf hw ww aa
  rw[Am] at E
  refine WF.seq (WF.rp (.inl O) (QF.as_ O O (AA (kp [6,0] O) (WF.seq (WF.seq (WF.rp (.inl O) (QF.mv O O (D8 O O (QF.fao O EE O (QF.fao O Ke O (AI Af bq O mh O OE O ?_)))))))))))
  have e5:=an.mono' ch
  refine QF.len O e5 Fc O λkh=>QF.mv O O (AA (kp [63,62,61,6,0] O) (WF.blockJ (λa w=>∃(a7:Value) (F:List Az) (ad:List AD),IV B cf cg (162,[]) a w [(0,.pointer (some ⟨k,0,none⟩)),(6,a7)] (OS BS 93 a7 F::Bx k 106 [.string p0_w.b.Name,p,.int .i64 p0_w.b.Cells,s,m,t,u,y,z,A,.int .i64 p0_w.b.Err,.int .i64 p0_w.h.Hour,c,C,g,d]::OS AF 51 c p0_w.h.Vol::OS AZ 97 g p0_w.h.Links::OS AF 51 d ad::L) λ_ _=>Bb N p0_w F ad=some r) ?_ ?_))
  ·
   refine WF.loopF (λn4=>λa w=>∃(aj:Value) (X:List Az) (Y:Int) (Z:List AD),IV B cf cg (162,[]) a w [(62,.int .i64 (↑p0_w.h.Queue.length:Int)),(61,C),(0,.pointer (some ⟨k,0,none⟩)),(6,aj),(63,.int .i64 Y)] (OS BS 93 aj X::Bx k 106 [.string p0_w.b.Name,p,.int .i64 p0_w.b.Cells,s,m,t,u,y,z,A,.int .i64 p0_w.b.Err,.int .i64 p0_w.h.Hour,c,C,g,d]::OS AF 51 c p0_w.h.Vol::OS AZ 97 g p0_w.h.Links::OS AF 51 d Z::L) λ_ _=>AB Y∧BM N p0_w (Bb N p0_w) n4 X Y Z=some r) N ?_ ?_ ?_
   ·
    intro aa ww hf hw
    have ci:=bq.nil BS 93
    exact⟨(.slice none 0 0),([]),0,l2,_,_,hf.sub (kp [62,61,0,6,63] O),hw,ci,(Bc.refl cf cg),(iq (n:=0) O),E⟩
   ·
    rintro aa ww ⟨_,_,_,_,_,_,_,_,_,_,_,E⟩
    rw[BM] at E;cases E
   ·
    rintro n4 aa ww ⟨aj,X,Y,Z,e6,e7,hf,hw,ar,a8,h1,E⟩
    refine WF.run ?_ hf hw
    clear hf hw ww aa
    rw[BM] at E
    refine WF.seq (WF.rp (.inl O) (QF.lss O O O (AA (kp [64,62,61,0,6,63] O) (WF.seq (WF.if_ O (λa9=>?_) (λa9=>?_))))))
    ·
     have E:=A0 a9 E
     refine WF.skip (WF.seq (WF.blockJ (λa w=>∃(az:Value) (a0:List Az) (a1:List AD),IV B e6 e7 (162,[]) a w [(62,.int .i64 (↑p0_w.h.Queue.length:Int)),(61,C),(0,.pointer (some ⟨k,0,none⟩)),(63,.int .i64 Y),(6,az)] (OS BS 93 az a0::Bx k 106 [.string p0_w.b.Name,p,.int .i64 p0_w.b.Cells,s,m,t,u,y,z,A,.int .i64 p0_w.b.Err,.int .i64 p0_w.h.Hour,c,C,g,d]::OS AF 51 c p0_w.h.Vol::OS AZ 97 g p0_w.h.Links::OS AF 51 d a1::L) λ_ _=>D3 N Y (BM N p0_w (Bb N p0_w) n4) a0 a1=some r) ?_ ?_))
     ·
      refine WF.seq (WF.rl (LF.q 2 ?_))
      have e8:=e5.mono' a8
      obtain⟨G,cj,E⟩:=bd E
      refine QF.ixe O O e8 Fc cj O λh2 e9=>QF.ld Af ar.1 O e9 Jz (λe=>by cases e) O λh3 fb=>AG (LF.al WN O ar λh4 h5 ck ba=>?_)
      have fc:=fb.mono ba
      obtain⟨rfl,⟨fd,fe,br,bt⟩⟩:=BS.ex fc
      refine Ad (vs:=[.int .i64 G.At,.int .i64 G.To,.int .i64 G.Vol.Lo,.int .i64 G.Vol.Hi]) O O O O Jz O ck .head O λh6 H bu=>LF.nil (kp [8,62,61,0,6,63] O) (WF.seq (WF.rp (.inr ⟨mo,by kernel_rfl⟩) (QF.fao O M4 O (AI Af H O mh O AL O (QF.mv O O (D8 O O (QF.fao O EE O (QF.fao O Iq O (AI Af H O (mt (mt mh)) O AL O (QF.leq O O O (AA (kp [74,8,62,61,0,6,63] O) (WF.if_ O (λbb=>?_) (λbb=>?_)))))))))))))
      ·
       have E:=A0 bb E
       refine Ed 18 mo (by kernel_rfl) O H (QF.mv O O (D8 O O (QF.fao O Fk O (AI Ai H O (mt (mt mh)) O Gn O (QF.fao O Lr O (AI Ai H O mh O AL O (QF.mv O O (D8 O O (QF.fao O Fk O (AI Ai H O (mt (mt mh)) O Gn O (QF.fao O Lr O (AI Ai H O mh O AL O ?_))))))))))))
       obtain⟨h7,cl,E⟩:=bd E
       refine QF.ixoe H (mt (mt (mt (mt (mt mh))))) O O FM cl O λh8 cm=>?_
       obtain⟨h9,cn,E⟩:=bd E
       have ff:=H.epAt (mt (mt (mt (mt (mt mh))))) cn EO.id cm
       refine QF.ld Ai (λ_ x=>x) O ff Ag (λe=>by cases e) O λia fg=>QF.fao O Kc O (QF.ldo (vs:=[.int .i64 G.Vol.Lo,.int .i64 G.Vol.Hi]) Ai H O mh O O Ag O O ?_)
       obtain⟨bv,co,E⟩:=bd E
       refine Ao O O O Q5 O (λh' o=>JL (St.all h') (fg.mono (o.all H.1)) (AF.mk (x:=G.Vol) ⟨br,bt⟩) co) λfh=>?_
       obtain⟨fi,fj⟩:=fh
       obtain⟨ib,cp,E⟩:=bd E
       refine QF.ixoe H (mt (mt (mt (mt (mt mh))))) O O FM cp O λic cq=>Dj λie cr fk=>?_
       obtain⟨fl,ct,E⟩:=bd E
       refine LF.ste (r:=AF) (l:=Z) (i:=G.To) (x:=fl) O O (AF.mk (x:=bv) ⟨fi,fj⟩) cq ct MA.id Ag (λe=>by cases e) cr (.tail (.tail (.tail (.tail (.tail .head))))) λig cu fm=>LF.nil (kp [62,61,0,6,63] O) (WF.nil (λaa ww hf hw=>?_))
       have cv:=cu.sel [1,1,1,1,1] 1 O
       have cw:=ba.trans (bu.trans (fk.trans fm))
       exact⟨aj,X,(upd Z G.To bv),_,_,hf.sub (kp [62,61,0,63,6] O),hw,cv,cw,E⟩
      ·
       have E:=A3 bb E
       refine WF.rl (LF.q 2 (QF.mv O O (QF.ldo (vs:=[.int .i64 G.At,.int .i64 G.To,.int .i64 G.Vol.Lo,.int .i64 G.Vol.Hi]) Af H O mh O O Jz O O (AG (Hd (cs:=[.int .i64 G.At,.int .i64 G.To,.int .i64 G.Vol.Lo,.int .i64 G.Vol.Hi]) QB O O O O O O O H λih ii cx fn=>?_)))))
       obtain⟨cy,E⟩:=Q0 E
       refine LF.app2 (r:=BS) (l:=X) (xs:=([G]:List Az)) O O QB O mh ⟨_,_,O,⟨O,⟨fd,fe,br,bt⟩⟩,O⟩ O O cy O cx (λ_=>(.tail (.tail .head))) λfo ij cz fp=>?_
       have c0:=cz.drop .head
       refine LF.q 1 (QF.as_ O O (AG (LF.nil (kp [6,62,61,0,63] O) (WF.nil (λaa ww hf hw=>?_)))))
       have c1:=c0.sel [1,1,1,1,1] 1 O
       have c2:=ba.trans (bu.trans (fn.trans fp))
       exact⟨fo,(X++([G]:List Az)),Z,_,_,hf.sub (kp [62,61,0,63,6] O),hw,c1,c2,E⟩
     ·
      rintro aa ww ⟨az,a0,a1,ik,il,hf,hw,c3,fq,E⟩
      refine WF.run ?_ hf hw
      clear hf hw ww aa
      rw[D3] at E
      refine WF.rp (.inl O) (QF.addw O O O (QF.mv O O (AA (kp [63,62,61,0,6] O) (WF.nil (λaa ww hf hw=>?_)))))
      exact⟨az,a0,(Aw (Y+1)),a1,_,_,hf.sub (kp [62,61,0,6,63] O),hw,c3,(a8.trans fq),(BA _),E⟩
    ·
     have E:=A3 a9 E
     refine WF.exit O (λaa ww hf hw=>?_)
     exact⟨aj,X,Z,_,_,hf.sub (kp [0,6] O),hw,ar,a8,E⟩
  ·
   rintro aa ww ⟨a7,F,ad,bc,im,hf,hw,be,bw,E⟩
   refine WF.run ?_ hf hw
   clear hf hw ww aa
   rw[Bb] at E
   refine WF.seq (WF.rl (LF.q 5 (QF.mv O O (QF.mv O O (D8 O O (QF.fao O EE O (QF.fao O Ke O (AG ?_))))))))
   obtain⟨K,I,rfl,io⟩:=be.oslen mh
   refine H3 (vs:=[(.slice K F.length I)]) (cs':=[.string p0_w.b.Name,p,.int .i64 p0_w.b.Cells,s,m,t,u,y,z,A,.int .i64 p0_w.b.Err,.int .i64 p0_w.h.Hour,c,(.slice K F.length I),g,d]) O O O O OE O be (.tail .head) O O λbf au bx=>LF.nil (kp [0] O) (WF.seq (WF.seq (WF.rp (.inl O) (QF.mv O O (D8 O O (QF.fao O Fk O (AI Af au O (mt mh) O Gn O (QF.leno au (mt (mt (mt (mt mh)))) O FM O λip=>QF.mv O O (AA (kp [108,107,106,0] O) (WF.blockJ (λa w=>∃(ab:List AD),IV B bc bf (162,[]) a w [(0,.pointer (some ⟨k,0,none⟩))] (OS BS 93 (.slice K F.length I) F::Bx k 106 [.string p0_w.b.Name,p,.int .i64 p0_w.b.Cells,s,m,t,u,y,z,A,.int .i64 p0_w.b.Err,.int .i64 p0_w.h.Hour,c,(.slice K F.length I),g,d]::OS AF 51 c p0_w.h.Vol::OS AZ 97 g p0_w.h.Links::OS AF 51 d ab::L) λ_ _=>Bl N p0_w F ab=some r) ?_ ?_))))))))))
   ·
    refine WF.loopF (λn7=>λa w=>∃(ac:Int) (ae:List AD),IV B bc bf (162,[]) a w [(107,.int .i64 (↑ad.length:Int)),(106,d),(0,.pointer (some ⟨k,0,none⟩)),(108,.int .i64 ac)] (OS BS 93 (.slice K F.length I) F::Bx k 106 [.string p0_w.b.Name,p,.int .i64 p0_w.b.Cells,s,m,t,u,y,z,A,.int .i64 p0_w.b.Err,.int .i64 p0_w.h.Hour,c,(.slice K F.length I),g,d]::OS AF 51 c p0_w.h.Vol::OS AZ 97 g p0_w.h.Links::OS AF 51 d ae::L) λ_ _=>AB ac∧Bk N ad (Bl N p0_w F) n7 ac ae=some r) N ?_ ?_ ?_
    ·
     intro aa ww hf hw
     exact⟨0,ad,_,_,hf.sub (kp [107,106,0,108] O),hw,au,(Bc.refl bc bf),(iq (n:=0) O),E⟩
    ·
     rintro aa ww ⟨_,_,_,_,_,_,_,_,_,E⟩
     rw[Bk] at E;cases E
    ·
     rintro n7 aa ww ⟨ac,ae,ir,it,hf,hw,ag,bz,iu,E⟩
     refine WF.run ?_ hf hw
     clear hf hw ww aa
     rw[Bk] at E
     refine WF.seq (WF.rp (.inl O) (QF.lss O O O (AA (kp [109,107,106,0,108] O) (WF.seq (WF.if_ O (λbg=>?_) (λbg=>?_))))))
     ·
      have E:=A0 bg E
      refine WF.skip (WF.seq (WF.block (WF.seq (WF.rl (LF.q 3 (QF.mv O O ?_))))))
      obtain⟨iv,c4,E⟩:=bd E
      refine QF.ixoe ag (mt (mt (mt (mt mh)))) O O FM c4 O λiw c5=>?_
      obtain⟨ak,c6,E⟩:=bd E
      have fr:=ag.epAt (mt (mt (mt (mt mh)))) c6 EO.id c5
      refine QF.ld Af (λ_ x=>x) O fr Ag (λe=>by cases e) O λiy fs=>AG (LF.al Ee O ag λiz i0 c7 b0=>LF.q 1 (QF.as_ O O (AG ?_)))
      have ft:=fs.mono b0
      obtain⟨rfl,⟨fu,fv⟩⟩:=AF.ex ft
      refine Ad (vs:=[.int .i64 ak.Lo,.int .i64 ak.Hi]) O O O O Ag O c7 .head O λi1 ah fw=>LF.nil (kp [9,10,107,106,0,108] O) (Ed 8 mo (by kernel_rfl) O ah (QF.mv O O (D8 O O (QF.fao O Fk O (AI Ai ah O (mt (mt mh)) O Gn O (QF.mv O O (QF.ldo (vs:=[.int .i64 ak.Lo,.int .i64 ak.Hi]) Ai ah O mh O O Ag O O ?_)))))))
      obtain⟨b2,c8,E⟩:=bd E
      refine Ao O O O Q4 O (λh' o=>HW (St.all h') (AF.mk (x:=ak) ⟨fu,fv⟩) c8) λfx=>?_
      obtain⟨fy,fz⟩:=fx
      obtain⟨i2,c9,E⟩:=bd E
      refine QF.ixoe ah (mt (mt (mt (mt (mt mh))))) O O FM c9 O λi3 da=>Dj λi4 db f0=>?_
      obtain⟨f1,dc,E⟩:=bd E
      refine LF.ste (r:=AF) (l:=ae) (i:=ac) (x:=f1) O O (AF.mk (x:=b2) ⟨fy,fz⟩) da dc MA.id Ag (λe=>by cases e) db (.tail (.tail (.tail (.tail (.tail .head))))) λi5 dd f2=>LF.nil (kp [107,106,0,108] O) (Ap (WF.rp (.inl O) (QF.addw O O O (QF.mv O O (AA (kp [108,107,106,0] O) (WF.nil (λaa ww hf hw=>?_)))))))
      have de:=dd.sel [1,1,1,1,1] 1 O
      have df:=bz.trans (b0.trans (fw.trans (f0.trans f2)))
      exact⟨(Aw (ac+1)),(upd ae ac b2),_,_,hf.sub (kp [107,106,0,108] O),hw,de,df,(BA _),E⟩
     ·
      have E:=A3 bg E
      refine WF.exit O (λaa ww hf hw=>?_)
      exact⟨ae,_,_,hf.sub (kp [0] O),hw,ag,bz,E⟩
   ·
    rintro aa ww ⟨ab,b3,b4,hf,hw,bh,b5,E⟩
    refine WF.run ?_ hf hw
    clear hf hw ww aa
    rw[Bl] at E
    refine WF.seq (WF.rp (.inl O) (QF.mv O O (D8 O O (QF.fao O Fl O (QF.fao O FP O (AI Af bh O (mt mh) O Ho O ?_))))))
    have dg:=ch.trans (bw.trans (bx.trans b5))
    have b6:=a3.mono' dg
    refine QF.len O b6 GO O λi7=>QF.mv O O (AA (kp [128,127,126,0] O) (WF.block (WF.loopF (λn8=>λa w=>∃(V:Int) (af:List AT),IV B b3 b4 (162,[]) a w [(127,.int .i64 (↑p0_w.b.Links.length:Int)),(126,m),(0,.pointer (some ⟨k,0,none⟩)),(128,.int .i64 V)] (OS BS 93 (.slice K F.length I) F::Bx k 106 [.string p0_w.b.Name,p,.int .i64 p0_w.b.Cells,s,m,t,u,y,z,A,.int .i64 p0_w.b.Err,.int .i64 p0_w.h.Hour,c,(.slice K F.length I),g,d]::OS AF 51 c p0_w.h.Vol::OS AZ 97 g af::OS AF 51 d ab::L) λ_ _=>AB V∧Ba N p0_w F ab n8 V af=some r) N ?_ ?_ ?_)))
    ·
     intro aa ww hf hw
     exact⟨0,p0_w.h.Links,_,_,hf.sub (kp [127,126,0,128] O),hw,bh,(Bc.refl b3 b4),(iq (n:=0) O),E⟩
    ·
     rintro aa ww ⟨_,_,_,_,_,_,_,_,_,E⟩
     rw[Ba] at E;cases E
    ·
     rintro n8 aa ww ⟨V,af,f3,f4,hf,hw,av,bi,i8,E⟩
     refine WF.run ?_ hf hw
     clear hf hw ww aa
     rw[Ba] at E
     refine WF.seq (WF.rp (.inl O) (QF.lss O O O (AA (kp [129,127,126,0,128] O) (WF.seq (WF.if_ O (λbj=>?_) (λbj=>?_))))))
     ·
      have E:=A0 bj E
      refine WF.skip (WF.seq (WF.blockJ (λa w=>∃(a2:List AT),IV B f3 f4 (162,[]) a w [(127,.int .i64 (↑p0_w.b.Links.length:Int)),(126,m),(0,.pointer (some ⟨k,0,none⟩)),(128,.int .i64 V)] (OS BS 93 (.slice K F.length I) F::Bx k 106 [.string p0_w.b.Name,p,.int .i64 p0_w.b.Cells,s,m,t,u,y,z,A,.int .i64 p0_w.b.Err,.int .i64 p0_w.h.Hour,c,(.slice K F.length I),g,d]::OS AF 51 c p0_w.h.Vol::OS AZ 97 g a2::OS AF 51 d ab::L) λ_ _=>D2 N V (Ba N p0_w F ab n8) a2=some r) ?_ ?_))
      ·
       refine WF.seq (WF.rl (LF.q 3 (QF.mv O O ?_)))
       have f5:=b6.mono' bi
       obtain⟨j,dh,E⟩:=bd E
       refine QF.ixe O O f5 GO dh O λi9 f6=>QF.ld Af av.1 O f6 Du (λe=>by cases e) O λja f7=>AG (LF.al K8 O av λjb jc di bk=>LF.q 1 (QF.as_ O O (AG ?_)))
       have f8:=f7.mono bk
       obtain⟨bl,bm,bn,rfl,f9,ga,gb,gc,b7,b8,b9,ge,gf,gg,gh,gi,gj,gk,gl,gm,gp,gq⟩:=A9.ex f8
       refine LF.st (vs:=[.string j.Name,.int .i64 j.Kind,.int .i64 j.From,.int .i64 j.To,bl,bm,bn,.int .i64 j.Positions,.int .i64 j.Speed,.int .i64 j.Leak,.int .i64 j.Crest,.int .i64 j.Num,.int .i64 j.Den,.int .i64 j.Prime,.int .i64 j.Break,.int .i64 j.BackNum,.int .i64 j.BackDen,.int .i64 j.Delay]) (cs':=[.string j.Name,.int .i64 j.Kind,.int .i64 j.From,.int .i64 j.To,bl,bm,bn,.int .i64 j.Positions,.int .i64 j.Speed,.int .i64 j.Leak,.int .i64 j.Crest,.int .i64 j.Num,.int .i64 j.Den,.int .i64 j.Prime,.int .i64 j.Break,.int .i64 j.BackNum,.int .i64 j.BackDen,.int .i64 j.Delay]) O O O (AC O (AC O (AC O (AC O (AC b7.one (AC b8.one (AC b9.one (AC O (AC O (AC O (AC O (AC O (AC O (AC O (AC O (AC O (AC O (AC O Eo)))))))))))))))))) Du O di .head O O λjd D am=>LF.nil (kp [11,12,127,126,0,128] O) (WF.seq (WF.rp (.inl O) (QF.fao O Do O (AI Af D O mh O AL O (QF.eql O O O (AA (kp [135,11,12,127,126,0,128] O) (WF.if_ O (λbo=>?_) (λbo=>?_))))))))
       ·
        have E:=A0 bo E
        refine Ed 25 mo (by kernel_rfl) O D (QF.mv O O (D8 O O (QF.fao O EE O (QF.fao O Gv O (AI Ai D O (mt (mt mh)) O JZ O (QF.mv O O (QF.ldo (vs:=[.string j.Name,.int .i64 j.Kind,.int .i64 j.From,.int .i64 j.To,bl,bm,bn,.int .i64 j.Positions,.int .i64 j.Speed,.int .i64 j.Leak,.int .i64 j.Crest,.int .i64 j.Num,.int .i64 j.Den,.int .i64 j.Prime,.int .i64 j.Break,.int .i64 j.BackNum,.int .i64 j.BackDen,.int .i64 j.Delay]) Ai D O mh O O Du O O (QF.mv O O (D8 O O (QF.fao O EE O (QF.fao O Gv O (AI Ai D O (mt (mt mh)) O JZ O (QF.mv O O ?_)))))))))))))
        obtain⟨je,dj,E⟩:=bd E
        refine QF.ixoe D (mt (mt (mt (mt mh)))) O O J2 dj O λjf dk=>?_
        obtain⟨jg,dl,E⟩:=bd E
        have gr:=D.epAt (mt (mt (mt (mt mh)))) dl EO.id dk
        refine QF.ld Ai (λ_ x=>x) O gr Gj (λe=>by cases e) O λjh gs=>QF.mv O O (D8 O O (QF.fao O Fk O (AI Ai D O (mt (mt mh)) O Gn O (QF.fao O GV O (AI Ai D O mh O AL O ?_)))))
        obtain⟨ji,dm,E⟩:=bd E
        refine QF.ixoe D (mt (mt (mt (mt (mt mh))))) O O FM dm O λjj dn=>?_
        obtain⟨jk,dp,E⟩:=bd E
        have gu:=D.epAt (mt (mt (mt (mt (mt mh))))) dp EO.id dn
        refine QF.ld Ai (λ_ x=>x) O gu Ag (λe=>by cases e) O λjl gv=>?_
        have gw:=b7.mono' am
        have gx:=b8.mono' am
        have gz:=b9.mono' am
        obtain⟨ca,dq,E⟩:=bd E
        refine Ao O O O Xy O (λh' o=>NK (St.all h') (A9.mk (x:=j) f9 ga gb gc (gw.mono' (o.all D.1)) (gx.mono' (o.all D.1)) (gz.mono' (o.all D.1)) ge gf gg gh gi gj gk gl gm gp gq) (gs.mono (o.all D.1)) (gv.mono (o.all D.1)) dq) λg0=>?_
        obtain⟨g1,g2,g3,g4,g5⟩:=g0
        obtain⟨jm,dr,E⟩:=bd E
        refine QF.ixoe D (mt (mt (mt (mt mh)))) O O J2 dr O λjn ds=>Dj λjo dt g6=>?_
        obtain⟨g7,du,E⟩:=bd E
        refine LF.ste (r:=AZ) (l:=af) (i:=V) (x:=g7) O O (AZ.mk (x:=ca) ⟨g1,g2,g3,g4,g5⟩) ds du MA.id Gj (λe=>by cases e) dt (.tail (.tail (.tail (.tail .head)))) λjp dv g8=>LF.nil (kp [127,126,0,128] O) (WF.nil (λaa ww hf hw=>?_))
        have dw:=dv.sel [1,1,1,1,1] 1 O
        have dx:=bk.trans (am.trans (g6.trans g8))
        exact⟨(upd af V ca),_,_,hf.sub (kp [127,126,0,128] O),hw,dw,dx,E⟩
       ·
        have E:=A3 bo E
        refine WF.skip (WF.nil (λaa ww hf hw=>?_))
        have dy:=D.sel [1,1,1,1,1] 1 O
        exact⟨af,_,_,hf.sub (kp [127,126,0,128] O),hw,dy,(bk.trans am),E⟩
      ·
       rintro aa ww ⟨a2,jq,jr,hf,hw,dz,g9,E⟩
       refine WF.run ?_ hf hw
       clear hf hw ww aa
       rw[D2] at E
       refine WF.rp (.inl O) (QF.addw O O O (QF.mv O O (AA (kp [128,127,126,0] O) (WF.nil (λaa ww hf hw=>?_)))))
       exact⟨(Aw (V+1)),a2,_,_,hf.sub (kp [127,126,0,128] O),hw,dz,(bi.trans g9),(BA _),E⟩
     ·
      have E:=A3 bj E
      refine Hu O (WF.nil (λaa ww hf hw=>?_))
      have d0:=av.sel [1,1,0,0,0] 0 O
      cases E
      have d1:=ch.trans (bw.trans (bx.trans (b5.trans bi)))
      exact HQ hf O hw HC O d1 ⟨_,_,_,O,d0⟩
end Go.Proofs.YtibidnaedddfdaaGreat
