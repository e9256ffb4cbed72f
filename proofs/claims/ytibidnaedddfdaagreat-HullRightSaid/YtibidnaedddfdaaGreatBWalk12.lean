import Derived.Test.YtibidnaedddfdaaGreatBWalk11
namespace Go.Proofs.YtibidnaedddfdaaGreat
open Go.RowKit
set_option linter.unusedVariables false
set_option linter.unusedSimpArgs false
set_option maxRecDepth 10000
set_option maxHeartbeats 2000000
variable {N:Nat}{S:Nat→Prop}{L:List HP}{h:Ac}
theorem Ka (hs:St S L h) {s:Value}{t:AK}(C:Rd S h BG s t) {r:Bool}(E:Ew N t=some r):
 Bh Tryz.prog 44 #[s] S h (λv S' h'=>v= .bool r∧St S' (L) h'):=by
 refine Ag (l:=[s]) 80 Tryz.func44 O Tryz.ntmps44 O λB=>?_
 rw[Ew] at E
 refine WF.seq (WF.rl (LF.boxp O C (λe=>by cases e) O hs λq1 S2 h3 Y e5 k6=>LF.q 1 (QF.as_ O O (AE (LF.nil (kp [1] O) (WF.seq (WF.seq (WF.rp (.inl O) (QF.fa O k6 Ie Ou O λq7 k8=>QF.ldl Af Y.1 O k8 Su O λv9 Z=>QF.len O Z PZ O λbq=>QF.mv O O ?_)))))))))
 refine AA (kp [8,7,6,1] O) (WF.blockJ (λa w=>IV B S2 h3 (80,[]) a w [] (L) λ_ _=>Dh N=some r) ?_ ?_)
 ·
  refine WF.loopF (λn1=>λa w=>∃(x:Int),IV B S2 h3 (80,[]) a w [(7,.int .i64 (↑t.Roads.length:Int)),(6,v9),(1,q1),(8,.int .i64 x)] (L) λ_ _=>AB x∧CV N t (Dh N) n1 x=some r) N ?_ ?_ ?_
  ·
   intro aa ww hf hw
   exact⟨0,_,_,hf.sub (kp [7,6,1,8] O),hw,Y,(Bg.refl S2 h3),(iq (n:=0) O),E⟩
  ·
   rintro aa ww ⟨_,_,_,_,_,_,_,_,E⟩
   rw[CV] at E;cases E
  ·
   rintro n1 aa ww ⟨x,br,bt,hf,hw,y,u,bu,E⟩
   refine WF.run ?_ hf hw
   clear hf hw ww aa
   rw[CV] at E
   refine WF.seq (WF.rp (.inl O) (QF.lss O O O (AA (kp [9,7,6,1,8] O) (WF.seq (WF.if_ O (λK=>?_) (λK=>?_))))))
   ·
    have E:=A7 K E
    refine WF.skip (WF.seq (WF.block (WF.seq (WF.rl (LF.q 2 ?_)))))
    have ay:=Z.mono' u
    obtain⟨b,ab,E⟩:=bd E
    refine QF.ixe O O ay PZ ab O λbv az=>QF.ld Af y.1 O az OV (λe=>by cases e) O λbw a0=>AE (LF.al Sc O y λbx bz ac z=>?_)
    have a1:=a0.mono z
    obtain⟨rfl,⟨b0,a2,a3,a4,a5,a6,a7⟩⟩:=Ex.ex a1
    refine Ai (vs:=[.string b.Name,.int .i64 b.From,.int .i64 b.To,.int .i64 b.Hours,.int .i64 b.Flow,.int .i64 b.By,.int .i64 b.Limit]) O O O O OV O ac .head O λb1 c D=>LF.nil (kp [4,7,6,1,8] O) (WF.seq (WF.seq (WF.rc (.inl O) c (QF.fao O P1 O (AI Ak c O mh O AM O ?_)))))
    have ad:=u.trans (z.trans D)
    have F:=k6.mono ad
    refine QF.fa O F GZ Lt O λb2 a8=>QF.ldl Ak c.1 O a8 PP O λb3 a9=>QF.len O a9 NF O λba=>?_
    obtain⟨bb,ae,E⟩:=bd E
    refine Ab O O O Nf O (λh' o=>Eb (St.all h') a2 (Ii ba) ae) (QF.not O O (QF.mv O O ?_))
    obtain⟨G,d,E⟩:=bd E
    refine QF.cutv 12 31 (.bool G) ?_ ?_
    ·
     cases af:(!bb)
     ·
      have d:=A8 af d
      refine QF.gy O O O (QF.fao O Pz O (QF.gy O O O (AI Ak c O mh O AM O (QF.gy O O O (QF.fa O F GZ Lt O λb4 bc=>QF.gy O O O (QF.ldl Ak c.1 O bc PP O λb5 be=>QF.gy O O O (QF.len O be NF O λb6=>QF.gy O O O (QF.fa O F GM M6 O λb7 bf=>QF.gy O O O (QF.ldl Ak c.1 O bf Q4 O λb8 bg=>?_)))))))))
      refine QF.gy O O O (QF.len O bg N3 O λb9=>QF.gy O O O (QF.addw O O O (QF.gy O O O ?_)))
      obtain⟨ca,ag,d⟩:=bd d
      refine Ab O O O Nf O (λh' o=>Eb (St.all h') a3 (BA _) ag) (QF.gy O O O (QF.not O O (QF.pick O O O ?_)))
      cases d
      exact AJ O
     ·
      have d:=A7 af d
      cases d
      exact AL O O
    refine QF.mv O O (QF.cutv 6 38 (.bool (G||(decide (b.From=b.To)))) ?_ ?_)
    ·
     cases cb:G
     ·exact QF.gy O O O (QF.fao O P1 O (QF.gy O O O (AI Ak c O mh O AM O (QF.gy O O O (QF.fao O Pz O (QF.gy O O O (AI Ak c O mh O AM O (QF.gy O O O (QF.eql O O O (QF.pick O O O (AJ O)))))))))))
     ·exact AL O O
    refine QF.mv O O ?_
    obtain⟨ah,g,E⟩:=bd E
    refine QF.cutv 5 44 (.bool ah) ?_ ?_
    ·
     cases ai:(G||(decide (b.From=b.To)))
     ·
      have g:=A8 ai g
      refine QF.gy O O O (QF.fao O T6 O (QF.gy O O O (AI Ak c O mh O AM O (QF.gy O O O ?_))))
      obtain⟨cc,aj,g⟩:=bd g
      refine Ab O O O Fh O (λh' o=>BE (St.all h') a4 (iq (n:=1) O) (iq (n:=24) O) aj) (QF.gy O O O (QF.not O O (QF.pick O O O ?_)))
      cases g
      exact AJ O
     ·
      have g:=A7 ai g
      cases g
      exact AL O O
    refine QF.mv O O ?_
    obtain⟨ak,i,E⟩:=bd E
    refine QF.cutv 5 50 (.bool ak) ?_ ?_
    ·
     cases am:ah
     ·
      have i:=A8 am i
      refine QF.gy O O O (QF.fao O T5 O (QF.gy O O O (AI Ak c O mh O AM O (QF.gy O O O ?_))))
      obtain⟨cd,an,i⟩:=bd i
      refine Ab O O O Fh O (λh' o=>BE (St.all h') a5 (iq (n:=0) O) (iq (n:=1073741824) O) an) (QF.gy O O O (QF.not O O (QF.pick O O O ?_)))
      cases i
      exact AJ O
     ·
      have i:=A7 am i
      cases i
      exact AL O O
    refine QF.mv O O ?_
    obtain⟨bh,j,E⟩:=bd E
    refine QF.cutv 5 56 (.bool bh) ?_ ?_
    ·
     cases ao:ak
     ·
      have j:=A8 ao j
      refine QF.gy O O O (QF.fao O Py O (QF.gy O O O (AI Ak c O mh O AM O (QF.gy O O O ?_))))
      obtain⟨ce,ap,j⟩:=bd j
      refine Ab O O O HV O (λh' o=>BL (St.all h') a7 ap) (QF.gy O O O (QF.not O O (QF.pick O O O ?_)))
      cases j
      exact AJ O
     ·
      have j:=A7 ao j
      cases j
      exact AL O O
    refine Aq (kp [56,4,7,6,1,8] O) λcf p H=>WF.if_ O (λM=>?_) (λM=>?_)
    ·
     have E:=A7 M E
     refine WF.seq (WF.rp (.inl O) (QF.as_ O O (AA (kp [2] O) (WF.ret (λaa ww hf hw=>?_)))))
     have aq:=p.drop .head
     cases E
     have ar:=e5.trans (u.trans (z.trans (D.trans H)))
     exact DC hf hw O O ar ⟨O,aq⟩
    ·
     have E:=A8 M E
     refine WF.skip (WF.seq (WF.rc (.inl O) p (QF.fao O NV O (AI Ak p O mh O AM O (QF.eql O O O (QF.mv O O (QF.cutv 4 64 (.bool ((decide (b.By=(-1)))&&(decide (b.Limit≠0)))) ?_ ?_)))))))
     ·
      cases cg:(decide (b.By=(-1)))
      ·exact AL O O
      ·exact QF.gy O O O (QF.fao O Py O (QF.gy O O O (AI Ak p O mh O AM O (QF.gy O O O (QF.neq O O O (QF.pick O O O (AJ O)))))))
     refine QF.mv O O ?_
     obtain⟨bi,k,E⟩:=bd E
     refine QF.cutv 13 78 (.bool bi) ?_ ?_
     ·
      cases au:((decide (b.By=(-1)))&&(decide (b.Limit≠0)))
      ·
       have k:=A8 au k
       refine QF.gy O O O (QF.fao O NV O (QF.gy O O O (AI Ak p O mh O AM O (QF.gy O O O (QF.neq O O O (QF.gy O O O (QF.mv O O ?_)))))))
       obtain⟨bj,m,k⟩:=bd k
       refine QF.cutv 8 77 (.bool bj) ?_ ?_
       ·
        cases av:(decide (b.By≠(-1)))
        ·
         have m:=A8 av m
         cases m
         exact AL O O
        ·
         have m:=A7 av m
         refine QF.gy O O O (QF.fao O NV O (QF.gy O O O (AI Ak p O mh O AM O (QF.gy O O O ?_))))
         have bk:=F.mono H
         refine QF.fa O bk Aj CX O λch bl=>QF.gy O O O (QF.ldl Ak p.1 O bl Ec O λci bm=>QF.gy O O O (QF.len O bm D8 O λbn=>QF.gy O O O ?_))
         obtain⟨cj,aw,m⟩:=bd m
         refine Ab O O O Nf O (λh' o=>Eb (St.all h') a6 (Ii bn) aw) (QF.gy O O O (QF.not O O (QF.gy O O O (QF.pick O O O ?_))))
         cases m
         exact AJ O
       refine QF.pick O O O ?_
       cases k
       exact AJ O
      ·
       have k:=A7 au k
       cases k
       exact AL O O
     refine Aq (kp [78,7,6,1,8] O) λck I J=>WF.if_ O (λA=>?_) (λA=>?_)
     ·
      have E:=A7 A E
      refine WF.seq (WF.rp (.inl O) (QF.as_ O O (AA (kp [2] O) (WF.ret (λaa ww hf hw=>?_)))))
      have Q:=I.drop .head
      cases E
      have U:=e5.trans (u.trans (z.trans (D.trans (H.trans J))))
      exact DC hf hw O O U ⟨O,Q⟩
     ·
      have E:=A8 A E
      refine WF.skip (Ap (WF.rp (.inl O) (QF.addw O O O (QF.mv O O (AA (kp [8,7,6,1] O) (WF.nil (λaa ww hf hw=>?_)))))))
      have V:=I.drop .head
      have W:=u.trans (z.trans (D.trans (H.trans J)))
      exact⟨(A3 (x+1)),_,_,hf.sub (kp [7,6,1,8] O),hw,V,W,(BA _),E⟩
   ·
    have E:=A8 K E
    refine WF.exit O (λaa ww hf hw=>?_)
    exact⟨_,_,hf.sub J6,hw,y,u,E⟩
 ·
  rintro aa ww ⟨bo,bp,hf,hw,X,ax,E⟩
  refine WF.run ?_ hf hw
  clear hf hw ww aa
  rw[Dh] at E
  refine WF.seq (WF.rp (.inl O) (QF.as_ O O (AA (kp [2] O) (WF.ret (λaa ww hf hw=>?_)))))
  cases E
  exact DC hf hw O O (e5.trans ax) ⟨O,X⟩
theorem Mt (hs:St S L h) {n:Value}{t:AK}(p:Rd S h BG n t) {r:Bool}(E:Zx N t=some r):
 Bh Tryz.prog 10 #[n] S h (λv S' h'=>v= .bool r∧St S' (L) h'):=by
 refine Ag (l:=[n]) 37 Tryz.func10 O Tryz.ntmps10 O λB=>?_
 rw[Zx] at E
 refine WF.seq (WF.rl (LF.boxp O p (λe=>by cases e) O hs λq1 S2 h3 a e5 s=>LF.q 1 (QF.as_ O O (AE (LF.nil (kp [1] O) (WF.seq (WF.rc (.inl O) a (QF.ld Ak a.1 O s ET (λe=>by cases e) O λv7 k8=>?_))))))))
 obtain⟨y9,ad,E⟩:=bd E
 refine Ab O O O Y9 O (λh' o=>K5 (St.all h') (k8.mono (o.all a.1)) ad) (QF.mv O O ?_)
 obtain⟨u,b,E⟩:=bd E
 refine QF.cutv 3 8 (.bool u) ?_ ?_
 ·
  cases w:y9
  ·
   have b:=A8 w b
   cases b
   exact AL O O
  ·
   have b:=A7 w b
   refine QF.gy O O O (QF.ld Ak a.1 O s ET (λe=>by cases e) O λap ae=>QF.gy O O O ?_)
   obtain⟨aq,x,b⟩:=bd b
   refine Ab O O O Y8 O (λh' o=>Kb (St.all h') (ae.mono (o.all a.1)) x) (QF.pick O O O ?_)
   cases b
   exact AJ O
 refine QF.mv O O ?_
 obtain⟨y,c,E⟩:=bd E
 refine QF.cutv 3 12 (.bool y) ?_ ?_
 ·
  cases z:u
  ·
   have c:=A8 z c
   cases c
   exact AL O O
  ·
   have c:=A7 z c
   refine QF.gy O O O (QF.ld Ak a.1 O s ET (λe=>by cases e) O λar af=>QF.gy O O O ?_)
   obtain⟨au,A,c⟩:=bd c
   refine Ab O O O Y7 O (λh' o=>J3 (St.all h') (af.mono (o.all a.1)) A) (QF.pick O O O ?_)
   cases c
   exact AJ O
 refine QF.mv O O ?_
 obtain⟨C,d,E⟩:=bd E
 refine QF.cutv 3 16 (.bool C) ?_ ?_
 ·
  cases D:y
  ·
   have d:=A8 D d
   cases d
   exact AL O O
  ·
   have d:=A7 D d
   refine QF.gy O O O (QF.ld Ak a.1 O s ET (λe=>by cases e) O λav ag=>QF.gy O O O ?_)
   obtain⟨aw,F,d⟩:=bd d
   refine Ab O O O Y6 O (λh' o=>Kc (St.all h') (ag.mono (o.all a.1)) F) (QF.pick O O O ?_)
   cases d
   exact AJ O
 refine QF.mv O O ?_
 obtain⟨G,g,E⟩:=bd E
 refine QF.cutv 3 20 (.bool G) ?_ ?_
 ·
  cases H:C
  ·
   have g:=A8 H g
   cases g
   exact AL O O
  ·
   have g:=A7 H g
   refine QF.gy O O O (QF.ld Ak a.1 O s ET (λe=>by cases e) O λax ah=>QF.gy O O O ?_)
   obtain⟨ay,I,g⟩:=bd g
   refine Ab O O O Y5 O (λh' o=>JW (St.all h') (ah.mono (o.all a.1)) I) (QF.pick O O O ?_)
   cases g
   exact AJ O
 refine QF.mv O O ?_
 obtain⟨J,i,E⟩:=bd E
 refine QF.cutv 3 24 (.bool J) ?_ ?_
 ·
  cases K:G
  ·
   have i:=A8 K i
   cases i
   exact AL O O
  ·
   have i:=A7 K i
   refine QF.gy O O O (QF.ld Ak a.1 O s ET (λe=>by cases e) O λaz ai=>QF.gy O O O ?_)
   obtain⟨a0,M,i⟩:=bd i
   refine Ab O O O Y4 O (λh' o=>J2 (St.all h') (ai.mono (o.all a.1)) M) (QF.pick O O O ?_)
   cases i
   exact AJ O
 refine QF.mv O O ?_
 obtain⟨Q,j,E⟩:=bd E
 refine QF.cutv 3 28 (.bool Q) ?_ ?_
 ·
  cases U:J
  ·
   have j:=A8 U j
   cases j
   exact AL O O
  ·
   have j:=A7 U j
   refine QF.gy O O O (QF.ld Ak a.1 O s ET (λe=>by cases e) O λa1 aj=>QF.gy O O O ?_)
   obtain⟨a2,V,j⟩:=bd j
   refine Ab O O O Y3 O (λh' o=>KZ (St.all h') (aj.mono (o.all a.1)) V) (QF.pick O O O ?_)
   cases j
   exact AJ O
 refine QF.mv O O ?_
 obtain⟨W,k,E⟩:=bd E
 refine QF.cutv 3 32 (.bool W) ?_ ?_
 ·
  cases X:Q
  ·
   have k:=A8 X k
   cases k
   exact AL O O
  ·
   have k:=A7 X k
   refine QF.gy O O O (QF.ld Ak a.1 O s ET (λe=>by cases e) O λa3 ak=>QF.gy O O O ?_)
   obtain⟨a4,Y,k⟩:=bd k
   refine Ab O O O Y2 O (λh' o=>J4 (St.all h') (ak.mono (o.all a.1)) Y) (QF.pick O O O ?_)
   cases k
   exact AJ O
 refine QF.mv O O ?_
 obtain⟨am,m,E⟩:=bd E
 refine QF.cutv 3 36 (.bool am) ?_ ?_
 ·
  cases Z:W
  ·
   have m:=A8 Z m
   cases m
   exact AL O O
  ·
   have m:=A7 Z m
   refine QF.gy O O O (QF.ld Ak a.1 O s ET (λe=>by cases e) O λa5 an=>QF.gy O O O ?_)
   obtain⟨a6,ab,m⟩:=bd m
   refine Ab O O O Y1 O (λh' o=>Ka (St.all h') (an.mono (o.all a.1)) ab) (QF.pick O O O ?_)
   cases m
   exact AJ O
 refine QF.as_ O O (Aq (kp [2] O) λa7 ac ao=>WF.ret (λaa ww hf hw=>?_))
 cases E
 exact DC hf hw O O (e5.trans ao) ⟨O,ac⟩
theorem Ij (hs:St S L h) {V:Value}{G:AK}(ay:Rd S h BG V G) {W:Value}{C:Al}(az:Rd S h CE W C) {H:Value}{am:C7}(an:Rd S h E0 H am) {y:Value}{s:(List Bool)}(I:Sl S h AW.bool y s) {z:Value}{A:(List AF)}(J:Sl S h AH z A) {r:Bool}(E:Dv N G C am s A=some r):
 Bh Tryz.prog 3 #[V,W,H,y,z] S h (λv S' h'=>v= .bool r∧St S' (L) h'):=by
 refine Ag (l:=[V,W,H,y,z]) 158 Tryz.func3 O Tryz.ntmps3 O λB=>?_
 rw[Dv] at E
 refine WF.seq (WF.rl (LF.boxp O ay (λe=>by cases e) O hs λq1 S2 h3 ed e5 k6=>?_))
 have k7:=az.mono e5
 refine LF.boxp O k7 (λe=>by cases e) O ed λq8 S9 g0 cq X ee=>?_
 have ef:=an.mono (e5.trans X)
 refine LF.boxp O ef (λe=>by cases e) O cq λg1 g2 g3 cr Y eg=>LF.q 1 (QF.as_ O O (AE (LF.nil (kp [7,6,5,3,4] O) (WF.seq (WF.rc (.inl O) cr ?_)))))
 obtain⟨a0,ct,E⟩:=bd E
 refine Ab O O O Zf O (λh' o=>J0 (St.all h') ct) (QF.as_ O O (Aq (kp [11,7,6,5,3,4] O) λg4 k K=>WF.seq (WF.seq (WF.rc (.inl O) k ?_))))
 have cu:=X.trans (Y.trans K)
 have a1:=k6.mono cu
 refine QF.ld Ak k.1 O a1 ET (λe=>by cases e) O λg5 eh=>?_
 have a2:=ee.mono (Y.trans K)
 refine QF.ld Ak k.1 O a2 FG (λe=>by cases e) O λg6 ei=>?_
 have cv:=eg.mono K
 refine QF.ld Ak k.1 O cv Ss (λe=>by cases e) O λg7 ej=>?_
 obtain⟨ao,cw,E⟩:=bd E
 refine Ab O O O Ze O (λh' o=>K4 (St.all h') (eh.mono (o.all k.1)) (ei.mono (o.all k.1)) (ej.mono (o.all k.1)) cw) (QF.not O O (QF.mv O O (QF.cutv 4 27 (.bool ((!ao)||(decide (10<(↑s.length:Int))))) ?_ ?_)))
 ·
  cases g8:(!ao)
  ·
   refine QF.gy O O O (QF.mv O O (QF.gy O O O ?_))
   have cx:=e5.trans (X.trans (Y.trans K))
   have ek:=I.mono' cx
   exact QF.len O ek TJ O λg9=>QF.gy O O O (QF.gtr O O O (QF.pick O O O (AJ O)))
  ·exact AL O O
 refine QF.mv O O (QF.cutv 4 32 (.bool (((!ao)||(decide (10<(↑s.length:Int))))||(decide (10<(↑A.length:Int))))) ?_ ?_)
 ·
  cases ha:((!ao)||(decide (10<(↑s.length:Int))))
  ·
   refine QF.gy O O O (QF.mv O O (QF.gy O O O ?_))
   have cy:=e5.trans (X.trans (Y.trans K))
   have el:=J.mono' cy
   exact QF.len O el DY O λhb=>QF.gy O O O (QF.gtr O O O (QF.pick O O O (AJ O)))
  ·exact AL O O
 refine QF.mv O O ?_
 obtain⟨cz,D,E⟩:=bd E
 refine QF.cutv 4 37 (.bool cz) ?_ ?_
 ·
  cases c0:(((!ao)||(decide (10<(↑s.length:Int))))||(decide (10<(↑A.length:Int))))
  ·
   have D:=A8 c0 D
   refine QF.gy O O O (QF.ld Ak k.1 O a1 ET (λe=>by cases e) O λhc em=>QF.gy O O O ?_)
   obtain⟨hd,c1,D⟩:=bd D
   refine Ab O O O ZC O (λh' o=>Mt (St.all h') (em.mono (o.all k.1)) c1) (QF.gy O O O (QF.not O O (QF.pick O O O ?_)))
   cases D
   exact AJ O
  ·
   have D:=A7 c0 D
   cases D
   exact AL O O
 refine QF.mv O O ?_
 obtain⟨bj,F,E⟩:=bd E
 refine QF.cutv 5 43 (.bool bj) ?_ ?_
 ·
  cases c2:cz
  ·
   have F:=A8 c2 F
   refine QF.gy O O O (QF.ld Ak k.1 O a1 ET (λe=>by cases e) O λhe en=>QF.gy O O O (QF.ld Ak k.1 O a2 FG (λe=>by cases e) O λhg eo=>QF.gy O O O ?_))
   obtain⟨hh,c3,F⟩:=bd F
   refine Ab O O O Nl O (λh' o=>Er (St.all h') (en.mono (o.all k.1)) (eo.mono (o.all k.1)) c3) (QF.gy O O O (QF.not O O (QF.pick O O O ?_)))
   cases F
   exact AJ O
  ·
   have F:=A7 c2 F
   cases F
   exact AL O O
 refine QF.mv O O (QF.cutv 4 48 (.bool (bj||(decide (16777216≤C.Hour)))) ?_ ?_)
 ·
  cases hi:bj
  ·exact QF.gy O O O (QF.fa O a2 Al.f_Hour Gu O λhj ep=>QF.gy O O O (QF.ldi Ak k.1 O ep AM O λhk=>QF.gy O O O (QF.geq O O O (QF.pick O O O (AJ O)))))
  ·exact AL O O
 refine Aq (kp [48,11,7,6,5,3,4] O) λhl Z ab=>WF.if_ O (λbk=>?_) (λbk=>?_)
 ·
  have E:=A7 bk E
  refine WF.seq (WF.rp (.inl O) (QF.mv O O (QF.as_ O O (AA (kp [10] O) (WF.ret (λaa ww hf hw=>?_))))))
  cases E
  have c4:=e5.trans (X.trans (Y.trans (K.trans ab)))
  exact DC hf hw O O c4 ⟨O,Z⟩
 ·
  have E:=A8 bk E
  refine WF.skip (WF.seq (WF.rl (LF.q 5 ?_)))
  have c5:=a1.mono ab
  refine QF.ld Af Z.1 O c5 ET (λe=>by cases e) O λhm eq=>?_
  have c6:=a2.mono ab
  refine QF.ld Af Z.1 O c6 FG (λe=>by cases e) O λhn er=>?_
  have es:=cv.mono ab
  refine QF.ld Af Z.1 O es Ss (λe=>by cases e) O λho et=>QF.mv O O (QF.mv O O (AE ?_))
  have a4:=e5.trans (X.trans (Y.trans (K.trans ab)))
  have eu:=I.mono' a4
  have ev:=J.mono' a4
  obtain⟨t,c7,E⟩:=bd E
  refine LF.call O O O WH O (K8 Z eq er et eu ev c7) λhp bl hq ap p=>?_
  obtain⟨hr,c8,c9,rfl,ew,da⟩:=p
  refine LF.q 4 (QF.mv O O (QF.ext O O O (QF.ext O O O (QF.ext O O O (AE (LF.al N0 O da λdb ht dc ak=>?_))))))
  have ey:=ew.mono ak
  obtain⟨a3,ag,ah,rfl,ez,ai,a5,a6⟩:=CE.ex ey
  refine LF.st (vs:=[.int .i64 t.1.Hour,a3,ag,ah]) (cs':=[.int .i64 t.1.Hour,a3,ag,ah]) O O O (AD O (AD ai.one (AD a5.one (AD a6.one EI)))) FG O dc .head O O λe0 c u=>LF.q 2 (QF.as_ O O (QF.as_ O O (AE (LF.nil (kp [14,13,12,11,6,5] O) (WF.seq (WF.seq (WF.rc (.inl O) c ?_)))))))
  have bm:=ap.trans (ak.trans u)
  have aj:=c5.mono bm
  refine QF.ld Ak c.1 O aj ET (λe=>by cases e) O λe1 dd=>QF.ldo (vs:=[.int .i64 t.1.Hour,a3,ag,ah]) Ak c O mh O O FG O O ?_
  have de:=ai.mono' u
  have df:=a5.mono' u
  have dg:=a6.mono' u
  obtain⟨M,bn,E⟩:=bd E
  refine Ab O O O Nl O (λh' o=>Er (St.all h') (dd.mono (o.all c.1)) (CE.mk (x:=t.1) ez (de.mono' (o.all c.1)) (df.mono' (o.all c.1)) (dg.mono' (o.all c.1))) bn) (QF.not O O (QF.mv O O (QF.cutv 7 71 (.bool ((!M)||(decide (t.1.Hour≠(A3 (C.Hour+1)))))) ?_ ?_)))
  ·
   cases e2:(!M)
   ·
    refine QF.gy O O O (QF.fao O Gu O (QF.gy O O O (AI Ak c O mh O AM O (QF.gy O O O ?_))))
    have bo:=ap.trans (ak.trans u)
    have dh:=c6.mono bo
    exact QF.fa O dh Al.f_Hour Gu O λe3 di=>QF.gy O O O (QF.ldi Ak c.1 O di AM O λe4=>QF.gy O O O (QF.addw O O O (QF.gy O O O (QF.neq O O O (QF.pick O O O (AJ O))))))
   ·exact AL O O
  refine QF.mv O O (QF.cutv 7 79 (.bool (((!M)||(decide (t.1.Hour≠(A3 (C.Hour+1)))))||(decide ((↑t.2.1.length:Int)≠(↑G.Places.length:Int))))) ?_ ?_)
  ·
   cases e6:((!M)||(decide (t.1.Hour≠(A3 (C.Hour+1)))))
   ·exact QF.gy O O O (QF.mv O O (QF.gy O O O (QF.leno c (mt mh) O DY O λe7=>QF.gy O O O (QF.fa O aj Aj CX O λe8 dj=>QF.gy O O O (QF.ldl Ak c.1 O dj Ec O λe9 dk=>QF.gy O O O (QF.len O dk D8 O λfb=>QF.gy O O O (QF.neq O O O (QF.pick O O O (AJ O)))))))))
   ·exact AL O O
  refine QF.mv O O (QF.cutv 7 87 (.bool ((((!M)||(decide (t.1.Hour≠(A3 (C.Hour+1)))))||(decide ((↑t.2.1.length:Int)≠(↑G.Places.length:Int))))||(decide ((↑t.2.2.length:Int)≠(↑G.Places.length:Int))))) ?_ ?_)
  ·
   cases fc:(((!M)||(decide (t.1.Hour≠(A3 (C.Hour+1)))))||(decide ((↑t.2.1.length:Int)≠(↑G.Places.length:Int))))
   ·exact QF.gy O O O (QF.mv O O (QF.gy O O O (QF.leno c (mt (mt mh)) O DY O λfd=>QF.gy O O O (QF.fa O aj Aj CX O λfe dl=>QF.gy O O O (QF.ldl Ak c.1 O dl Ec O λff dm=>QF.gy O O O (QF.len O dm D8 O λfg=>QF.gy O O O (QF.neq O O O (QF.pick O O O (AJ O)))))))))
   ·exact AL O O
  refine Aq (kp [87,14,13,12,11,5] O) λaq ar Q=>WF.if_ O (λau=>?_) (λau=>?_)
  ·
   have E:=A7 au E
   refine WF.seq (WF.rp (.inl O) (QF.as_ O O (AA (kp [10] O) (WF.ret (λaa ww hf hw=>?_)))))
   have bp:=ar.sel [] 3 O
   cases E
   have bq:=e5.trans (X.trans (Y.trans (K.trans (ab.trans (ap.trans (ak.trans (u.trans Q)))))))
   exact DC hf hw O O bq ⟨O,bp⟩
  ·
   have E:=A8 au E
   refine WF.skip (WF.seq (WF.seq (WF.rp (.inl O) (QF.as_ O O (AA (kp [15,14,13,12,11,5] O) (WF.blockJ (λa w=>IV B bl aq (158,[]) a w [(11,.bool a0)] (L) λ_ _=>D5 N a0=some r) ?_ ?_))))))
   ·
    refine WF.loopF (λn1=>λa w=>∃(ac:Int),IV B bl aq (158,[]) a w [(14,c9),(13,c8),(12,.pointer (some ⟨db,0,none⟩)),(11,.bool a0),(5,q1),(15,.int .i64 ac)] (Bx db 36 [.int .i64 t.1.Hour,a3,ag,ah]::OS AH 51 c8 t.2.1::OS AH 51 c9 t.2.2::L) λ_ _=>AB ac∧BX N G t (D5 N a0) n1 ac=some r) N ?_ ?_ ?_
    ·
     intro aa ww hf hw
     exact⟨0,_,_,hf.sub (kp [14,13,12,11,5,15] O),hw,ar,(Bg.refl bl aq),(iq (n:=0) O),E⟩
    ·
     rintro aa ww ⟨_,_,_,_,_,_,_,_,E⟩
     rw[BX] at E;cases E
    ·
     rintro n1 aa ww ⟨ac,fh,fi,hf,hw,af,U,fj,E⟩
     refine WF.run ?_ hf hw
     clear hf hw ww aa
     rw[BX] at E
     refine WF.seq (WF.seq (WF.rp (.inl O) (QF.mv O O ?_)))
     have a7:=aj.mono (Q.trans U)
     refine QF.fa O a7 Aj CX O λfk dn=>QF.ldl Af af.1 O dn Ec O λfl dp=>QF.len O dp D8 O λfm=>QF.lss O O O (AA (kp [92,14,13,12,11,5,15] O) (WF.if_ O (λav=>?_) (λav=>?_)))
     ·
      have E:=A7 av E
      refine WF.skip (WF.seq (WF.block (WF.seq (WF.rl (LF.q 1 (QF.bld (cs:=[.int .i64 0,.int .i64 1125899906842624]) GH O O O (AE (LF.al EH O af λfn fo br ad=>Ai (vs:=[.int .i64 0,.int .i64 1125899906842624]) O O O O Ad O br .head O λfp b ae=>LF.nil (kp [16,14,13,12,11,5,15] O) (WF.seq (WF.rc (.inr ⟨mo,by kernel_rfl⟩) b (QF.mv O O ?_)))))))))))
      refine QF.mv O O ?_
      obtain⟨fq,bt,E⟩:=bd E
      refine QF.ixoe b (mt (mt mh)) O O DY bt O λfr bu=>?_
      obtain⟨fs,bv,E⟩:=bd E
      have dq:=b.epAt (mt (mt mh)) bv ED.id bu
      refine QF.ld Ak (λ_ x=>x) O dq Ad (λe=>by cases e) O λft dr=>?_
      obtain⟨ds,bw,E⟩:=bd E
      refine Ab O O O Nk O (λh' o=>Eo (St.all h') (dr.mono (o.all b.1)) bw) (QF.not O O (QF.mv O O ?_))
      obtain⟨a8,d,E⟩:=bd E
      refine QF.cutv 8 110 (.bool a8) ?_ ?_
      ·
       cases a9:(!ds)
       ·
        have d:=A8 a9 d
        refine QF.gy O O O (QF.mv O O (QF.gy O O O (QF.mv O O (QF.gy O O O ?_))))
        obtain⟨fu,bx,d⟩:=bd d
        refine QF.ixoe b (mt (mt mh)) O O DY bx O λfv bz=>QF.gy O O O ?_
        obtain⟨fw,b0,d⟩:=bd d
        have dt:=b.epAt (mt (mt mh)) b0 ED.id bz
        refine QF.ld Ak (λ_ x=>x) O dt Ad (λe=>by cases e) O λfx du=>QF.gy O O O (QF.ldo (vs:=[.int .i64 0,.int .i64 1125899906842624]) Ak b O mh O O Ad O O (QF.gy O O O ?_))
        obtain⟨fy,b1,d⟩:=bd d
        refine Ab O O O QC O (λh' o=>Fv (St.all h') (du.mono (o.all b.1)) (AH.mk (x:=(⟨0,1125899906842624⟩:AF)) ⟨(iq (n:=0) O),(iq (n:=1125899906842624) O)⟩) b1) (QF.gy O O O (QF.not O O (QF.pick O O O ?_)))
        cases d
        exact AJ O
       ·
        have d:=A7 a9 d
        cases d
        exact AL O O
      refine QF.mv O O ?_
      obtain⟨ba,g,E⟩:=bd E
      refine QF.cutv 7 118 (.bool ba) ?_ ?_
      ·
       cases bb:a8
       ·
        have g:=A8 bb g
        refine QF.gy O O O (QF.mv O O (QF.gy O O O (QF.mv O O (QF.gy O O O ?_))))
        obtain⟨fz,b2,g⟩:=bd g
        refine QF.ixoe b (mt (mt (mt mh))) O O DY b2 O λf0 b3=>QF.gy O O O ?_
        obtain⟨f1,b4,g⟩:=bd g
        have dv:=b.epAt (mt (mt (mt mh))) b4 ED.id b3
        refine QF.ld Ak (λ_ x=>x) O dv Ad (λe=>by cases e) O λf2 dw=>QF.gy O O O ?_
        obtain⟨f3,b5,g⟩:=bd g
        refine Ab O O O Nk O (λh' o=>Eo (St.all h') (dw.mono (o.all b.1)) b5) (QF.gy O O O (QF.not O O (QF.pick O O O ?_)))
        cases g
        exact AJ O
       ·
        have g:=A7 bb g
        cases g
        exact AL O O
      refine QF.mv O O ?_
      obtain⟨bc,i,E⟩:=bd E
      refine QF.cutv 8 127 (.bool bc) ?_ ?_
      ·
       cases be:ba
       ·
        have i:=A8 be i
        refine QF.gy O O O (QF.mv O O (QF.gy O O O (QF.mv O O (QF.gy O O O ?_))))
        obtain⟨f4,b6,i⟩:=bd i
        refine QF.ixoe b (mt (mt (mt mh))) O O DY b6 O λf5 b7=>QF.gy O O O ?_
        obtain⟨f6,b8,i⟩:=bd i
        have dx:=b.epAt (mt (mt (mt mh))) b8 ED.id b7
        refine QF.ld Ak (λ_ x=>x) O dx Ad (λe=>by cases e) O λf7 dy=>QF.gy O O O (QF.ldo (vs:=[.int .i64 0,.int .i64 1125899906842624]) Ak b O mh O O Ad O O (QF.gy O O O ?_))
        obtain⟨f8,b9,i⟩:=bd i
        refine Ab O O O QC O (λh' o=>Fv (St.all h') (dy.mono (o.all b.1)) (AH.mk (x:=(⟨0,1125899906842624⟩:AF)) ⟨(iq (n:=0) O),(iq (n:=1125899906842624) O)⟩) b9) (QF.gy O O O (QF.not O O (QF.pick O O O ?_)))
        cases i
        exact AJ O
       ·
        have i:=A7 be i
        cases i
        exact AL O O
      refine QF.mv O O ?_
      obtain⟨bf,m,E⟩:=bd E
      refine QF.cutv 14 142 (.bool bf) ?_ ?_
      ·
       cases bg:bc
       ·
        have m:=A8 bg m
        refine QF.gy O O O (QF.fao O FV O (QF.gy O O O (AI Ak b O (mt mh) O FH O (QF.gy O O O (QF.mv O O (QF.gy O O O ?_))))))
        have ca:=u.trans (Q.trans (U.trans (ad.trans ae)))
        have dz:=ai.mono' ca
        obtain⟨f9,cb,m⟩:=bd m
        refine QF.ixe O O dz DY cb O λga d0=>QF.gy O O O (QF.fa O d0 AF.f_Hi CW O λgb d1=>QF.gy O O O (QF.ldi Ak b.1 O d1 AM O λgc=>QF.gy O O O ?_))
        have d2:=a7.mono (ad.trans ae)
        refine QF.fa O d2 Aj CX O λge d3=>QF.gy O O O (QF.ldl Ak b.1 O d3 Ec O λgf d4=>QF.gy O O O (QF.mv O O (QF.gy O O O ?_)))
        obtain⟨gg,cc,m⟩:=bd m
        refine QF.ixe O O d4 D8 cc O λgh d5=>QF.gy O O O (QF.fa O d5 PE Ko O λgi d6=>QF.gy O O O (QF.ldi Ak b.1 O d6 AM O λgj=>QF.gy O O O (QF.gtr O O O (QF.pick O O O ?_))))
        cases m
        exact AJ O
       ·
        have m:=A7 bg m
        cases m
        exact AL O O
      refine QF.mv O O ?_
      obtain⟨d7,j,E⟩:=bd E
      refine QF.cutv 13 156 (.bool d7) ?_ ?_
      ·
       cases bh:bf
       ·
        have j:=A8 bh j
        refine QF.gy O O O (QF.fao O FV O (QF.gy O O O (AI Ak b O (mt mh) O FH O (QF.gy O O O (QF.mv O O (QF.gy O O O ?_))))))
        have cd:=u.trans (Q.trans (U.trans (ad.trans ae)))
        have d8:=ai.mono' cd
        obtain⟨gk,ce,j⟩:=bd j
        refine QF.ixe O O d8 DY ce O λgl d9=>QF.gy O O O (QF.fa O d9 AF.f_Hi CW O λgm ea=>QF.gy O O O (QF.ldi Ak b.1 O ea AM O λgp=>QF.gy O O O (QF.mv O O (QF.gy O O O (QF.mv O O (QF.gy O O O ?_))))))
        obtain⟨gq,cf,j⟩:=bd j
        refine QF.ixoe b (mt (mt mh)) O O DY cf O λgr cg=>QF.gy O O O (QF.fae O cg CW O λgs ch=>QF.gy O O O ?_)
        obtain⟨gu,ci,j⟩:=bd j
        have eb:=b.epAt (mt (mt mh)) ci AF.f_Hi ch
        refine QF.ldi Ak (λ_ x=>x) O eb AM O λgv=>QF.gy O O O (QF.gtr O O O (QF.pick O O O ?_))
        cases j
        exact AJ O
       ·
        have j:=A7 bh j
        cases j
        exact AL O O
      refine Aq (kp [156,14,13,12,11,5,15] O) λgw aw bi=>WF.if_ O (λax=>?_) (λax=>?_)
      ·
       have E:=A7 ax E
       refine WF.seq (WF.rp (.inl O) (QF.as_ O O (AA (kp [10] O) (WF.ret (λaa ww hf hw=>?_)))))
       have cj:=aw.sel [] 4 O
       cases E
       have ck:=e5.trans (X.trans (Y.trans (K.trans (ab.trans (ap.trans (ak.trans (u.trans (Q.trans (U.trans (ad.trans (ae.trans bi)))))))))))
       exact DC hf hw O O ck ⟨O,cj⟩
      ·
       have E:=A8 ax E
       refine WF.skip (Ap (WF.rp (.inl O) (QF.mv O O (QF.addw O O O (QF.as_ O O (AA (kp [15,14,13,12,11,5] O) (WF.nil (λaa ww hf hw=>?_))))))))
       have cl:=aw.sel [1,1,1] 1 O
       have cm:=U.trans (ad.trans (ae.trans bi))
       exact⟨(A3 (ac+1)),_,_,hf.sub (kp [14,13,12,11,5,15] O),hw,cl,cm,(BA _),E⟩
     ·
      have E:=A8 av E
      refine WF.exit O (λaa ww hf hw=>?_)
      have cn:=af.sel [] 3 O
      exact⟨_,_,hf.sub (kp [11] O),hw,cn,U,E⟩
   ·
    rintro aa ww ⟨gx,gz,hf,hw,co,ec,E⟩
    refine WF.run ?_ hf hw
    clear hf hw ww aa
    rw[D5] at E
    refine WF.seq (WF.rp (.inl O) (QF.mv O O (QF.as_ O O (AA (kp [10] O) (WF.ret (λaa ww hf hw=>?_))))))
    cases E
    have cp:=e5.trans (X.trans (Y.trans (K.trans (ab.trans (ap.trans (ak.trans (u.trans (Q.trans ec))))))))
    exact DC hf hw O O cp ⟨O,co⟩
end Go.Proofs.YtibidnaedddfdaaGreat
