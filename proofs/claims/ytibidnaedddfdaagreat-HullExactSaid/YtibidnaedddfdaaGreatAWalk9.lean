import Derived.Test.YtibidnaedddfdaaGreatAWalk8
namespace Go.Proofs.YtibidnaedddfdaaGreat
open Go.RowKit
set_option linter.unusedVariables false
set_option linter.unusedSimpArgs false
set_option maxRecDepth 10000
set_option maxHeartbeats 2000000
variable {N:Nat}{S:Nat→Prop}{L:List HP}{h:Ad}
theorem HS (hs:St S L h) {b:Int}(d:AB b) {a:Int}(g:AB a) {r:Bool}(E:EB N b a=some r):
 BP Tryz.prog 90 #[.int .i64 b,.int .i64 a] S h (λv S' h'=>v= .bool r∧St S' (L) h'):=by
 refine Ac (l:=[.int .i64 b,.int .i64 a]) 19 Tryz.func90 O Tryz.ntmps90 O λB=>?_
 rw[EB] at E
 refine WF.seq (WF.rp (.inl O) (QF.as_ O O (AA (kp [0,1] O) (WF.seq (WF.rc (.inl O) hs (QF.mv O O ?_))))))
 obtain⟨q,j,E⟩:=bd E
 refine AZ O O O Hr O (λh' o=>BB (St.all h') d j) (QF.mv O O ?_)
 obtain⟨k,c,E⟩:=bd E
 refine QF.cutv 3 10 (.bool k) ?_ ?_
 ·
  cases p:q
  ·
   have c:=Aw p c
   cases c
   exact AL O O
  ·
   have c:=Av p c
   refine QF.gy O O O (QF.mv O O (QF.gy O O O ?_))
   obtain⟨s,m,c⟩:=bd c
   refine AZ O O O Hr O (λh' o=>BB (St.all h') g m) (QF.pick O O O ?_)
   cases c
   exact AH O
 refine QF.mv O O (QF.cutv 7 18 (.bool (k&&((decide (a≠0))||(decide (b=0))))) ?_ ?_)
 ·
  cases t:k
  ·exact AL O O
  ·
   refine QF.gy O O O (QF.mv O O (QF.gy O O O (QF.neq O O O (QF.gy O O O (QF.mv O O (QF.cutv 3 17 (.bool ((decide (a≠0))||(decide (b=0)))) ?_ ?_))))))
   ·
    cases u:(decide (a≠0))
    ·exact QF.gy O O O (QF.mv O O (QF.gy O O O (QF.eql O O O (QF.gy O O O (QF.pick O O O (AH O))))))
    ·exact AL O O
   exact QF.pick O O O (AH O)
 refine QF.as_ O O (Ai (kp [4] O) λw i n=>WF.ret (λaa ww hf hw=>?_))
 cases E
 exact CS hf hw O O n ⟨O,i⟩
theorem Em (hs:St S L h) {b:Int}(c:AB b) {a:Int}(d:AB a) {r:Bool}(E:Cr N b a=some r):
 BP Tryz.prog 92 #[.int .i64 b,.int .i64 a] S h (λv S' h'=>v= .bool r∧St S' (L) h'):=by
 refine Ac (l:=[.int .i64 b,.int .i64 a]) 9 Tryz.func92 O Tryz.ntmps92 O λB=>?_
 rw[Cr] at E
 refine WF.seq (WF.rp (.inl O) (QF.as_ O O (AA (kp [0,1] O) (WF.seq (WF.rc (.inl O) hs (QF.mv O O (QF.mv O O (QF.subw O O O ?_))))))))
 obtain⟨k,g,E⟩:=bd E
 refine AZ O O O F7 O (λh' o=>A6 (St.all h') c (iq (n:=0) O) (Au _) g) (QF.as_ O O (Ai (kp [4] O) λm i j=>WF.ret (λaa ww hf hw=>?_)))
 cases E
 exact CS hf hw O O j ⟨O,i⟩
theorem JX (hs:St S L h) {c:Value}{j:AJ}(i:Rd S h A3 c j) {a:Int}(k:AB a) {b:Int}(g:AB b) {r:Bool}(E:F5 N j a b=some r):
 BP Tryz.prog 91 #[c,.int .i64 a,.int .i64 b] S h (λv S' h'=>v= .bool r∧St S' (L) h'):=by
 refine Ac (l:=[c,.int .i64 a,.int .i64 b]) 21 Tryz.func91 O Tryz.ntmps91 O λB=>?_
 rw[F5] at E
 refine WF.seq (WF.rl (LF.boxp O i (λe=>by cases e) O hs λH I J m z A=>LF.q 1 (QF.as_ O O (AE (LF.nil (kp [3,1,2] O) (WF.seq (WF.rc (.inl O) m (QF.mv O O (QF.eql O O O (QF.mv O O ?_))))))))))
 obtain⟨C,d,E⟩:=bd E
 refine QF.cutv 11 20 (.bool C) ?_ ?_
 ·
  cases y:(decide (b=(-1)))
  ·
   have d:=Aw y d
   refine QF.gy O O O (QF.mv O O (QF.gy O O O (QF.fa O A Ah Bs O λK t=>QF.gy O O O (QF.ldl Ak m.1 O t EY O λD u=>QF.gy O O O (QF.len O u Dk O λw=>QF.gy O O O ?_)))))
   obtain⟨n,p,d⟩:=bd d
   refine AZ O O O Nr O (λh' o=>Em (St.all h') g (IJ w) p) (QF.gy O O O (QF.mv O O (QF.cutv 4 19 (.bool (n&&(decide (b≠a)))) ?_ ?_)))
   ·
    cases F:n
    ·exact AL O O
    ·exact QF.gy O O O (QF.mv O O (QF.gy O O O (QF.mv O O (QF.gy O O O (QF.neq O O O (QF.gy O O O (QF.pick O O O (AH O))))))))
   refine QF.pick O O O ?_
   cases d
   exact AH O
  ·
   have d:=Av y d
   cases d
   exact AL O O
 refine QF.as_ O O (Ai (kp [6] O) λG s x=>WF.ret (λaa ww hf hw=>?_))
 cases E
 exact CS hf hw O O (z.trans x) ⟨O,s⟩
theorem KT (hs:St S L h) {G:Value}{c:AJ}(aq:Rd S h A3 G c) {r:Bool}(E:Fp N c=some r):
 BP Tryz.prog 38 #[G] S h (λv S' h'=>v= .bool r∧St S' (L) h'):=by
 refine Ac (l:=[G]) 122 Tryz.func38 O Tryz.ntmps38 O λB=>?_
 rw[Fp] at E
 refine WF.seq (WF.rl (LF.boxp O aq (λe=>by cases e) O hs λq1 S2 h3 bt e5 k6=>LF.q 1 (QF.as_ O O (AE (LF.nil (kp [1] O) (WF.seq (WF.rp (.inl O) (QF.as_ O O (AA (kp [3,1] O) (WF.seq (WF.seq (WF.rp (.inl O) ?_))))))))))))
 refine QF.fa O k6 Ah Bs O λq7 k8=>QF.ldl Aa bt.1 O k8 EY O λv9 bu=>QF.len O bu Dk O λek=>QF.mv O O (AA (kp [14,13,12,3,1] O) (WF.blockJ (λa w=>∃(ar:Int),IV B S2 h3 (122,[]) a w [(3,.int .i64 ar)] (L) λ_ _=>AB ar∧A5 N ar=some r) ?_ ?_))
 ·
  refine WF.loopF (λn1=>λa w=>∃(ab:Int) (i:Int),IV B S2 h3 (122,[]) a w [(13,.int .i64 (↑c.Places.length:Int)),(12,v9),(1,q1),(3,.int .i64 ab),(14,.int .i64 i)] (L) λ_ _=>AB ab∧AB i∧Ax N c (A5 N) n1 ab i=some r) N ?_ ?_ ?_
  ·
   intro aa ww hf hw
   exact⟨0,0,_,_,hf.sub (kp [13,12,1,3,14] O),hw,bt,(BO.refl S2 h3),(iq (n:=0) O),(iq (n:=0) O),E⟩
  ·
   rintro aa ww ⟨_,_,_,_,_,_,_,_,_,_,E⟩
   rw[Ax] at E;cases E
  ·
   rintro n1 aa ww ⟨ab,i,au,c4,hf,hw,ac,H,bv,c5,E⟩
   refine WF.run ?_ hf hw
   clear hf hw ww aa
   rw[Ax] at E
   refine WF.seq (WF.rp (.inl O) (QF.lss O O O (AA (kp [15,13,12,1,3,14] O) (WF.seq (WF.if_ O (λa5=>?_) (λa5=>?_))))))
   ·
    have E:=Av a5 E
    refine WF.skip (WF.seq (WF.blockJ (λa w=>∃(ad:Int),IV B au c4 (122,[]) a w [(13,.int .i64 (↑c.Places.length:Int)),(12,v9),(1,q1),(14,.int .i64 i),(3,.int .i64 ad)] (L) λ_ _=>AB ad∧BL N i (Ax N c (A5 N) n1) ad=some r) ?_ ?_))
    ·
     refine WF.seq (WF.rl (LF.q 3 (QF.mv O O ?_)))
     have c6:=bu.mono' H
     obtain⟨b,bw,E⟩:=bd E
     refine QF.ixe O O c6 Dk bw O λel c7=>QF.ld Aa ac.1 O c7 HV (λe=>by cases e) O λem c8=>AE (LF.al Lw O ac λav en bx I=>LF.q 1 (QF.as_ O O (AE ?_)))
     have c9:=c8.mono I
     obtain⟨aw,ae,af,rfl,eo,da,db,dc,bz,a6,dd,de,df,dg,dh,b0⟩:=A7.ex c9
     refine LF.st (vs:=[.string b.Name,.int .i64 b.Kind,.int .i64 b.Office,.int .i64 b.Cap,aw,ae,.int .i64 b.Num,.int .i64 b.Den,.int .i64 b.Down,.int .i64 b.Delay,.int .i64 b.Floor,af]) (cs':=[.string b.Name,.int .i64 b.Kind,.int .i64 b.Office,.int .i64 b.Cap,aw,ae,.int .i64 b.Num,.int .i64 b.Den,.int .i64 b.Down,.int .i64 b.Delay,.int .i64 b.Floor,af]) O O O (AC O (AC O (AC O (AC O (AC bz.one (AC a6.one (AC O (AC O (AC O (AC O (AC O (AC b0.one C6)))))))))))) HV O bx .head O O λep d y=>LF.nil (kp [4,5,13,12,1,3,14] O) (WF.seq (WF.seq (WF.rc (.inl O) d (QF.fao O Uo O (AI Ak d O mh O AN O ?_)))))
     obtain⟨di,b1,E⟩:=bd E
     refine AZ O O O F7 O (λh' o=>A6 (St.all h') da (iq (n:=0) O) (iq (n:=3) O) b1) (QF.not O O (QF.mv O O ?_))
     obtain⟨b2,j,E⟩:=bd E
     refine QF.cutv 5 28 (.bool b2) ?_ ?_
     ·
      cases b3:(!di)
      ·
       have j:=Aw b3 j
       refine QF.gy O O O (QF.fao O Jn O (QF.gy O O O (AI Ak d O mh O AN O (QF.gy O O O ?_))))
       obtain⟨eq,b4,j⟩:=bd j
       refine AZ O O O F7 O (λh' o=>A6 (St.all h') db (iq (n:=0) O) (iq (n:=2) O) b4) (QF.gy O O O (QF.not O O (QF.pick O O O ?_)))
       cases j
       exact AH O
      ·
       have j:=Av b3 j
       cases j
       exact AL O O
     refine QF.mv O O ?_
     obtain⟨b5,k,E⟩:=bd E
     refine QF.cutv 5 34 (.bool b5) ?_ ?_
     ·
      cases b6:b2
      ·
       have k:=Aw b6 k
       refine QF.gy O O O (QF.fao O Ov O (QF.gy O O O (AI Ak d O mh O AN O (QF.gy O O O ?_))))
       obtain⟨er,b7,k⟩:=bd k
       refine AZ O O O F7 O (λh' o=>A6 (St.all h') dg (iq (n:=0) O) (iq (n:=240) O) b7) (QF.gy O O O (QF.not O O (QF.pick O O O ?_)))
       cases k
       exact AH O
      ·
       have k:=Av b6 k
       cases k
       exact AL O O
     refine QF.mv O O ?_
     obtain⟨b8,m,E⟩:=bd E
     refine QF.cutv 5 40 (.bool b8) ?_ ?_
     ·
      cases b9:b5
      ·
       have m:=Aw b9 m
       refine QF.gy O O O (QF.fao O MH O (QF.gy O O O (AI Ak d O mh O AN O (QF.gy O O O ?_))))
       obtain⟨es,ca,m⟩:=bd m
       refine AZ O O O Hr O (λh' o=>BB (St.all h') dc ca) (QF.gy O O O (QF.not O O (QF.pick O O O ?_)))
       cases m
       exact AH O
      ·
       have m:=Av b9 m
       cases m
       exact AL O O
     refine QF.mv O O ?_
     obtain⟨cb,p,E⟩:=bd E
     refine QF.cutv 5 46 (.bool cb) ?_ ?_
     ·
      cases cc:b8
      ·
       have p:=Aw cc p
       refine QF.gy O O O (QF.fao O TE O (QF.gy O O O (AI Ak d O mh O AN O (QF.gy O O O ?_))))
       obtain⟨et,cd,p⟩:=bd p
       refine AZ O O O Hr O (λh' o=>BB (St.all h') dh cd) (QF.gy O O O (QF.not O O (QF.pick O O O ?_)))
       cases p
       exact AH O
      ·
       have p:=Av cc p
       cases p
       exact AL O O
     refine QF.mv O O ?_
     obtain⟨ax,s,E⟩:=bd E
     refine QF.cutv 5 52 (.bool ax) ?_ ?_
     ·
      cases ce:cb
      ·
       have s:=Aw ce s
       refine QF.gy O O O (QF.fao O Un O (QF.gy O O O (AI Ak d O mh O GU O (QF.gy O O O ?_))))
       have dj:=bz.mono' y
       obtain⟨eu,cf,s⟩:=bd s
       refine AZ O O O Ns O (λh' o=>El (St.all h') (dj.mono' (o.all d.1)) cf) (QF.gy O O O (QF.not O O (QF.pick O O O ?_)))
       cases s
       exact AH O
      ·
       have s:=Av ce s
       cases s
       exact AL O O
     refine QF.mv O O (QF.cutv 8 61 (.bool (ax||(decide ((↑b.Start.length:Int)≠(↑c.Owners.length:Int))))) ?_ ?_)
     ·
      cases ev:ax
      ·
       refine QF.gy O O O (QF.fao O Ox O (QF.gy O O O (AI Ak d O mh O GV O (QF.gy O O O ?_))))
       have dk:=a6.mono' y
       refine QF.len O dk Ea O λew=>QF.gy O O O ?_
       have cg:=H.trans (I.trans y)
       have dl:=k6.mono cg
       exact QF.fa O dl Ct Hf O λey dm=>QF.gy O O O (QF.ldl Ak d.1 O dm Ke O λez dn=>QF.gy O O O (QF.len O dn J5 O λe0=>QF.gy O O O (QF.neq O O O (QF.pick O O O (AH O)))))
      ·exact AL O O
     refine QF.mv O O ?_
     obtain⟨ch,t,E⟩:=bd E
     refine QF.cutv 7 69 (.bool ch) ?_ ?_
     ·
      cases ci:(ax||(decide ((↑b.Start.length:Int)≠(↑c.Owners.length:Int))))
      ·
       have t:=Aw ci t
       refine QF.gy O O O (QF.fao O Ow O (QF.gy O O O (AI Ak d O mh O AN O (QF.gy O O O (QF.fao O IZ O (QF.gy O O O (AI Ak d O mh O AN O (QF.gy O O O ?_))))))))
       obtain⟨e1,cj,t⟩:=bd t
       refine AZ O O O Tj O (λh' o=>HS (St.all h') dd de cj) (QF.gy O O O (QF.not O O (QF.pick O O O ?_)))
       cases t
       exact AH O
      ·
       have t:=Av ci t
       cases t
       exact AL O O
     refine QF.mv O O ?_
     obtain⟨dp,u,E⟩:=bd E
     refine QF.cutv 7 77 (.bool dp) ?_ ?_
     ·
      cases ck:ch
      ·
       have u:=Aw ck u
       refine QF.gy O O O ?_
       have cl:=H.trans (I.trans y)
       have dq:=k6.mono cl
       refine QF.ld Ak d.1 O dq D1 (λe=>by cases e) O λds cm=>QF.gy O O O (QF.mv O O (QF.gy O O O (QF.fao O NL O (QF.gy O O O (AI Ak d O mh O AN O (QF.gy O O O ?_))))))
       obtain⟨dt,a7,u⟩:=bd u
       refine AZ O O O VI O (λh' o=>JX (St.all h') (cm.mono (o.all d.1)) c5 df a7) (QF.gy O O O (QF.not O O (QF.pick O O O ?_)))
       cases u
       exact AH O
      ·
       have u:=Av ck u
       cases u
       exact AL O O
     refine Ai (kp [77,5,13,12,1,3,14] O) λag Q z=>WF.if_ O (λah=>?_) (λah=>?_)
     ·
      have E:=Av ah E
      refine WF.seq (WF.rp (.inl O) (QF.as_ O O (AA (kp [2] O) (WF.ret (λaa ww hf hw=>?_)))))
      have a8:=Q.drop .head
      cases E
      have a9:=e5.trans (H.trans (I.trans (y.trans z)))
      exact CS hf hw O O a9 ⟨O,a8⟩
     ·
      have E:=Aw ah E
      refine WF.skip (WF.seq (WF.seq (WF.rp (.inl O) (QF.fao O Ox O (AI Aa Q O mh O GV O ?_)))))
      have ay:=a6.mono' (y.trans z)
      refine QF.len O ay Ea O λdu=>QF.mv O O (AA (kp [81,80,79,5,13,12,1,3,14] O) (WF.blockJ (λa w=>∃(A:Int),IV B au ag (122,[]) a w [(5,.pointer (some ⟨av,0,none⟩)),(13,.int .i64 (↑c.Places.length:Int)),(12,v9),(1,q1),(14,.int .i64 i),(3,.int .i64 A)] (Bx av 57 [.string b.Name,.int .i64 b.Kind,.int .i64 b.Office,.int .i64 b.Cap,aw,ae,.int .i64 b.Num,.int .i64 b.Den,.int .i64 b.Down,.int .i64 b.Delay,.int .i64 b.Floor,af]::L) λ_ _=>AB A∧CN N c b (BL N i (Ax N c (A5 N) n1)) A=some r) ?_ ?_))
      ·
       refine WF.loopF (λn4=>λa w=>∃(F:Int) (J:Int),IV B au ag (122,[]) a w [(80,.int .i64 (↑b.Start.length:Int)),(79,ae),(5,.pointer (some ⟨av,0,none⟩)),(13,.int .i64 (↑c.Places.length:Int)),(12,v9),(1,q1),(14,.int .i64 i),(3,.int .i64 F),(81,.int .i64 J)] (Bx av 57 [.string b.Name,.int .i64 b.Kind,.int .i64 b.Office,.int .i64 b.Cap,aw,ae,.int .i64 b.Num,.int .i64 b.Den,.int .i64 b.Down,.int .i64 b.Delay,.int .i64 b.Floor,af]::L) λ_ _=>AB F∧AB J∧BV N b (CN N c b (BL N i (Ax N c (A5 N) n1))) n4 F J=some r) N ?_ ?_ ?_
       ·
        intro aa ww hf hw
        exact⟨ab,0,_,_,hf.sub (kp [80,79,5,13,12,1,14,3,81] O),hw,Q,(BO.refl au ag),bv,(iq (n:=0) O),E⟩
       ·
        rintro aa ww ⟨_,_,_,_,_,_,_,_,_,_,E⟩
        rw[BV] at E;cases E
       ·
        rintro n4 aa ww ⟨F,J,dv,dw,hf,hw,U,X,cn,dx,E⟩
        refine WF.run ?_ hf hw
        clear hf hw ww aa
        rw[BV] at E
        refine WF.seq (WF.rp (.inl O) (QF.lss O O O (AA (kp [82,80,79,5,13,12,1,14,3,81] O) (WF.seq (WF.if_ O (λai=>?_) (λai=>?_))))))
        ·
         have E:=Av ai E
         refine WF.skip (WF.seq (WF.block (WF.seq (WF.rp (.inl O) ?_))))
         have co:=ay.mono' X
         obtain⟨cp,ba,E⟩:=bd E
         refine QF.ixe O O co Ea ba O λdy cq=>QF.ldi Aa U.1 O cq AN O λcr=>QF.as_ O O (AA (kp [7,80,79,5,13,12,1,14,3,81] O) (WF.seq (WF.seq (WF.rc (.inl O) U (QF.mv O O ?_)))))
         obtain⟨dz,bb,E⟩:=bd E
         refine AZ O O O Hr O (λh' o=>BB (St.all h') cr bb) (QF.not O O (Ai (kp [87,7,80,79,5,13,12,1,14,3,81] O) λd0 aj az=>WF.if_ O (λak=>?_) (λak=>?_)))
         ·
          have E:=Av ak E
          refine WF.seq (WF.rp (.inl O) (QF.as_ O O (AA (kp [2] O) (WF.ret (λaa ww hf hw=>?_)))))
          have bc:=aj.drop .head
          cases E
          have be:=e5.trans (H.trans (I.trans (y.trans (z.trans (X.trans az)))))
          exact CS hf hw O O be ⟨O,bc⟩
         ·
          have E:=Aw ak E
          refine WF.skip (WF.rp (.inl O) (QF.mv O O (QF.mv O O (QF.addw O O O (QF.as_ O O (AA (kp [3,80,79,5,13,12,1,14,81] O) (Al (WF.rp (.inl O) (QF.addw O O O (QF.mv O O (AA (kp [81,3,80,79,5,13,12,1,14] O) (WF.nil (λaa ww hf hw=>?_)))))))))))))
          exact⟨(Ar (F+cp)),(Ar (J+1)),_,_,hf.sub (kp [80,79,5,13,12,1,14,3,81] O),hw,aj,(X.trans az),(Au _),(Au _),E⟩
        ·
         have E:=Aw ai E
         refine WF.exit O (λaa ww hf hw=>?_)
         exact⟨F,_,_,hf.sub (kp [5,13,12,1,14,3] O),hw,U,X,cn,E⟩
      ·
       rintro aa ww ⟨A,a0,a1,hf,hw,am,Y,cs,E⟩
       refine WF.run ?_ hf hw
       clear hf hw ww aa
       rw[CN] at E
       refine WF.seq (WF.rp (.inl O) (QF.as_ O O (AA (kp [8,5,13,12,1,14,3] O) (WF.seq (WF.rp (.inl O) (QF.fao O TD O (AI Aa am O mh O W5 O ?_)))))))
       have bf:=y.trans (z.trans Y)
       have a2:=b0.mono' bf
       refine QF.len O a2 VB O λd1=>QF.mv O O (AA (kp [95,94,93,8,13,12,1,14,3] O) (WF.block (WF.loopF (λn5=>λa w=>∃(C:Int) (K:Int),IV B a0 a1 (122,[]) a w [(94,.int .i64 (↑b.Rain.length:Int)),(93,af),(13,.int .i64 (↑c.Places.length:Int)),(12,v9),(1,q1),(14,.int .i64 i),(3,.int .i64 A),(8,.int .i64 C),(95,.int .i64 K)] (L) λ_ _=>AB C∧AB K∧BU N c b A (BL N i (Ax N c (A5 N) n1)) n5 C K=some r) N ?_ ?_ ?_)))
       ·
        intro aa ww hf hw
        have bg:=am.drop .head
        exact⟨(-1),0,_,_,hf.sub (kp [94,93,13,12,1,14,3,8,95] O),hw,bg,(BO.refl a0 a1),(iq (n:=(-1)) O),(iq (n:=0) O),E⟩
       ·
        rintro aa ww ⟨_,_,_,_,_,_,_,_,_,_,E⟩
        rw[BU] at E;cases E
       ·
        rintro n5 aa ww ⟨C,K,d2,d3,hf,hw,V,M,d4,d5,E⟩
        refine WF.run ?_ hf hw
        clear hf hw ww aa
        rw[BU] at E
        refine WF.seq (WF.rp (.inl O) (QF.lss O O O (AA (kp [96,94,93,13,12,1,14,3,8,95] O) (WF.seq (WF.if_ O (λan=>?_) (λan=>?_))))))
        ·
         have E:=Av an E
         refine WF.skip (WF.seq (WF.block (WF.seq (WF.rl (LF.q 2 ?_)))))
         have ct:=a2.mono' M
         obtain⟨x,bh,E⟩:=bd E
         refine QF.ixe O O ct VB bh O λd6 cu=>QF.ld Aa V.1 O cu SK (λe=>by cases e) O λd7 cv=>AE (LF.al VZ O V λd8 d9 bi Z=>?_)
         have cw:=cv.mono Z
         obtain⟨rfl,⟨cx,cy⟩⟩:=IM.ex cw
         refine Aj (vs:=[.int .i64 x.Index,.int .i64 x.Area]) O O O O SK O bi .head O λea D ao=>LF.nil (kp [10,94,93,13,12,1,14,3,8,95] O) (WF.seq (WF.seq (WF.rc (.inl O) D (QF.fao O Nh O (AI Ak D O mh O AN O (QF.mv O O (QF.leq O O O (QF.mv O O (QF.cutv 6 109 (.bool ((decide (x.Index≤C))||(decide (c.Cells≤x.Index)))) ?_ ?_)))))))))
         ·
          cases eb:(decide (x.Index≤C))
          ·
           refine QF.gy O O O (QF.fao O Nh O (QF.gy O O O (AI Ak D O mh O AN O (QF.gy O O O ?_))))
           have bj:=H.trans (I.trans (y.trans (z.trans (Y.trans (M.trans (Z.trans ao))))))
           have cz:=k6.mono bj
           exact QF.fa O cz I3 O0 O λec c0=>QF.gy O O O (QF.ldi Ak D.1 O c0 AN O λed=>QF.gy O O O (QF.geq O O O (QF.pick O O O (AH O))))
          ·exact AL O O
         refine QF.mv O O ?_
         obtain⟨c1,g,E⟩:=bd E
         refine QF.cutv 5 115 (.bool c1) ?_ ?_
         ·
          cases a3:((decide (x.Index≤C))||(decide (c.Cells≤x.Index)))
          ·
           have g:=Aw a3 g
           refine QF.gy O O O (QF.fao O TM O (QF.gy O O O (AI Ak D O mh O AN O (QF.gy O O O ?_))))
           obtain⟨ee,bk,g⟩:=bd g
           refine AZ O O O Hr O (λh' o=>BB (St.all h') cy bk) (QF.gy O O O (QF.not O O (QF.pick O O O ?_)))
           cases g
           exact AH O
          ·
           have g:=Av a3 g
           cases g
           exact AL O O
         refine Ai (kp [115,10,94,93,13,12,1,14,3,95] O) λef W a4=>WF.if_ O (λap=>?_) (λap=>?_)
         ·
          have E:=Av ap E
          refine WF.seq (WF.rp (.inl O) (QF.as_ O O (AA (kp [2] O) (WF.ret (λaa ww hf hw=>?_)))))
          have bl:=W.drop .head
          cases E
          have bm:=e5.trans (H.trans (I.trans (y.trans (z.trans (Y.trans (M.trans (Z.trans (ao.trans a4))))))))
          exact CS hf hw O O bm ⟨O,bl⟩
         ·
          have E:=Aw ap E
          refine WF.skip (WF.rp (.inl O) (QF.fao O Nh O (AI Aa W O mh O AN O (QF.as_ O O (AA (kp [8,94,93,13,12,1,14,3,95] O) (Al (WF.rp (.inl O) (QF.addw O O O (QF.mv O O (AA (kp [95,8,94,93,13,12,1,14,3] O) (WF.nil (λaa ww hf hw=>?_))))))))))))
          have bn:=W.drop .head
          have bo:=M.trans (Z.trans (ao.trans a4))
          exact⟨x.Index,(Ar (K+1)),_,_,hf.sub (kp [94,93,13,12,1,14,3,8,95] O),hw,bn,bo,cx,(Au _),E⟩
        ·
         have E:=Aw an E
         refine Ja O (WF.nil (λaa ww hf hw=>?_))
         have bp:=I.trans (y.trans (z.trans (Y.trans M)))
         exact⟨A,_,_,hf.sub (kp [13,12,1,14,3] O),hw,V,bp,cs,E⟩
    ·
     rintro aa ww ⟨ad,eg,eh,hf,hw,bq,c2,dr,E⟩
     refine WF.run ?_ hf hw
     clear hf hw ww aa
     rw[BL] at E
     refine WF.rp (.inl O) (QF.addw O O O (QF.mv O O (AA (kp [14,13,12,1,3] O) (WF.nil (λaa ww hf hw=>?_)))))
     exact⟨ad,(Ar (i+1)),_,_,hf.sub (kp [13,12,1,3,14] O),hw,bq,(H.trans c2),dr,(Au _),E⟩
   ·
    have E:=Aw a5 E
    refine WF.exit O (λaa ww hf hw=>?_)
    exact⟨ab,_,_,hf.sub (kp [3] O),hw,ac,H,bv,E⟩
 ·
  rintro aa ww ⟨ar,ei,ej,hf,hw,br,c3,e2,E⟩
  refine WF.run ?_ hf hw
  clear hf hw ww aa
  rw[A5] at E
  refine WF.seq (WF.rp (.inl O) (QF.mv O O (QF.leq O O O (QF.as_ O O (AA (kp [2] O) (WF.ret (λaa ww hf hw=>?_)))))))
  cases E
  exact CS hf hw O O (e5.trans c3) ⟨O,br⟩
theorem J9 (hs:St S L h) {b:Value}{d:(List BA)}(i:Sl S h A8 b d) {c:Value}{g:(List BA)}(j:Sl S h A8 c g) {r:Bool}(E:GS N d g=some r):
 BP Tryz.prog 141 #[b,c] S h (λv S' h'=>v= .bool r∧St S' (L) h'):=by
 refine Ac (l:=[b,c]) 66 Tryz.func141 O Tryz.ntmps141 O λB=>?_
 rw[GS] at E
 refine WF.seq (WF.rp (.inl O) (QF.as_ O O (AA (kp [0,1] O) (WF.seq (WF.seq (WF.rc (.inl O) hs (QF.mv O O ?_)))))))
 obtain⟨y1,a6,E⟩:=bd E
 refine AZ O O O Ns O (λh' o=>El (St.all h') (i.mono' (o.all hs.1)) a6) (QF.not O O (QF.mv O O ?_))
 obtain⟨b4,k,E⟩:=bd E
 refine QF.cutv 4 20 (.bool b4) ?_ ?_
 ·
  cases c3:(!y1)
  ·
   have k:=Aw c3 k
   refine QF.gy O O O (QF.mv O O (QF.gy O O O ?_))
   obtain⟨y5,a7,k⟩:=bd k
   refine AZ O O O Ns O (λh' o=>El (St.all h') (j.mono' (o.all hs.1)) a7) (QF.gy O O O (QF.not O O (QF.pick O O O ?_)))
   cases k
   exact AH O
  ·
   have k:=Av c3 k
   cases k
   exact AL O O
 refine Ai (kp [20,0,1] O) λh7 af J=>WF.if_ O (λK=>?_) (λK=>?_)
 ·
  have E:=Av K E
  refine WF.seq (WF.rp (.inl O) (QF.as_ O O (AA (kp [4] O) (WF.ret (λaa ww hf hw=>?_)))))
  cases E
  exact CS hf hw O O J ⟨O,af⟩
 ·
  have E:=Aw K E
  refine WF.skip (WF.seq (WF.seq (WF.rp (.inl O) (QF.mv O O ?_))))
  have ag:=i.mono' J
  refine QF.len O ag GG O λbo=>QF.mv O O (AA (kp [23,22,21,0,1] O) (WF.blockJ (λa w=>IV B S h7 (66,[]) a w [(0,b),(1,c)] (L) λ_ _=>Dg N d g=some r) ?_ ?_))
  ·
   refine WF.loopF (λn1=>λa w=>∃(t:Int),IV B S h7 (66,[]) a w [(22,.int .i64 (↑d.length:Int)),(21,b),(0,b),(1,c),(23,.int .i64 t)] (L) λ_ _=>AB t∧De N d g (Dg N d g) n1 t=some r) N ?_ ?_ ?_
   ·
    intro aa ww hf hw
    exact⟨0,_,_,hf.sub (kp [22,21,0,1,23] O),hw,af,(BO.refl S h7),(iq (n:=0) O),E⟩
   ·
    rintro aa ww ⟨_,_,_,_,_,_,_,_,E⟩
    rw[De] at E;cases E
   ·
    rintro n1 aa ww ⟨t,bp,bq,hf,hw,u,x,br,E⟩
    refine WF.run ?_ hf hw
    clear hf hw ww aa
    rw[De] at E
    refine WF.seq (WF.rp (.inl O) (QF.lss O O O (AA (kp [24,22,21,0,1,23] O) (WF.seq (WF.if_ O (λM=>?_) (λM=>?_))))))
    ·
     have E:=Av M E
     refine WF.skip (WF.seq (WF.block (WF.seq (WF.rl (LF.q 2 ?_)))))
     have a8:=ag.mono' x
     obtain⟨ah,ai,E⟩:=bd E
     refine QF.ixe O O a8 GG ai O λbt a9=>QF.ld Aa u.1 O a9 Ms (λe=>by cases e) O λbu ba=>AE (LF.al Qh O u λbv bw aj G=>?_)
     have bb:=ba.mono G
     obtain⟨rfl,⟨bc,bx⟩⟩:=A8.ex bb
     refine Aj (vs:=[.int .i64 ah.X,.int .i64 ah.Y]) O O O O Ms O aj .head O λbz y Q=>LF.nil (kp [6,22,21,0,1,23] O) (WF.seq (WF.rc (.inl O) y (QF.mv O O (QF.fao O HF O (AI Ak y O mh O AN O ?_)))))
     have ak:=J.trans (x.trans (G.trans Q))
     have be:=j.mono' ak
     obtain⟨b0,am,E⟩:=bd E
     refine Af O O O QT O (λh' o=>IL (St.all h') (be.mono' (o.all y.1)) bc am) λbf=>?_
     have b1:=bf
     refine QF.mv O O (QF.ext O O O (QF.ext O O O (QF.as_ O O (QF.as_ O O (Ai (kp [7,6,22,21,0,1,23] O) λb2 z an=>WF.seq (WF.rp (.inl O) (QF.fao O GW O (AI Aa z O mh O AN O (QF.mv O O (QF.gtr O O O (AA (kp [37,22,21,0,1,23] O) (WF.if_ O (λU=>?_) (λU=>?_)))))))))))))
     ·
      have E:=Av U E
      refine WF.seq (WF.rp (.inl O) (QF.as_ O O (AA (kp [4] O) (WF.ret (λaa ww hf hw=>?_)))))
      have ao:=z.drop .head
      cases E
      have ap:=J.trans (x.trans (G.trans (Q.trans an)))
      exact CS hf hw O O ap ⟨O,ao⟩
     ·
      have E:=Aw U E
      refine WF.skip (Al (WF.rp (.inl O) (QF.addw O O O (QF.mv O O (AA (kp [23,22,21,0,1] O) (WF.nil (λaa ww hf hw=>?_)))))))
      have aq:=z.drop .head
      have ar:=x.trans (G.trans (Q.trans an))
      exact⟨(Ar (t+1)),_,_,hf.sub (kp [22,21,0,1,23] O),hw,aq,ar,(Au _),E⟩
    ·
     have E:=Aw M E
     refine WF.exit O (λaa ww hf hw=>?_)
     exact⟨_,_,hf.sub (kp [0,1] O),hw,u,x,E⟩
  ·
   rintro aa ww ⟨V,W,hf,hw,au,H,E⟩
   refine WF.run ?_ hf hw
   clear hf hw ww aa
   rw[Dg] at E
   refine WF.seq (WF.seq (WF.rp (.inl O) (QF.mv O O ?_)))
   have av:=j.mono' (J.trans H)
   refine QF.len O av GG O λb3=>QF.mv O O (AA (kp [41,40,39,0] O) (WF.blockJ (λa w=>IV B V W (66,[]) a w [] (L) λ_ _=>E4 N=some r) ?_ ?_))
   ·
    refine WF.loopF (λn3=>λa w=>∃(A:Int),IV B V W (66,[]) a w [(40,.int .i64 (↑g.length:Int)),(39,c),(0,b),(41,.int .i64 A)] (L) λ_ _=>AB A∧Dd N d g (E4 N) n3 A=some r) N ?_ ?_ ?_
    ·
     intro aa ww hf hw
     exact⟨0,_,_,hf.sub (kp [40,39,0,41] O),hw,au,(BO.refl V W),(iq (n:=0) O),E⟩
    ·
     rintro aa ww ⟨_,_,_,_,_,_,_,_,E⟩
     rw[Dd] at E;cases E
    ·
     rintro n3 aa ww ⟨A,b5,b6,hf,hw,C,D,b7,E⟩
     refine WF.run ?_ hf hw
     clear hf hw ww aa
     rw[Dd] at E
     refine WF.seq (WF.rp (.inl O) (QF.lss O O O (AA (kp [42,40,39,0,41] O) (WF.seq (WF.if_ O (λZ=>?_) (λZ=>?_))))))
     ·
      have E:=Av Z E
      refine WF.skip (WF.seq (WF.block (WF.seq (WF.rl (LF.q 2 ?_)))))
      have bg:=av.mono' D
      obtain⟨m,aw,E⟩:=bd E
      refine QF.ixe O O bg GG aw O λb8 bh=>QF.ld Aa C.1 O bh Ms (λe=>by cases e) O λb9 bi=>AE (LF.al Qh O C λca cb ax I=>?_)
      have bj:=bi.mono I
      obtain⟨rfl,⟨bk,cc⟩⟩:=A8.ex bj
      refine Aj (vs:=[.int .i64 m.X,.int .i64 m.Y]) O O O O Ms O ax .head O λcd F ab=>LF.nil (kp [10,40,39,0,41] O) (WF.seq (WF.rc (.inl O) F (QF.mv O O (QF.fao O HF O (AI Ak F O mh O AN O ?_)))))
      have ay:=J.trans (H.trans (D.trans (I.trans ab)))
      have bl:=i.mono' ay
      obtain⟨p,az,E⟩:=bd E
      refine Af O O O QT O (λh' o=>IL (St.all h') (bl.mono' (o.all F.1)) bk az) λbm=>?_
      have ce:=bm
      refine QF.mv O O (QF.ext O O O (QF.ext O O O (QF.as_ O O (QF.as_ O O (Ai (kp [12,11,10,40,39,0,41] O) λcf s a0=>WF.seq (WF.rp (.inl O) (QF.mv O O (QF.fao O GW O (AI Aa s O mh O AN O (QF.gtr O O O (QF.mv O O (QF.cutv 8 64 (.bool ((decide (m.Y<p.1))||((decide (p.1=m.Y))&&p.2))) ?_ ?_))))))))))))
      ·
       cases cg:(decide (m.Y<p.1))
       ·
        refine QF.gy O O O (QF.mv O O (QF.gy O O O (QF.fao O GW O (QF.gy O O O (AI Aa s O mh O AN O (QF.gy O O O (QF.eql O O O (QF.gy O O O (QF.mv O O (QF.cutv 2 63 (.bool ((decide (p.1=m.Y))&&p.2)) ?_ ?_))))))))))
        ·
         cases ch:(decide (p.1=m.Y))
         ·exact AL O O
         ·exact QF.gy O O O (QF.mv O O (QF.gy O O O (QF.pick O O O (AH O))))
        exact QF.pick O O O (AH O)
       ·exact AL O O
      refine AA (kp [64,40,39,0,41] O) (WF.if_ O (λac=>?_) (λac=>?_))
      ·
       have E:=Av ac E
       refine WF.seq (WF.rp (.inl O) (QF.as_ O O (AA (kp [4] O) (WF.ret (λaa ww hf hw=>?_)))))
       have a1:=s.drop .head
       cases E
       have a2:=J.trans (H.trans (D.trans (I.trans (ab.trans a0))))
       exact CS hf hw O O a2 ⟨O,a1⟩
      ·
       have E:=Aw ac E
       refine WF.skip (Al (WF.rp (.inl O) (QF.addw O O O (QF.mv O O (AA (kp [41,40,39,0] O) (WF.nil (λaa ww hf hw=>?_)))))))
       have a3:=s.drop .head
       have a4:=D.trans (I.trans (ab.trans a0))
       exact⟨(Ar (A+1)),_,_,hf.sub (kp [40,39,0,41] O),hw,a3,a4,(Au _),E⟩
     ·
      have E:=Aw Z E
      refine WF.exit O (λaa ww hf hw=>?_)
      exact⟨_,_,hf.sub KI,hw,C,D,E⟩
   ·
    rintro aa ww ⟨ci,bn,hf,hw,ad,a5,E⟩
    refine WF.run ?_ hf hw
    clear hf hw ww aa
    rw[E4] at E
    refine WF.seq (WF.rp (.inl O) (QF.as_ O O (AA (kp [4] O) (WF.ret (λaa ww hf hw=>?_)))))
    cases E
    have ae:=J.trans (H.trans a5)
    exact CS hf hw O O ae ⟨O,ad⟩
theorem KV (hs:St S L h) {K:Value}{d:AX}(ad:Rd S h A0 K d) {r:Bool}(E:Es N d=some r):
 BP Tryz.prog 93 #[K] S h (λv S' h'=>v= .bool r∧St S' (L) h'):=by
 refine Ac (l:=[K]) 152 Tryz.func93 O Tryz.ntmps93 O λB=>?_
 rw[Es] at E
 refine WF.seq (WF.rl (LF.boxp O ad (λe=>by cases e) O hs λq1 S2 h3 c e5 I=>LF.q 1 (QF.as_ O O (AE (LF.nil (kp [1] O) (WF.seq (WF.seq (WF.rp (.inl O) (QF.fa O I AX.f_Kind Ck O λq7 k8=>QF.ldi Aa c.1 O k8 AN O λr9=>AA (kp [4,1] O) (WF.block ?_))))))))))
 refine WF.seq (WF.rp (.inl O) (QF.eql O O O (QF.as_ O O (AA (kp [5,4,1] O) (WF.if_ O (λav=>?_) (λav=>?_))))))
 ·
  have E:=Av av E
  refine WF.seq (WF.rc (.inl O) c (QF.fa O I If Kt O λfq dk=>QF.ldl Ak c.1 O dk GU O λfr dl=>?_))
  obtain⟨dm,bk,E⟩:=bd E
  refine AZ O O O Ns O (λh' o=>El (St.all h') (dl.mono' (o.all c.1)) bk) (QF.mv O O ?_)
  obtain⟨bl,x,E⟩:=bd E
  refine QF.cutv 5 15 (.bool bl) ?_ ?_
  ·
   cases bm:dm
   ·
    have x:=Aw bm x
    cases x
    exact AL O O
   ·
    have x:=Av bm x
    refine QF.gy O O O (QF.fa O I Fg HA O λfs dn=>QF.gy O O O (QF.fa O dn I4.f_Lo Kv O λft dp=>QF.gy O O O (QF.ldl Ak c.1 O dp GU O λfu dq=>QF.gy O O O ?_)))
    obtain⟨fv,bn,x⟩:=bd x
    refine AZ O O O Ns O (λh' o=>El (St.all h') (dq.mono' (o.all c.1)) bn) (QF.pick O O O ?_)
    cases x
    exact AH O
  refine QF.mv O O ?_
  obtain⟨bo,y,E⟩:=bd E
  refine QF.cutv 5 21 (.bool bo) ?_ ?_
  ·
   cases bp:bl
   ·
    have y:=Aw bp y
    cases y
    exact AL O O
   ·
    have y:=Av bp y
    refine QF.gy O O O (QF.fa O I Fg HA O λfw dr=>QF.gy O O O (QF.fa O dr I4.f_Hi Ku O λfx ds=>QF.gy O O O (QF.ldl Ak c.1 O ds GU O λfy dt=>QF.gy O O O ?_)))
    obtain⟨fz,bq,y⟩:=bd y
    refine AZ O O O Ns O (λh' o=>El (St.all h') (dt.mono' (o.all c.1)) bq) (QF.pick O O O ?_)
    cases y
    exact AH O
  refine QF.mv O O ?_
  obtain⟨br,z,E⟩:=bd E
  refine QF.cutv 7 29 (.bool br) ?_ ?_
  ·
   cases bt:bo
   ·
    have z:=Aw bt z
    cases z
    exact AL O O
   ·
    have z:=Av bt z
    refine QF.gy O O O (QF.fa O I Fg HA O λf0 du=>QF.gy O O O (QF.fa O du I4.f_Lo Kv O λf1 dv=>QF.gy O O O (QF.ldl Ak c.1 O dv GU O λf2 dw=>QF.gy O O O (QF.fa O I If Kt O λf3 dx=>QF.gy O O O (QF.ldl Ak c.1 O dx GU O λf4 dy=>QF.gy O O O ?_)))))
    obtain⟨f5,bu,z⟩:=bd z
    refine AZ O O O Tt O (λh' o=>J9 (St.all h') (dw.mono' (o.all c.1)) (dy.mono' (o.all c.1)) bu) (QF.pick O O O ?_)
    cases z
    exact AH O
  refine QF.mv O O ?_
  obtain⟨bv,A,E⟩:=bd E
  refine QF.cutv 7 37 (.bool bv) ?_ ?_
  ·
   cases bw:br
   ·
    have A:=Aw bw A
    cases A
    exact AL O O
   ·
    have A:=Av bw A
    refine QF.gy O O O (QF.fa O I If Kt O λf6 dz=>QF.gy O O O (QF.ldl Ak c.1 O dz GU O λf7 d0=>QF.gy O O O (QF.fa O I Fg HA O λf8 d1=>QF.gy O O O (QF.fa O d1 I4.f_Hi Ku O λf9 d2=>QF.gy O O O (QF.ldl Ak c.1 O d2 GU O λga d3=>QF.gy O O O ?_)))))
    obtain⟨gb,bx,A⟩:=bd A
    refine AZ O O O Tt O (λh' o=>J9 (St.all h') (d0.mono' (o.all c.1)) (d3.mono' (o.all c.1)) bx) (QF.pick O O O ?_)
    cases A
    exact AH O
  refine QF.mv O O ?_
  obtain⟨bz,C,E⟩:=bd E
  refine QF.cutv 4 42 (.bool bz) ?_ ?_
  ·
   cases b0:bv
   ·
    have C:=Aw b0 C
    cases C
    exact AL O O
   ·
    have C:=Av b0 C
    refine QF.gy O O O (QF.fa O I BZ FW O λgc d4=>QF.gy O O O (QF.ldi Ak c.1 O d4 AN O λd5=>QF.gy O O O ?_))
    obtain⟨ge,b1,C⟩:=bd C
    refine AZ O O O F7 O (λh' o=>A6 (St.all h') d5 (iq (n:=0) O) (iq (n:=64) O) b1) (QF.pick O O O ?_)
    cases C
    exact AH O
  refine QF.mv O O ?_
  obtain⟨b2,D,E⟩:=bd E
  refine QF.cutv 6 49 (.bool b2) ?_ ?_
  ·
   cases b3:bz
   ·
    have D:=Aw b3 D
    cases D
    exact AL O O
   ·
    have D:=Av b3 D
    refine QF.gy O O O (QF.fa O I Fk Iq O λgf d6=>QF.gy O O O (QF.ldi Ak c.1 O d6 AN O λd7=>QF.gy O O O (QF.fa O I BZ FW O λgg d8=>QF.gy O O O (QF.ldi Ak c.1 O d8 AN O λd9=>QF.gy O O O ?_))))
    obtain⟨gh,b4,D⟩:=bd D
    refine AZ O O O F7 O (λh' o=>A6 (St.all h') d7 (iq (n:=0) O) d9 b4) (QF.pick O O O ?_)
    cases D
    exact AH O
  refine QF.mv O O ?_
  obtain⟨b5,F,E⟩:=bd E
  refine QF.cutv 4 54 (.bool b5) ?_ ?_
  ·
   cases b6:b2
   ·
    have F:=Aw b6 F
    cases F
    exact AL O O
   ·
    have F:=Av b6 F
    refine QF.gy O O O (QF.fa O I J2 Nk O λgi ea=>QF.gy O O O (QF.ldi Ak c.1 O ea AN O λeb=>QF.gy O O O ?_))
    obtain⟨gj,b7,F⟩:=bd F
    refine AZ O O O Hr O (λh' o=>BB (St.all h') eb b7) (QF.pick O O O ?_)
    cases F
    exact AH O
  refine QF.mv O O ?_
  obtain⟨aw,G,E⟩:=bd E
  refine QF.cutv 6 61 (.bool aw) ?_ ?_
  ·
   cases b8:b5
   ·
    have G:=Aw b8 G
    cases G
    exact AL O O
   ·
    have G:=Av b8 G
    refine QF.gy O O O (QF.fa O I GO Hw O λgk ec=>QF.gy O O O (QF.ldi Ak c.1 O ec AN O λed=>QF.gy O O O (QF.fa O I FQ HZ O λgl ee=>QF.gy O O O (QF.ldi Ak c.1 O ee AN O λef=>QF.gy O O O ?_))))
    obtain⟨gm,b9,G⟩:=bd G
    refine AZ O O O Tj O (λh' o=>HS (St.all h') ed ef b9) (QF.pick O O O ?_)
    cases G
    exact AH O
  refine QF.mv O O (QF.cutv 9 71 (.bool (aw&&((decide (d.To≠(-1)))||(decide (d.BackDen=0))))) ?_ ?_)
  ·
   cases gp:aw
   ·exact AL O O
   ·
    refine QF.gy O O O (QF.fa O I AX.f_To E8 O λeg ca=>QF.gy O O O (QF.ldi Ak c.1 O ca AN O λeh=>QF.gy O O O (QF.neq O O O (QF.gy O O O (QF.mv O O (QF.cutv 4 70 (.bool ((decide (d.To≠(-1)))||(decide (d.BackDen=0)))) ?_ ?_))))))
    ·
     cases ei:(decide (d.To≠(-1)))
     ·exact QF.gy O O O (QF.fa O I FQ HZ O λej cb=>QF.gy O O O (QF.ldi Ak c.1 O cb AN O λek=>QF.gy O O O (QF.eql O O O (QF.gy O O O (QF.pick O O O (AH O))))))
     ·exact AL O O
    exact QF.pick O O O (AH O)
  refine QF.as_ O O (Ai (kp [2] O) λel ax cc=>WF.ret (λaa ww hf hw=>?_))
  cases E
  exact CS hf hw O O (e5.trans cc) ⟨O,ax⟩
 ·
  have E:=Aw av E
  refine WF.seq (WF.seq (WF.rp (.inl O) (QF.eql O O O (QF.as_ O O (AA (kp [72,4,1] O) (WF.cut (λa w=>∃(U:Bool),IV B S2 h3 (152,[]) a w [(4,.int .i64 d.Kind),(1,q1),(72,.bool U)] (L) λ_ _=>C0 N d U=some r) ?_ ?_))))))
  ·
   refine WF.if_ O (λV=>?_) (λV=>?_)
   ·
    have E:=Av V E
    refine WF.skip (WF.nil (λaa ww hf hw=>?_))
    exact⟨(decide (d.Kind=1)),_,_,hf.sub (kp [4,1,72] O),hw,c,(BO.refl S2 h3),E⟩
   ·
    have E:=Aw V E
    refine WF.rp (.inl O) (QF.eql O O O (QF.as_ O O (AA (kp [72,4,1] O) (WF.nil (λaa ww hf hw=>?_)))))
    exact⟨(decide (d.Kind=5)),_,_,hf.sub (kp [4,1,72] O),hw,c,(BO.refl S2 h3),E⟩
  ·
   rintro aa ww ⟨U,em,en,hf,hw,b,H,E⟩
   refine WF.run ?_ hf hw
   clear hf hw ww aa
   rw[C0] at E
   refine WF.if_ O (λW=>?_) (λW=>?_)
   ·
    have E:=Av W E
    refine WF.seq (WF.rc (.inl O) b ?_)
    have X:=I.mono H
    refine QF.fa O X JS Nj O λeo cd=>QF.ldi Ak b.1 O cd AN O λce=>?_
    obtain⟨cf,ay,E⟩:=bd E
    refine AZ O O O Hr O (λh' o=>BB (St.all h') ce ay) (QF.mv O O ?_)
    obtain⟨ae,g,E⟩:=bd E
    refine QF.cutv 4 82 (.bool ae) ?_ ?_
    ·
     cases af:cf
     ·
      have g:=Aw af g
      cases g
      exact AL O O
     ·
      have g:=Av af g
      refine QF.gy O O O (QF.fa O X AX.f_Num Fw O λep cg=>QF.gy O O O (QF.ldi Ak b.1 O cg AN O λch=>QF.gy O O O ?_))
      obtain⟨eq,az,g⟩:=bd g
      refine AZ O O O Hr O (λh' o=>BB (St.all h') ch az) (QF.pick O O O ?_)
      cases g
      exact AH O
    refine QF.mv O O ?_
    obtain⟨ci,i,E⟩:=bd E
    refine QF.cutv 4 87 (.bool ci) ?_ ?_
    ·
     cases ag:ae
     ·
      have i:=Aw ag i
      cases i
      exact AL O O
     ·
      have i:=Av ag i
      refine QF.gy O O O (QF.fa O X AX.f_Den Gs O λer cj=>QF.gy O O O (QF.ldi Ak b.1 O cj AN O λck=>QF.gy O O O ?_))
      obtain⟨es,a0,i⟩:=bd i
      refine AZ O O O F7 O (λh' o=>A6 (St.all h') ck (iq (n:=1) O) (iq (n:=1125899906842624) O) a0) (QF.pick O O O ?_)
      cases i
      exact AH O
    refine QF.as_ O O (Ai (kp [2] O) λet a1 cl=>WF.ret (λaa ww hf hw=>?_))
    cases E
    have a2:=e5.trans (H.trans cl)
    exact CS hf hw O O a2 ⟨O,a1⟩
   ·
    have E:=Aw W E
    refine WF.seq (WF.rp (.inl O) (QF.eql O O O (QF.as_ O O (AA (kp [88,4,1] O) (WF.if_ O (λY=>?_) (λY=>?_))))))
    ·
     have E:=Av Y E
     refine WF.seq (WF.rc (.inl O) b ?_)
     have Q:=I.mono H
     refine QF.fa O Q AX.f_Num Fw O λeu cm=>QF.ldi Ak b.1 O cm AN O λcn=>?_
     obtain⟨co,a3,E⟩:=bd E
     refine AZ O O O Hr O (λh' o=>BB (St.all h') cn a3) (QF.mv O O ?_)
     obtain⟨ah,j,E⟩:=bd E
     refine QF.cutv 4 97 (.bool ah) ?_ ?_
     ·
      cases ai:co
      ·
       have j:=Aw ai j
       cases j
       exact AL O O
      ·
       have j:=Av ai j
       refine QF.gy O O O (QF.fa O Q BZ FW O λev cp=>QF.gy O O O (QF.ldi Ak b.1 O cp AN O λcq=>QF.gy O O O ?_))
       obtain⟨ew,a4,j⟩:=bd j
       refine AZ O O O F7 O (λh' o=>A6 (St.all h') cq (iq (n:=1) O) (iq (n:=64) O) a4) (QF.pick O O O ?_)
       cases j
       exact AH O
     refine QF.mv O O ?_
     obtain⟨cr,k,E⟩:=bd E
     refine QF.cutv 6 104 (.bool cr) ?_ ?_
     ·
      cases aj:ah
      ·
       have k:=Aw aj k
       cases k
       exact AL O O
      ·
       have k:=Av aj k
       refine QF.gy O O O (QF.fa O Q Fk Iq O λex cs=>QF.gy O O O (QF.ldi Ak b.1 O cs AN O λct=>QF.gy O O O (QF.fa O Q BZ FW O λey cu=>QF.gy O O O (QF.ldi Ak b.1 O cu AN O λcv=>QF.gy O O O ?_))))
       obtain⟨ez,a5,k⟩:=bd k
       refine AZ O O O F7 O (λh' o=>A6 (St.all h') ct (iq (n:=0) O) cv a5) (QF.pick O O O ?_)
       cases k
       exact AH O
     refine QF.as_ O O (Ai (kp [2] O) λe0 a6 cw=>WF.ret (λaa ww hf hw=>?_))
     cases E
     have a7:=e5.trans (H.trans cw)
     exact CS hf hw O O a7 ⟨O,a6⟩
    ·
     have E:=Aw Y E
     refine WF.seq (WF.rp (.inl O) (QF.eql O O O (QF.as_ O O (AA (kp [105,1] O) (WF.if_ O (λZ=>?_) (λZ=>?_))))))
     ·
      have E:=Av Z E
      refine WF.seq (WF.rc (.inl O) b ?_)
      have J:=I.mono H
      refine QF.fa O J AX.f_Num Fw O λe1 cx=>QF.ldi Ak b.1 O cx AN O λcy=>?_
      obtain⟨cz,a8,E⟩:=bd E
      refine AZ O O O Hr O (λh' o=>BB (St.all h') cy a8) (QF.mv O O ?_)
      obtain⟨ak,m,E⟩:=bd E
      refine QF.cutv 4 114 (.bool ak) ?_ ?_
      ·
       cases am:cz
       ·
        have m:=Aw am m
        cases m
        exact AL O O
       ·
        have m:=Av am m
        refine QF.gy O O O (QF.fa O J AX.f_Den Gs O λe2 c0=>QF.gy O O O (QF.ldi Ak b.1 O c0 AN O λc1=>QF.gy O O O ?_))
        obtain⟨e3,a9,m⟩:=bd m
        refine AZ O O O F7 O (λh' o=>A6 (St.all h') c1 (iq (n:=1) O) (iq (n:=1125899906842624) O) a9) (QF.pick O O O ?_)
        cases m
        exact AH O
      refine QF.mv O O ?_
      obtain⟨an,p,E⟩:=bd E
      refine QF.cutv 4 119 (.bool an) ?_ ?_
      ·
       cases ao:ak
       ·
        have p:=Aw ao p
        cases p
        exact AL O O
       ·
        have p:=Av ao p
        refine QF.gy O O O (QF.fa O J H8 LI O λe4 c2=>QF.gy O O O (QF.ldi Ak b.1 O c2 AN O λc3=>QF.gy O O O ?_))
        obtain⟨e6,ba,p⟩:=bd p
        refine AZ O O O Hr O (λh' o=>BB (St.all h') c3 ba) (QF.pick O O O ?_)
        cases p
        exact AH O
      refine QF.mv O O ?_
      obtain⟨ab,s,E⟩:=bd E
      refine QF.cutv 4 124 (.bool ab) ?_ ?_
      ·
       cases ap:an
       ·
        have s:=Aw ap s
        cases s
        exact AL O O
       ·
        have s:=Av ap s
        refine QF.gy O O O (QF.fa O J Fl Hx O λe7 c4=>QF.gy O O O (QF.ldi Ak b.1 O c4 AN O λc5=>QF.gy O O O ?_))
        obtain⟨e8,bb,s⟩:=bd s
        refine AZ O O O Hr O (λh' o=>BB (St.all h') c5 bb) (QF.pick O O O ?_)
        cases s
        exact AH O
      refine QF.mv O O (QF.cutv 6 131 (.bool (ab&&(decide (d.Break<d.Prime)))) ?_ ?_)
      ·
       cases e9:ab
       ·exact AL O O
       ·exact QF.gy O O O (QF.fa O J Fl Hx O λfb c6=>QF.gy O O O (QF.ldi Ak b.1 O c6 AN O λfc=>QF.gy O O O (QF.fa O J H8 LI O λfd c7=>QF.gy O O O (QF.ldi Ak b.1 O c7 AN O λfe=>QF.gy O O O (QF.lss O O O (QF.pick O O O (AH O)))))))
      refine QF.as_ O O (Ai (kp [2] O) λff bc c8=>WF.ret (λaa ww hf hw=>?_))
      cases E
      have be:=e5.trans (H.trans c8)
      exact CS hf hw O O be ⟨O,bc⟩
     ·
      have E:=Aw Z E
      refine WF.skip (Al (WF.seq (WF.rc (.inl O) b ?_)))
      have M:=I.mono H
      refine QF.fa O M AX.f_Num Fw O λfg c9=>QF.ldi Ak b.1 O c9 AN O λda=>?_
      obtain⟨db,bf,E⟩:=bd E
      refine AZ O O O Hr O (λh' o=>BB (St.all h') da bf) (QF.mv O O ?_)
      obtain⟨aq,t,E⟩:=bd E
      refine QF.cutv 4 139 (.bool aq) ?_ ?_
      ·
       cases ar:db
       ·
        have t:=Aw ar t
        cases t
        exact AL O O
       ·
        have t:=Av ar t
        refine QF.gy O O O (QF.fa O M AX.f_Den Gs O λfh dc=>QF.gy O O O (QF.ldi Ak b.1 O dc AN O λdd=>QF.gy O O O ?_))
        obtain⟨fi,bg,t⟩:=bd t
        refine AZ O O O F7 O (λh' o=>A6 (St.all h') dd (iq (n:=1) O) (iq (n:=1125899906842624) O) bg) (QF.pick O O O ?_)
        cases t
        exact AH O
      refine QF.mv O O ?_
      obtain⟨ac,u,E⟩:=bd E
      refine QF.cutv 6 146 (.bool ac) ?_ ?_
      ·
       cases au:aq
       ·
        have u:=Aw au u
        cases u
        exact AL O O
       ·
        have u:=Av au u
        refine QF.gy O O O (QF.fa O M GO Hw O λfj de=>QF.gy O O O (QF.ldi Ak b.1 O de AN O λdf=>QF.gy O O O (QF.fa O M FQ HZ O λfk dg=>QF.gy O O O (QF.ldi Ak b.1 O dg AN O λdh=>QF.gy O O O ?_))))
        obtain⟨fl,bh,u⟩:=bd u
        refine AZ O O O Tj O (λh' o=>HS (St.all h') df dh bh) (QF.pick O O O ?_)
        cases u
        exact AH O
      refine QF.mv O O (QF.cutv 4 151 (.bool (ac&&(decide (d.To≠(-1))))) ?_ ?_)
      ·
       cases fm:ac
       ·exact AL O O
       ·exact QF.gy O O O (QF.fa O M AX.f_To E8 O λfn di=>QF.gy O O O (QF.ldi Ak b.1 O di AN O λfo=>QF.gy O O O (QF.neq O O O (QF.pick O O O (AH O)))))
      refine QF.as_ O O (Ai (kp [2] O) λfp bi dj=>WF.ret (λaa ww hf hw=>?_))
      cases E
      have bj:=e5.trans (H.trans dj)
      exact CS hf hw O O bj ⟨O,bi⟩
end Go.Proofs.YtibidnaedddfdaaGreat
