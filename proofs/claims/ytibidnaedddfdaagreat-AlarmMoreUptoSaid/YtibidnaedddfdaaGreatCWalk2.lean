import Derived.Test.YtibidnaedddfdaaGreatCWalk1
namespace Go.Proofs.YtibidnaedddfdaaGreat
open Go.RowKit
set_option linter.unusedVariables false
set_option linter.unusedSimpArgs false
set_option maxRecDepth 10000
set_option maxHeartbeats 2000000
variable {N:Nat}{S:Nat→Prop}{L:List HP}{h:AX}
theorem Ej (hs:St S L h) {i:Value}{k:(List AU)}(d:Sl S h BB i k) {r:Bool}(E:Cy N k=some r):
 Bf Tryz.prog 89 #[i] S h (λv S' h'=>v= .bool r∧St S' (L) h'):=by
 refine Ab (l:=[i]) 63 Tryz.func89 O Tryz.ntmps89 O λB=>?_
 rw[Cy] at E
 refine WF.seq (WF.rp (.inl O) (QF.as_ O O (AA (kp [0] O) (WF.seq (WF.seq (WF.rp (.inl O) (QF.mv O O (QF.len O d F8 O λb1=>QF.lss O O O (QF.mv O O (QF.cutv 4 12 (.bool ((decide ((↑k.length:Int)<1))||(decide (32<(↑k.length:Int))))) ?_ ?_))))))))))
 ·
  cases c2:(decide ((↑k.length:Int)<1))
  ·exact QF.gy O O O (QF.mv O O (QF.gy O O O (QF.len O d F8 O λb3=>QF.gy O O O (QF.gtr O O O (QF.pick O O O (AH O))))))
  ·exact AK O O
 refine AA (kp [12,0] O) (WF.if_ O (λZ=>?_) (λZ=>?_))
 ·
  have E:=A0 Z E
  refine WF.seq (WF.rp (.inl O) (QF.as_ O O (AA (kp [2] O) (WF.ret (λaa ww hf hw=>?_)))))
  cases E
  exact DD hf hw O O (Bc.refl S h) ⟨O,hs⟩
 ·
  have E:=A3 Z E
  refine WF.skip (WF.seq (WF.seq (WF.rp (.inl O) (QF.mv O O (QF.len O d F8 O λb5=>QF.mv O O (AA (kp [15,14,13,0] O) (WF.blockJ (λa w=>IV B S h (63,[]) a w [] (L) λ_ _=>ET N=some r) ?_ ?_)))))))
  ·
   refine WF.loopF (λn1=>λa w=>∃(y:Int),IV B S h (63,[]) a w [(14,.int .i64 (↑k.length:Int)),(13,i),(0,i),(15,.int .i64 y)] (L) λ_ _=>AB y∧Cx N k (ET N) n1 y=some r) N ?_ ?_ ?_
   ·
    intro aa ww hf hw
    exact⟨0,_,_,hf.sub (kp [14,13,0,15] O),hw,hs,(Bc.refl S h),(iq (n:=0) O),E⟩
   ·
    rintro aa ww ⟨_,_,_,_,_,_,_,_,E⟩
    rw[Cx] at E;cases E
   ·
    rintro n1 aa ww ⟨y,aq,ar,hf,hw,p,m,r9,E⟩
    refine WF.run ?_ hf hw
    clear hf hw ww aa
    rw[Cx] at E
    refine WF.seq (WF.rp (.inl O) (QF.lss O O O (AA (kp [16,14,13,0,15] O) (WF.seq (WF.if_ O (λt=>?_) (λt=>?_))))))
    ·
     have E:=A0 t E
     refine WF.skip (WF.seq (WF.block (WF.seq (WF.rl (LF.q 3 (QF.mv O O ?_))))))
     have ab:=d.mono' m
     obtain⟨b,z,E⟩:=bd E
     refine QF.ixe O O ab F8 z O λau ac=>QF.ld Af p.1 O ac MV (λe=>by cases e) O λav ad=>AG (LF.al RG O p λaw ax A o=>LF.q 1 (QF.as_ O O (AG ?_)))
     have ae:=ad.mono o
     obtain⟨rfl,⟨ay,az⟩⟩:=BB.ex ae
     refine Ad (vs:=[.int .i64 b.X,.int .i64 b.Y]) O O O O MV O A .head O λa0 c s=>LF.nil (kp [3,4,14,13,0,15] O) (WF.seq (WF.seq (WF.rp (.inl O) (QF.fao O Gu O (AI Af c O mh O AL O (QF.lss O O O (QF.mv O O (QF.cutv 4 27 (.bool ((decide (b.X<0))||(decide (1125899906842624<b.X)))) ?_ ?_))))))))
     ·
      cases a1:(decide (b.X<0))
      ·exact QF.gy O O O (QF.fao O Gu O (QF.gy O O O (AI Af c O mh O AL O (QF.gy O O O (QF.gtr O O O (QF.pick O O O (AH O)))))))
      ·exact AK O O
     refine QF.mv O O (QF.cutv 4 32 (.bool (((decide (b.X<0))||(decide (1125899906842624<b.X)))||(decide (b.Y<0)))) ?_ ?_)
     ·
      cases a2:((decide (b.X<0))||(decide (1125899906842624<b.X)))
      ·exact QF.gy O O O (QF.fao O GP O (QF.gy O O O (AI Af c O mh O AL O (QF.gy O O O (QF.lss O O O (QF.pick O O O (AH O)))))))
      ·exact AK O O
     refine QF.mv O O (QF.cutv 4 37 (.bool ((((decide (b.X<0))||(decide (1125899906842624<b.X)))||(decide (b.Y<0)))||(decide (1125899906842624<b.Y)))) ?_ ?_)
     ·
      cases a3:(((decide (b.X<0))||(decide (1125899906842624<b.X)))||(decide (b.Y<0)))
      ·exact QF.gy O O O (QF.fao O GP O (QF.gy O O O (AI Af c O mh O AL O (QF.gy O O O (QF.gtr O O O (QF.pick O O O (AH O)))))))
      ·exact AK O O
     refine AA (kp [37,3,4,14,13,0,15] O) (WF.if_ O (λu=>?_) (λu=>?_))
     ·
      have E:=A0 u E
      refine WF.seq (WF.rp (.inl O) (QF.as_ O O (AA (kp [2] O) (WF.ret (λaa ww hf hw=>?_)))))
      have C:=c.drop .head
      cases E
      have D:=m.trans (o.trans s)
      exact DD hf hw O O D ⟨O,C⟩
     ·
      have E:=A3 u E
      refine WF.skip (WF.seq (WF.rp (.inr ⟨mo,by kernel_rfl⟩) (QF.mv O O (QF.gtr O O O (QF.mv O O ?_)))))
      obtain⟨af,g,E⟩:=bd E
      refine QF.cutv 21 61 (.bool af) ?_ ?_
      ·
       cases F:(decide (0<y))
       ·
        have g:=A3 F g
        cases g
        exact AK O O
       ·
        have g:=A0 F g
        refine QF.gy O O O (QF.fao O Gu O (QF.gy O O O (AI Af c O mh O AL O (QF.gy O O O (QF.mv O O (QF.gy O O O (QF.mv O O (QF.gy O O O (QF.subw O O O (QF.gy O O O ?_))))))))))
        have G:=m.trans (o.trans s)
        have ag:=d.mono' G
        obtain⟨ah,H,g⟩:=bd g
        refine QF.ixe O O ag F8 H O λa4 ai=>QF.gy O O O (QF.fa O ai Ie Gu O λa5 aj=>QF.gy O O O (QF.ldi Af c.1 O aj AL O λa6=>QF.gy O O O (QF.leq O O O (QF.gy O O O (QF.mv O O ?_)))))
        obtain⟨ak,j,g⟩:=bd g
        refine QF.cutv 10 60 (.bool ak) ?_ ?_
        ·
         cases I:(decide (b.X≤ah.X))
         ·
          have j:=A3 I j
          refine QF.gy O O O (QF.fao O GP O (QF.gy O O O (AI Af c O mh O AL O (QF.gy O O O (QF.mv O O (QF.gy O O O (QF.mv O O (QF.gy O O O (QF.subw O O O (QF.gy O O O ?_))))))))))
          have J:=m.trans (o.trans s)
          have am:=d.mono' J
          obtain⟨a7,K,j⟩:=bd j
          refine QF.ixe O O am F8 K O λa8 an=>QF.gy O O O (QF.fa O an Ic GP O λa9 ao=>QF.gy O O O (QF.ldi Af c.1 O ao AL O λba=>QF.gy O O O (QF.lss O O O (QF.gy O O O (QF.pick O O O ?_)))))
          cases j
          exact AH O
         ·
          have j:=A0 I j
          cases j
          exact AK O O
        refine QF.pick O O O ?_
        cases g
        exact AH O
      refine AA (kp [61,14,13,0,15] O) (WF.if_ O (λx=>?_) (λx=>?_))
      ·
       have E:=A0 x E
       refine WF.seq (WF.rp (.inl O) (QF.as_ O O (AA (kp [2] O) (WF.ret (λaa ww hf hw=>?_)))))
       have M:=c.drop .head
       cases E
       have Q:=m.trans (o.trans s)
       exact DD hf hw O O Q ⟨O,M⟩
      ·
       have E:=A3 x E
       refine WF.skip (Ap (WF.rp (.inl O) (QF.addw O O O (QF.mv O O (AA (kp [15,14,13,0] O) (WF.nil (λaa ww hf hw=>?_)))))))
       have U:=c.drop .head
       have V:=m.trans (o.trans s)
       exact⟨(Aw (y+1)),_,_,hf.sub (kp [14,13,0,15] O),hw,U,V,(BA _),E⟩
    ·
     have E:=A3 t E
     refine WF.exit O (λaa ww hf hw=>?_)
     exact⟨_,_,hf.sub JH,hw,p,m,E⟩
  ·
   rintro aa ww ⟨bb,bc,hf,hw,W,ap,E⟩
   refine WF.run ?_ hf hw
   clear hf hw ww aa
   rw[ET] at E
   refine WF.seq (WF.rp (.inl O) (QF.as_ O O (AA (kp [2] O) (WF.ret (λaa ww hf hw=>?_)))))
   cases E
   exact DD hf hw O O ap ⟨O,W⟩
theorem G3 (hs:St S L h) {b:Int}(d:AB b) {a:Int}(g:AB a) {r:Bool}(E:EU N b a=some r):
 Bf Tryz.prog 90 #[.int .i64 b,.int .i64 a] S h (λv S' h'=>v= .bool r∧St S' (L) h'):=by
 refine Ab (l:=[.int .i64 b,.int .i64 a]) 19 Tryz.func90 O Tryz.ntmps90 O λB=>?_
 rw[EU] at E
 refine WF.seq (WF.rp (.inl O) (QF.as_ O O (AA (kp [0,1] O) (WF.seq (WF.rc (.inl O) hs (QF.mv O O ?_))))))
 obtain⟨q,j,E⟩:=bd E
 refine Aa O O O HS O (λh' o=>BF (St.all h') d j) (QF.mv O O ?_)
 obtain⟨k,c,E⟩:=bd E
 refine QF.cutv 3 10 (.bool k) ?_ ?_
 ·
  cases p:q
  ·
   have c:=A3 p c
   cases c
   exact AK O O
  ·
   have c:=A0 p c
   refine QF.gy O O O (QF.mv O O (QF.gy O O O ?_))
   obtain⟨s,m,c⟩:=bd c
   refine Aa O O O HS O (λh' o=>BF (St.all h') g m) (QF.pick O O O ?_)
   cases c
   exact AH O
 refine QF.mv O O (QF.cutv 7 18 (.bool (k&&((decide (a≠0))||(decide (b=0))))) ?_ ?_)
 ·
  cases t:k
  ·exact AK O O
  ·
   refine QF.gy O O O (QF.mv O O (QF.gy O O O (QF.neq O O O (QF.gy O O O (QF.mv O O (QF.cutv 3 17 (.bool ((decide (a≠0))||(decide (b=0)))) ?_ ?_))))))
   ·
    cases u:(decide (a≠0))
    ·exact QF.gy O O O (QF.mv O O (QF.gy O O O (QF.eql O O O (QF.gy O O O (QF.pick O O O (AH O))))))
    ·exact AK O O
   exact QF.pick O O O (AH O)
 refine QF.as_ O O (Ak (kp [4] O) λw i n=>WF.ret (λaa ww hf hw=>?_))
 cases E
 exact DD hf hw O O n ⟨O,i⟩
theorem Ek (hs:St S L h) {b:Int}(c:AB b) {a:Int}(d:AB a) {r:Bool}(E:DR N b a=some r):
 Bf Tryz.prog 92 #[.int .i64 b,.int .i64 a] S h (λv S' h'=>v= .bool r∧St S' (L) h'):=by
 refine Ab (l:=[.int .i64 b,.int .i64 a]) 9 Tryz.func92 O Tryz.ntmps92 O λB=>?_
 rw[DR] at E
 refine WF.seq (WF.rp (.inl O) (QF.as_ O O (AA (kp [0,1] O) (WF.seq (WF.rc (.inl O) hs (QF.mv O O (QF.mv O O (QF.subw O O O ?_))))))))
 obtain⟨k,g,E⟩:=bd E
 refine Aa O O O Fx O (λh' o=>A8 (St.all h') c (iq (n:=0) O) (BA _) g) (QF.as_ O O (Ak (kp [4] O) λm i j=>WF.ret (λaa ww hf hw=>?_)))
 cases E
 exact DD hf hw O O j ⟨O,i⟩
theorem JC (hs:St S L h) {c:Value}{j:AJ}(i:Rd S h BV c j) {a:Int}(k:AB a) {b:Int}(g:AB b) {r:Bool}(E:Fu N j a b=some r):
 Bf Tryz.prog 91 #[c,.int .i64 a,.int .i64 b] S h (λv S' h'=>v= .bool r∧St S' (L) h'):=by
 refine Ab (l:=[c,.int .i64 a,.int .i64 b]) 21 Tryz.func91 O Tryz.ntmps91 O λB=>?_
 rw[Fu] at E
 refine WF.seq (WF.rl (LF.boxp O i (λe=>by cases e) O hs λH I J m z A=>LF.q 1 (QF.as_ O O (AG (LF.nil (kp [3,1,2] O) (WF.seq (WF.rc (.inl O) m (QF.mv O O (QF.eql O O O (QF.mv O O ?_))))))))))
 obtain⟨C,d,E⟩:=bd E
 refine QF.cutv 11 20 (.bool C) ?_ ?_
 ·
  cases y:(decide (b=(-1)))
  ·
   have d:=A3 y d
   refine QF.gy O O O (QF.mv O O (QF.gy O O O (QF.fa O A A4 DW O λK t=>QF.gy O O O (QF.ldl Ai m.1 O t Ff O λD u=>QF.gy O O O (QF.len O u E5 O λw=>QF.gy O O O ?_)))))
   obtain⟨n,p,d⟩:=bd d
   refine Aa O O O Nl O (λh' o=>Ek (St.all h') g (Jk w) p) (QF.gy O O O (QF.mv O O (QF.cutv 4 19 (.bool (n&&(decide (b≠a)))) ?_ ?_)))
   ·
    cases F:n
    ·exact AK O O
    ·exact QF.gy O O O (QF.mv O O (QF.gy O O O (QF.mv O O (QF.gy O O O (QF.neq O O O (QF.gy O O O (QF.pick O O O (AH O))))))))
   refine QF.pick O O O ?_
   cases d
   exact AH O
  ·
   have d:=A0 y d
   cases d
   exact AK O O
 refine QF.as_ O O (Ak (kp [6] O) λG s x=>WF.ret (λaa ww hf hw=>?_))
 cases E
 exact DD hf hw O O (z.trans x) ⟨O,s⟩
theorem Ju (hs:St S L h) {G:Value}{c:AJ}(aq:Rd S h BV G c) {r:Bool}(E:Fd N c=some r):
 Bf Tryz.prog 38 #[G] S h (λv S' h'=>v= .bool r∧St S' (L) h'):=by
 refine Ab (l:=[G]) 122 Tryz.func38 O Tryz.ntmps38 O λB=>?_
 rw[Fd] at E
 refine WF.seq (WF.rl (LF.boxp O aq (λe=>by cases e) O hs λq1 S2 h3 bt e5 k6=>LF.q 1 (QF.as_ O O (AG (LF.nil (kp [1] O) (WF.seq (WF.rp (.inl O) (QF.as_ O O (AA (kp [3,1] O) (WF.seq (WF.seq (WF.rp (.inl O) ?_))))))))))))
 refine QF.fa O k6 A4 DW O λq7 k8=>QF.ldl Af bt.1 O k8 Ff O λv9 bu=>QF.len O bu E5 O λek=>QF.mv O O (AA (kp [14,13,12,3,1] O) (WF.blockJ (λa w=>∃(ar:Int),IV B S2 h3 (122,[]) a w [(3,.int .i64 ar)] (L) λ_ _=>AB ar∧A7 N ar=some r) ?_ ?_))
 ·
  refine WF.loopF (λn1=>λa w=>∃(ab:Int) (i:Int),IV B S2 h3 (122,[]) a w [(13,.int .i64 (↑c.Places.length:Int)),(12,v9),(1,q1),(3,.int .i64 ab),(14,.int .i64 i)] (L) λ_ _=>AB ab∧AB i∧Av N c (A7 N) n1 ab i=some r) N ?_ ?_ ?_
  ·
   intro aa ww hf hw
   exact⟨0,0,_,_,hf.sub (kp [13,12,1,3,14] O),hw,bt,(Bc.refl S2 h3),(iq (n:=0) O),(iq (n:=0) O),E⟩
  ·
   rintro aa ww ⟨_,_,_,_,_,_,_,_,_,_,E⟩
   rw[Av] at E;cases E
  ·
   rintro n1 aa ww ⟨ab,i,au,c4,hf,hw,ac,H,bv,c5,E⟩
   refine WF.run ?_ hf hw
   clear hf hw ww aa
   rw[Av] at E
   refine WF.seq (WF.rp (.inl O) (QF.lss O O O (AA (kp [15,13,12,1,3,14] O) (WF.seq (WF.if_ O (λa5=>?_) (λa5=>?_))))))
   ·
    have E:=A0 a5 E
    refine WF.skip (WF.seq (WF.blockJ (λa w=>∃(ad:Int),IV B au c4 (122,[]) a w [(13,.int .i64 (↑c.Places.length:Int)),(12,v9),(1,q1),(14,.int .i64 i),(3,.int .i64 ad)] (L) λ_ _=>AB ad∧BU N i (Av N c (A7 N) n1) ad=some r) ?_ ?_))
    ·
     refine WF.seq (WF.rl (LF.q 3 (QF.mv O O ?_)))
     have c6:=bu.mono' H
     obtain⟨b,bw,E⟩:=bd E
     refine QF.ixe O O c6 E5 bw O λel c7=>QF.ld Af ac.1 O c7 Im (λe=>by cases e) O λem c8=>AG (LF.al OB O ac λav en bx I=>LF.q 1 (QF.as_ O O (AG ?_)))
     have c9:=c8.mono I
     obtain⟨aw,ae,af,rfl,eo,da,db,dc,bz,a6,dd,de,df,dg,dh,b0⟩:=BO.ex c9
     refine LF.st (vs:=[.string b.Name,.int .i64 b.Kind,.int .i64 b.Office,.int .i64 b.Cap,aw,ae,.int .i64 b.Num,.int .i64 b.Den,.int .i64 b.Down,.int .i64 b.Delay,.int .i64 b.Floor,af]) (cs':=[.string b.Name,.int .i64 b.Kind,.int .i64 b.Office,.int .i64 b.Cap,aw,ae,.int .i64 b.Num,.int .i64 b.Den,.int .i64 b.Down,.int .i64 b.Delay,.int .i64 b.Floor,af]) O O O (AC O (AC O (AC O (AC O (AC bz.one (AC a6.one (AC O (AC O (AC O (AC O (AC O (AC b0.one Eo)))))))))))) Im O bx .head O O λep d y=>LF.nil (kp [4,5,13,12,1,3,14] O) (WF.seq (WF.seq (WF.rc (.inl O) d (QF.fao O Vu O (AI Ai d O mh O AL O ?_)))))
     obtain⟨di,b1,E⟩:=bd E
     refine Aa O O O Fx O (λh' o=>A8 (St.all h') da (iq (n:=0) O) (iq (n:=3) O) b1) (QF.not O O (QF.mv O O ?_))
     obtain⟨b2,j,E⟩:=bd E
     refine QF.cutv 5 28 (.bool b2) ?_ ?_
     ·
      cases b3:(!di)
      ·
       have j:=A3 b3 j
       refine QF.gy O O O (QF.fao O JO O (QF.gy O O O (AI Ai d O mh O AL O (QF.gy O O O ?_))))
       obtain⟨eq,b4,j⟩:=bd j
       refine Aa O O O Fx O (λh' o=>A8 (St.all h') db (iq (n:=0) O) (iq (n:=2) O) b4) (QF.gy O O O (QF.not O O (QF.pick O O O ?_)))
       cases j
       exact AH O
      ·
       have j:=A0 b3 j
       cases j
       exact AK O O
     refine QF.mv O O ?_
     obtain⟨b5,k,E⟩:=bd E
     refine QF.cutv 5 34 (.bool b5) ?_ ?_
     ·
      cases b6:b2
      ·
       have k:=A3 b6 k
       refine QF.gy O O O (QF.fao O O2 O (QF.gy O O O (AI Ai d O mh O AL O (QF.gy O O O ?_))))
       obtain⟨er,b7,k⟩:=bd k
       refine Aa O O O Fx O (λh' o=>A8 (St.all h') dg (iq (n:=0) O) (iq (n:=240) O) b7) (QF.gy O O O (QF.not O O (QF.pick O O O ?_)))
       cases k
       exact AH O
      ·
       have k:=A0 b6 k
       cases k
       exact AK O O
     refine QF.mv O O ?_
     obtain⟨b8,m,E⟩:=bd E
     refine QF.cutv 5 40 (.bool b8) ?_ ?_
     ·
      cases b9:b5
      ·
       have m:=A3 b9 m
       refine QF.gy O O O (QF.fao O Ls O (QF.gy O O O (AI Ai d O mh O AL O (QF.gy O O O ?_))))
       obtain⟨es,ca,m⟩:=bd m
       refine Aa O O O HS O (λh' o=>BF (St.all h') dc ca) (QF.gy O O O (QF.not O O (QF.pick O O O ?_)))
       cases m
       exact AH O
      ·
       have m:=A0 b9 m
       cases m
       exact AK O O
     refine QF.mv O O ?_
     obtain⟨cb,p,E⟩:=bd E
     refine QF.cutv 5 46 (.bool cb) ?_ ?_
     ·
      cases cc:b8
      ·
       have p:=A3 cc p
       refine QF.gy O O O (QF.fao O T1 O (QF.gy O O O (AI Ai d O mh O AL O (QF.gy O O O ?_))))
       obtain⟨et,cd,p⟩:=bd p
       refine Aa O O O HS O (λh' o=>BF (St.all h') dh cd) (QF.gy O O O (QF.not O O (QF.pick O O O ?_)))
       cases p
       exact AH O
      ·
       have p:=A0 cc p
       cases p
       exact AK O O
     refine QF.mv O O ?_
     obtain⟨ax,s,E⟩:=bd E
     refine QF.cutv 5 52 (.bool ax) ?_ ?_
     ·
      cases ce:cb
      ·
       have s:=A3 ce s
       refine QF.gy O O O (QF.fao O Vt O (QF.gy O O O (AI Ai d O mh O GN O (QF.gy O O O ?_))))
       have dj:=bz.mono' y
       obtain⟨eu,cf,s⟩:=bd s
       refine Aa O O O Nm O (λh' o=>Ej (St.all h') (dj.mono' (o.all d.1)) cf) (QF.gy O O O (QF.not O O (QF.pick O O O ?_)))
       cases s
       exact AH O
      ·
       have s:=A0 ce s
       cases s
       exact AK O O
     refine QF.mv O O (QF.cutv 8 61 (.bool (ax||(decide ((↑b.Start.length:Int)≠(↑c.Owners.length:Int))))) ?_ ?_)
     ·
      cases ev:ax
      ·
       refine QF.gy O O O (QF.fao O Rp O (QF.gy O O O (AI Ai d O mh O PV O (QF.gy O O O ?_))))
       have dk:=a6.mono' y
       refine QF.len O dk F9 O λew=>QF.gy O O O ?_
       have cg:=H.trans (I.trans y)
       have dl:=k6.mono cg
       exact QF.fa O dl H4 M7 O λey dm=>QF.gy O O O (QF.ldl Ai d.1 O dm RJ O λez dn=>QF.gy O O O (QF.len O dn Pf O λe0=>QF.gy O O O (QF.neq O O O (QF.pick O O O (AH O)))))
      ·exact AK O O
     refine QF.mv O O ?_
     obtain⟨ch,t,E⟩:=bd E
     refine QF.cutv 7 69 (.bool ch) ?_ ?_
     ·
      cases ci:(ax||(decide ((↑b.Start.length:Int)≠(↑c.Owners.length:Int))))
      ·
       have t:=A3 ci t
       refine QF.gy O O O (QF.fao O O3 O (QF.gy O O O (AI Ai d O mh O AL O (QF.gy O O O (QF.fao O Ip O (QF.gy O O O (AI Ai d O mh O AL O (QF.gy O O O ?_))))))))
       obtain⟨e1,cj,t⟩:=bd t
       refine Aa O O O Ua O (λh' o=>G3 (St.all h') dd de cj) (QF.gy O O O (QF.not O O (QF.pick O O O ?_)))
       cases t
       exact AH O
      ·
       have t:=A0 ci t
       cases t
       exact AK O O
     refine QF.mv O O ?_
     obtain⟨dp,u,E⟩:=bd E
     refine QF.cutv 7 77 (.bool dp) ?_ ?_
     ·
      cases ck:ch
      ·
       have u:=A3 ck u
       refine QF.gy O O O ?_
       have cl:=H.trans (I.trans y)
       have dq:=k6.mono cl
       refine QF.ld Ai d.1 O dq F7 (λe=>by cases e) O λds cm=>QF.gy O O O (QF.mv O O (QF.gy O O O (QF.fao O M5 O (QF.gy O O O (AI Ai d O mh O AL O (QF.gy O O O ?_))))))
       obtain⟨dt,a7,u⟩:=bd u
       refine Aa O O O Wg O (λh' o=>JC (St.all h') (cm.mono (o.all d.1)) c5 df a7) (QF.gy O O O (QF.not O O (QF.pick O O O ?_)))
       cases u
       exact AH O
      ·
       have u:=A0 ck u
       cases u
       exact AK O O
     refine Ak (kp [77,5,13,12,1,3,14] O) λag Q z=>WF.if_ O (λah=>?_) (λah=>?_)
     ·
      have E:=A0 ah E
      refine WF.seq (WF.rp (.inl O) (QF.as_ O O (AA (kp [2] O) (WF.ret (λaa ww hf hw=>?_)))))
      have a8:=Q.drop .head
      cases E
      have a9:=e5.trans (H.trans (I.trans (y.trans z)))
      exact DD hf hw O O a9 ⟨O,a8⟩
     ·
      have E:=A3 ah E
      refine WF.skip (WF.seq (WF.seq (WF.rp (.inl O) (QF.fao O Rp O (AI Af Q O mh O PV O ?_)))))
      have ay:=a6.mono' (y.trans z)
      refine QF.len O ay F9 O λdu=>QF.mv O O (AA (kp [81,80,79,5,13,12,1,3,14] O) (WF.blockJ (λa w=>∃(A:Int),IV B au ag (122,[]) a w [(5,.pointer (some ⟨av,0,none⟩)),(13,.int .i64 (↑c.Places.length:Int)),(12,v9),(1,q1),(14,.int .i64 i),(3,.int .i64 A)] (Bx av 57 [.string b.Name,.int .i64 b.Kind,.int .i64 b.Office,.int .i64 b.Cap,aw,ae,.int .i64 b.Num,.int .i64 b.Den,.int .i64 b.Down,.int .i64 b.Delay,.int .i64 b.Floor,af]::L) λ_ _=>AB A∧Co N c b (BU N i (Av N c (A7 N) n1)) A=some r) ?_ ?_))
      ·
       refine WF.loopF (λn4=>λa w=>∃(F:Int) (J:Int),IV B au ag (122,[]) a w [(80,.int .i64 (↑b.Start.length:Int)),(79,ae),(5,.pointer (some ⟨av,0,none⟩)),(13,.int .i64 (↑c.Places.length:Int)),(12,v9),(1,q1),(14,.int .i64 i),(3,.int .i64 F),(81,.int .i64 J)] (Bx av 57 [.string b.Name,.int .i64 b.Kind,.int .i64 b.Office,.int .i64 b.Cap,aw,ae,.int .i64 b.Num,.int .i64 b.Den,.int .i64 b.Down,.int .i64 b.Delay,.int .i64 b.Floor,af]::L) λ_ _=>AB F∧AB J∧Bq N b (Co N c b (BU N i (Av N c (A7 N) n1))) n4 F J=some r) N ?_ ?_ ?_
       ·
        intro aa ww hf hw
        exact⟨ab,0,_,_,hf.sub (kp [80,79,5,13,12,1,14,3,81] O),hw,Q,(Bc.refl au ag),bv,(iq (n:=0) O),E⟩
       ·
        rintro aa ww ⟨_,_,_,_,_,_,_,_,_,_,E⟩
        rw[Bq] at E;cases E
       ·
        rintro n4 aa ww ⟨F,J,dv,dw,hf,hw,U,X,cn,dx,E⟩
        refine WF.run ?_ hf hw
        clear hf hw ww aa
        rw[Bq] at E
        refine WF.seq (WF.rp (.inl O) (QF.lss O O O (AA (kp [82,80,79,5,13,12,1,14,3,81] O) (WF.seq (WF.if_ O (λai=>?_) (λai=>?_))))))
        ·
         have E:=A0 ai E
         refine WF.skip (WF.seq (WF.block (WF.seq (WF.rp (.inl O) ?_))))
         have co:=ay.mono' X
         obtain⟨cp,ba,E⟩:=bd E
         refine QF.ixe O O co F9 ba O λdy cq=>QF.ldi Af U.1 O cq AL O λcr=>QF.as_ O O (AA (kp [7,80,79,5,13,12,1,14,3,81] O) (WF.seq (WF.seq (WF.rc (.inl O) U (QF.mv O O ?_)))))
         obtain⟨dz,bb,E⟩:=bd E
         refine Aa O O O HS O (λh' o=>BF (St.all h') cr bb) (QF.not O O (Ak (kp [87,7,80,79,5,13,12,1,14,3,81] O) λd0 aj az=>WF.if_ O (λak=>?_) (λak=>?_)))
         ·
          have E:=A0 ak E
          refine WF.seq (WF.rp (.inl O) (QF.as_ O O (AA (kp [2] O) (WF.ret (λaa ww hf hw=>?_)))))
          have bc:=aj.drop .head
          cases E
          have be:=e5.trans (H.trans (I.trans (y.trans (z.trans (X.trans az)))))
          exact DD hf hw O O be ⟨O,bc⟩
         ·
          have E:=A3 ak E
          refine WF.skip (WF.rp (.inl O) (QF.mv O O (QF.mv O O (QF.addw O O O (QF.as_ O O (AA (kp [3,80,79,5,13,12,1,14,81] O) (Ap (WF.rp (.inl O) (QF.addw O O O (QF.mv O O (AA (kp [81,3,80,79,5,13,12,1,14] O) (WF.nil (λaa ww hf hw=>?_)))))))))))))
          exact⟨(Aw (F+cp)),(Aw (J+1)),_,_,hf.sub (kp [80,79,5,13,12,1,14,3,81] O),hw,aj,(X.trans az),(BA _),(BA _),E⟩
        ·
         have E:=A3 ai E
         refine WF.exit O (λaa ww hf hw=>?_)
         exact⟨F,_,_,hf.sub (kp [5,13,12,1,14,3] O),hw,U,X,cn,E⟩
      ·
       rintro aa ww ⟨A,a0,a1,hf,hw,am,Y,cs,E⟩
       refine WF.run ?_ hf hw
       clear hf hw ww aa
       rw[Co] at E
       refine WF.seq (WF.rp (.inl O) (QF.as_ O O (AA (kp [8,5,13,12,1,14,3] O) (WF.seq (WF.rp (.inl O) (QF.fao O T0 O (AI Af am O mh O YZ O ?_)))))))
       have bf:=y.trans (z.trans Y)
       have a2:=b0.mono' bf
       refine QF.len O a2 WW O λd1=>QF.mv O O (AA (kp [95,94,93,8,13,12,1,14,3] O) (WF.block (WF.loopF (λn5=>λa w=>∃(C:Int) (K:Int),IV B a0 a1 (122,[]) a w [(94,.int .i64 (↑b.Rain.length:Int)),(93,af),(13,.int .i64 (↑c.Places.length:Int)),(12,v9),(1,q1),(14,.int .i64 i),(3,.int .i64 A),(8,.int .i64 C),(95,.int .i64 K)] (L) λ_ _=>AB C∧AB K∧Bp N c b A (BU N i (Av N c (A7 N) n1)) n5 C K=some r) N ?_ ?_ ?_)))
       ·
        intro aa ww hf hw
        have bg:=am.drop .head
        exact⟨(-1),0,_,_,hf.sub (kp [94,93,13,12,1,14,3,8,95] O),hw,bg,(Bc.refl a0 a1),(iq (n:=(-1)) O),(iq (n:=0) O),E⟩
       ·
        rintro aa ww ⟨_,_,_,_,_,_,_,_,_,_,E⟩
        rw[Bp] at E;cases E
       ·
        rintro n5 aa ww ⟨C,K,d2,d3,hf,hw,V,M,d4,d5,E⟩
        refine WF.run ?_ hf hw
        clear hf hw ww aa
        rw[Bp] at E
        refine WF.seq (WF.rp (.inl O) (QF.lss O O O (AA (kp [96,94,93,13,12,1,14,3,8,95] O) (WF.seq (WF.if_ O (λan=>?_) (λan=>?_))))))
        ·
         have E:=A0 an E
         refine WF.skip (WF.seq (WF.block (WF.seq (WF.rl (LF.q 2 ?_)))))
         have ct:=a2.mono' M
         obtain⟨x,bh,E⟩:=bd E
         refine QF.ixe O O ct WW bh O λd6 cu=>QF.ld Af V.1 O cu TI (λe=>by cases e) O λd7 cv=>AG (LF.al Wq O V λd8 d9 bi Z=>?_)
         have cw:=cv.mono Z
         obtain⟨rfl,⟨cx,cy⟩⟩:=H2.ex cw
         refine Ad (vs:=[.int .i64 x.Index,.int .i64 x.Area]) O O O O TI O bi .head O λea D ao=>LF.nil (kp [10,94,93,13,12,1,14,3,8,95] O) (WF.seq (WF.seq (WF.rc (.inl O) D (QF.fao O NY O (AI Ai D O mh O AL O (QF.mv O O (QF.leq O O O (QF.mv O O (QF.cutv 6 109 (.bool ((decide (x.Index≤C))||(decide (c.Cells≤x.Index)))) ?_ ?_)))))))))
         ·
          cases eb:(decide (x.Index≤C))
          ·
           refine QF.gy O O O (QF.fao O NY O (QF.gy O O O (AI Ai D O mh O AL O (QF.gy O O O ?_))))
           have bj:=H.trans (I.trans (y.trans (z.trans (Y.trans (M.trans (Z.trans ao))))))
           have cz:=k6.mono bj
           exact QF.fa O cz Ig O6 O λec c0=>QF.gy O O O (QF.ldi Ai D.1 O c0 AL O λed=>QF.gy O O O (QF.geq O O O (QF.pick O O O (AH O))))
          ·exact AK O O
         refine QF.mv O O ?_
         obtain⟨c1,g,E⟩:=bd E
         refine QF.cutv 5 115 (.bool c1) ?_ ?_
         ·
          cases a3:((decide (x.Index≤C))||(decide (c.Cells≤x.Index)))
          ·
           have g:=A3 a3 g
           refine QF.gy O O O (QF.fao O UA O (QF.gy O O O (AI Ai D O mh O AL O (QF.gy O O O ?_))))
           obtain⟨ee,bk,g⟩:=bd g
           refine Aa O O O HS O (λh' o=>BF (St.all h') cy bk) (QF.gy O O O (QF.not O O (QF.pick O O O ?_)))
           cases g
           exact AH O
          ·
           have g:=A0 a3 g
           cases g
           exact AK O O
         refine Ak (kp [115,10,94,93,13,12,1,14,3,95] O) λef W a4=>WF.if_ O (λap=>?_) (λap=>?_)
         ·
          have E:=A0 ap E
          refine WF.seq (WF.rp (.inl O) (QF.as_ O O (AA (kp [2] O) (WF.ret (λaa ww hf hw=>?_)))))
          have bl:=W.drop .head
          cases E
          have bm:=e5.trans (H.trans (I.trans (y.trans (z.trans (Y.trans (M.trans (Z.trans (ao.trans a4))))))))
          exact DD hf hw O O bm ⟨O,bl⟩
         ·
          have E:=A3 ap E
          refine WF.skip (WF.rp (.inl O) (QF.fao O NY O (AI Af W O mh O AL O (QF.as_ O O (AA (kp [8,94,93,13,12,1,14,3,95] O) (Ap (WF.rp (.inl O) (QF.addw O O O (QF.mv O O (AA (kp [95,8,94,93,13,12,1,14,3] O) (WF.nil (λaa ww hf hw=>?_))))))))))))
          have bn:=W.drop .head
          have bo:=M.trans (Z.trans (ao.trans a4))
          exact⟨x.Index,(Aw (K+1)),_,_,hf.sub (kp [94,93,13,12,1,14,3,8,95] O),hw,bn,bo,cx,(BA _),E⟩
        ·
         have E:=A3 an E
         refine Hu O (WF.nil (λaa ww hf hw=>?_))
         have bp:=I.trans (y.trans (z.trans (Y.trans M)))
         exact⟨A,_,_,hf.sub (kp [13,12,1,14,3] O),hw,V,bp,cs,E⟩
    ·
     rintro aa ww ⟨ad,eg,eh,hf,hw,bq,c2,dr,E⟩
     refine WF.run ?_ hf hw
     clear hf hw ww aa
     rw[BU] at E
     refine WF.rp (.inl O) (QF.addw O O O (QF.mv O O (AA (kp [14,13,12,1,3] O) (WF.nil (λaa ww hf hw=>?_)))))
     exact⟨ad,(Aw (i+1)),_,_,hf.sub (kp [13,12,1,3,14] O),hw,bq,(H.trans c2),dr,(BA _),E⟩
   ·
    have E:=A3 a5 E
    refine WF.exit O (λaa ww hf hw=>?_)
    exact⟨ab,_,_,hf.sub (kp [3] O),hw,ac,H,bv,E⟩
 ·
  rintro aa ww ⟨ar,ei,ej,hf,hw,br,c3,e2,E⟩
  refine WF.run ?_ hf hw
  clear hf hw ww aa
  rw[A7] at E
  refine WF.seq (WF.rp (.inl O) (QF.mv O O (QF.leq O O O (QF.as_ O O (AA (kp [2] O) (WF.ret (λaa ww hf hw=>?_)))))))
  cases E
  exact DD hf hw O O (e5.trans c3) ⟨O,br⟩
theorem Mk (hs:St S L h) {d:Int}(q:AB d) {c:Value}{p:(Int→Option Bool)}(s:Rd S h (AV.fn Tryz.prog (λx:Int=>([.int .i64 x]:List Value)) (λx:Int=>AB x) (λy:Bool=> .bool y) (λy:Bool=>True)) c p) {r:Int}(E:Hj N d p=some r):
 Bf Tryz.prog 165 #[.int .i64 d,c] S h (λv S' h'=>v= .int .i64 r∧AB r∧St S' (L) h'):=by
 refine Ab (l:=[.int .i64 d,c]) 26 Tryz.func165 O Tryz.ntmps165 O λB=>?_
 rw[Hj] at E
 obtain⟨H,I,rfl,J,K⟩:=s.fn
 refine WF.seq (WF.rp (.inl O) (QF.as_ O O (AA (kp [0,1] O) (WF.seq (WF.rp (.inl O) (QF.mv O O (QF.as_ O O (QF.as_ O O (AA (kp [6,5,1] O) (WF.seq (WF.blockJ (λa w=>∃(G:Int),IV B S h (26,[]) a w [(5,.int .i64 G)] (L) λ_ _=>AB G∧Fo N G=some r) ?_ ?_)))))))))))
 ·
  refine WF.loopF (λU=>λa w=>∃(g:Int) (i:Int),IV B S h (26,[]) a w [(1,(.func (.func H) #[] I)),(5,.int .i64 g),(6,.int .i64 i)] (L) λ_ _=>AB g∧AB i∧Dw N p (Fo N) U g i=some r) N ?_ ?_ ?_
  ·
   intro aa ww hf hw
   exact⟨0,d,_,_,hf.sub (kp [1,5,6] O),hw,hs,(Bc.refl S h),(iq (n:=0) O),q,E⟩
  ·
   rintro aa ww ⟨_,_,_,_,_,_,_,_,_,_,E⟩
   rw[Dw] at E;cases E
  ·
   rintro U aa ww ⟨g,i,V,W,hf,hw,k,m,A,M,E⟩
   refine WF.run ?_ hf hw
   clear hf hw ww aa
   rw[Dw] at E
   refine WF.seq (WF.seq (WF.rp (.inl O) (QF.mv O O (QF.mv O O (QF.lss O O O (AA (kp [11,1,5,6] O) (WF.if_ O (λu=>?_) (λu=>?_))))))))
   ·
    have E:=A0 u E
    refine WF.skip (WF.block (WF.seq (WF.rp (.inl O) (QF.mv O O (QF.mv O O (QF.addw O O O (QF.convk O LA NB O (QF.shrk (j:=1) O O O O (QF.convk O NB LA O (QF.as_ O O (AA (kp [7,1,5,6] O) (WF.seq (WF.rc (.inl O) k ?_)))))))))))))
    refine QF.mv O O (QF.mv O O ?_)
    obtain⟨X,C,E⟩:=bd E
    refine Aa O O O J O (λh' o=>K _ h' (λb hb=>Nat.lt_of_lt_of_le (k.1 b (m.sub b hb)) o.siz) (λb hb=>(o.same b (k.1 b (m.sub b hb))).trans (m.same b hb)) [] (St.all h') _ _ (BA _) C) (QF.not O O (Ak (kp [21,7,1,5,6] O) λY t D=>WF.if_ O (λz=>?_) (λz=>?_)))
    ·
     have E:=A0 z E
     refine WF.rp (.inl O) (QF.mv O O (QF.addw O O O (QF.as_ O O (AA (kp [5,1,6] O) (Ap (WF.nil (λaa ww hf hw=>?_)))))))
     exact⟨(Aw ((Aw (Ce .u64 (IntKind.wrap .u64 (Aw (g+i))) 1))+1)),i,_,_,hf.sub (kp [1,5,6] O),hw,t,(m.trans D),(BA _),M,E⟩
    ·
     have E:=A3 z E
     refine WF.rp (.inl O) (QF.mv O O (QF.as_ O O (AA (kp [6,1,5] O) (Ap (WF.nil (λaa ww hf hw=>?_))))))
     exact⟨g,(Aw (Ce .u64 (IntKind.wrap .u64 (Aw (g+i))) 1)),_,_,hf.sub (kp [1,5,6] O),hw,t,(m.trans D),A,(BA _),E⟩
   ·
    have E:=A3 u E
    refine WF.exit O (λaa ww hf hw=>?_)
    exact⟨g,_,_,hf.sub (kp [5] O),hw,k,m,A,E⟩
 ·
  rintro aa ww ⟨G,Z,ab,hf,hw,F,Q,r6,E⟩
  refine WF.run ?_ hf hw
  clear hf hw ww aa
  rw[Fo] at E
  refine WF.seq (WF.rp (.inl O) (QF.mv O O (QF.as_ O O (AA (kp [4] O) (WF.ret (λaa ww hf hw=>?_))))))
  cases E
  exact DD hf hw O O Q ⟨O,r6,F⟩
theorem Ly (hs:St S L h) {c:Int}(i:AB c) {a:Value}{c1_:(List AU)}(d:Pt S h (AV.sl BB) a c1_) {b:Value}{c2_:Int}(g:Pt S h AV.int b c2_) {r:Bool}(E:DP N c1_ c2_ c=some r):
 Bf Tryz.prog 183 #[.int .i64 c,a,b] S h (λv S' h'=>v= .bool r∧St S' (L) h'):=by
 refine Ab (l:=[.int .i64 c,a,b]) 12 Tryz.func183 O Tryz.ntmps183 O λB=>?_
 rw[DP] at E
 refine WF.seq (WF.rp (.inl O) (QF.as_ O O (AA (kp [0,1,2] O) (WF.seq (WF.rp (.inr ⟨mo,by kernel_rfl⟩) (QF.ldl Af hs.1 O d GN O λo k=>QF.mv O O ?_))))))
 obtain⟨p,j,E⟩:=bd E
 refine QF.ixe O O k F8 j O λq m=>QF.fa O m Ie Gu O λs n=>QF.ldi Af hs.1 O n AL O λt=>QF.ldi Af hs.1 O g AL O λu=>QF.gtr O O O (QF.as_ O O (AA (kp [4] O) (WF.ret (λaa ww hf hw=>?_))))
 cases E
 exact DD hf hw O O (Bc.refl S h) ⟨O,hs⟩
theorem H8 (hs:St S L h) {a:Int}(c:IntKind.has .u64 a) {b:Int}(d:IntKind.has .u64 b) {r:Int×Int}(E:Ef N a b=some r):
 Bf Tryz.prog 142 #[.int .u64 a,.int .u64 b] S h (λv S' h'=>v= .tuple #[.int .u64 r.1,.int .u64 r.2]∧IntKind.has .u64 r.1∧IntKind.has .u64 r.2∧St S' (L) h'):=by
 refine Ab (l:=[.int .u64 a,.int .u64 b]) 51 Tryz.func142 O Tryz.ntmps142 O λB=>?_
 rw[Ef] at E
 refine WF.seq (WF.rp (.inl O) (QF.as_ O O (QF.as_ O O (AA (kp [0,1] O) (WF.seq (WF.rp (.inl O) (QF.mv O O (QF.andk O O O (QF.as_ O O (AA (kp [6,0,1] O) (WF.seq (WF.rp (.inl O) (QF.mv O O ?_)))))))))))))
 refine QF.shrk (j:=32) O O O O (QF.as_ O O (AA (kp [7,6,0,1] O) (WF.seq (WF.rp (.inl O) (QF.mv O O (QF.andk O O O (QF.as_ O O (AA (kp [8,7,6,0,1] O) (WF.seq (WF.rp (.inl O) (QF.mv O O (QF.shrk (j:=32) O O O O (QF.as_ O O ?_)))))))))))))
 refine AA (kp [9,8,7,6,0,1] O) (WF.seq (WF.rp (.inl O) (QF.mv O O (QF.mv O O (QF.mulk O O O (QF.as_ O O (AA (kp [10,9,8,7,6,0,1] O) (WF.seq (WF.rp (.inl O) (QF.mv O O (QF.mv O O (QF.mulk O O O (QF.mv O O ?_)))))))))))))
 refine QF.shrk (j:=32) O O O O (QF.addk O O O (QF.as_ O O (AA (kp [11,9,7,6,0,1] O) (WF.seq (WF.rp (.inl O) (QF.mv O O (QF.andk O O O (QF.as_ O O (AA (kp [12,11,9,7,6,0,1] O) (WF.seq (WF.rp (.inl O) (QF.mv O O (QF.shrk (j:=32) O O O O ?_)))))))))))))
 refine QF.as_ O O (AA (kp [13,12,9,7,6,0,1] O) (WF.seq (WF.rp (.inl O) (QF.mv O O (QF.mv O O (QF.mv O O (QF.mulk O O O (QF.addk O O O (QF.as_ O O (AA (kp [12,13,9,7,0,1] O) (WF.seq (WF.rp (.inl O) (QF.mv O O ?_)))))))))))))
 refine QF.mv O O (QF.mulk O O O (QF.mv O O (QF.addk O O O (QF.mv O O (QF.shrk (j:=32) O O O O (QF.addk O O O (QF.as_ O O (AA (kp [4,0,1] O) (WF.seq (WF.rp (.inl O) (QF.mv O O (QF.mv O O (QF.mulk O O O ?_)))))))))))))
 refine QF.as_ O O (AA (kp [5,4] O) (WF.ret (λaa ww hf hw=>?_)))
 cases E
 exact HQ hf O hw (Gk (Jj hf (v:=_) O) (Gk (Jj hf (v:=_) O) HC)) O (Bc.refl S h) ⟨O,(C8 _ _),(C8 _ _),hs⟩
theorem Ko (hs:St S L h) {b:Int}(c:IntKind.has .u64 b) {r:Int}(E:FQ N b=some r):
 Bf Tryz.prog 184 #[.int .u64 b] S h (λv S' h'=>v= .int .i64 r∧AB r∧St S' (L) h'):=by
 refine Ab (l:=[.int .u64 b]) 25 Tryz.func184 O Tryz.ntmps184 O λB=>?_
 rw[FQ] at E
 refine WF.seq (WF.rp (.inl O) (QF.as_ O O (AA (kp [2,0] O) (WF.seq (WF.seq (WF.rp (.inl O) (QF.mv O O (QF.geq O O O (AA (kp [4,2,0] O) (WF.cut (λa w=>∃(u:Int) (x:Int),IV B S h (25,[]) a w [(0,.int .u64 u),(2,.int .i64 x)] (L) λ_ _=>IntKind.has .u64 u∧AB x∧Dz N u x=some r) ?_ ?_))))))))))
 ·
  refine WF.if_ O (λD=>?_) (λD=>?_)
  ·
   have E:=A0 D E
   refine WF.seq (WF.rp (.inl O) (QF.mv O O (QF.shrk (j:=32) O O O O (QF.as_ O O (AA (kp [0] O) (WF.rp (.inl O) (QF.as_ O O (AA (kp [2,0] O) (WF.nil (λaa ww hf hw=>?_))))))))))
   exact⟨(Ce .u64 b 32),32,_,_,hf.sub (kp [0,2] O),hw,hs,(Bc.refl S h),(M1 _ c _),(iq (n:=32) O),E⟩
  ·
   have E:=A3 D E
   refine WF.skip (WF.nil (λaa ww hf hw=>?_))
   exact⟨b,0,_,_,hf.sub (kp [0,2] O),hw,hs,(Bc.refl S h),c,(iq (n:=0) O),E⟩
 ·
  rintro aa ww ⟨u,x,F,G,hf,hw,y,M,K,Q,E⟩
  refine WF.run ?_ hf hw
  clear hf hw ww aa
  rw[Dz] at E
  refine WF.seq (WF.seq (WF.rp (.inl O) (QF.mv O O (QF.geq O O O (AA (kp [8,0,2] O) (WF.cut (λa w=>∃(d:Int) (g:Int),IV B F G (25,[]) a w [(0,.int .u64 d),(2,.int .i64 g)] (L) λ_ _=>IntKind.has .u64 d∧AB g∧Dy N d g=some r) ?_ ?_))))))
  ·
   refine WF.if_ O (λp=>?_) (λp=>?_)
   ·
    have E:=A0 p E
    refine WF.seq (WF.rp (.inl O) (QF.mv O O (QF.shrk (j:=16) O O O O (QF.as_ O O (AA (kp [0,2] O) (WF.rp (.inl O) (QF.mv O O (QF.addw O O O (QF.as_ O O (AA (kp [2,0] O) (WF.nil (λaa ww hf hw=>?_))))))))))))
    exact⟨(Ce .u64 u 16),(Aw (x+16)),_,_,hf.sub (kp [0,2] O),hw,y,(Bc.refl F G),(M1 _ K _),(BA _),E⟩
   ·
    have E:=A3 p E
    refine WF.skip (WF.nil (λaa ww hf hw=>?_))
    exact⟨u,x,_,_,hf.sub (kp [0,2] O),hw,y,(Bc.refl F G),K,Q,E⟩
  ·
   rintro aa ww ⟨d,g,q,s,hf,hw,m,H,z,I,E⟩
   refine WF.run ?_ hf hw
   clear hf hw ww aa
   rw[Dy] at E
   refine WF.seq (WF.seq (WF.rp (.inl O) (QF.mv O O (QF.geq O O O (AA (kp [14,0,2] O) (WF.cut (λa w=>∃(i:Int) (k:Int),IV B q s (25,[]) a w [(0,.int .u64 i),(2,.int .i64 k)] (L) λ_ _=>IntKind.has .u64 i∧AB k∧Dx N i k=some r) ?_ ?_))))))
   ·
    refine WF.if_ O (λt=>?_) (λt=>?_)
    ·
     have E:=A0 t E
     refine WF.seq (WF.rp (.inl O) (QF.mv O O (QF.shrk (j:=8) O O O O (QF.as_ O O (AA (kp [0,2] O) (WF.rp (.inl O) (QF.mv O O (QF.addw O O O (QF.as_ O O (AA (kp [2,0] O) (WF.nil (λaa ww hf hw=>?_))))))))))))
     exact⟨(Ce .u64 d 8),(Aw (g+8)),_,_,hf.sub (kp [0,2] O),hw,m,(Bc.refl q s),(M1 _ z _),(BA _),E⟩
    ·
     have E:=A3 t E
     refine WF.skip (WF.nil (λaa ww hf hw=>?_))
     exact⟨d,g,_,_,hf.sub (kp [0,2] O),hw,m,(Bc.refl q s),z,I,E⟩
   ·
    rintro aa ww ⟨i,k,U,V,hf,hw,A,J,W,X,E⟩
    refine WF.run ?_ hf hw
    clear hf hw ww aa
    rw[Dx] at E
    refine WF.seq (WF.rp (.inl O) (QF.mv O O (QF.mv O O (QF.convk O Iv YY O ?_))))
    obtain⟨Y,o,E⟩:=bd E
    have Z:=L3 o
    refine QF.bixk O O N1 o O (QF.convk O YY LA O (QF.addw O O O (QF.as_ O O (AA (kp [2] O) (WF.ret (λaa ww hf hw=>?_))))))
    cases E
    have C:=M.trans (H.trans J)
    exact DD hf hw O O C ⟨O,(BA _),A⟩
end Go.Proofs.YtibidnaedddfdaaGreat
