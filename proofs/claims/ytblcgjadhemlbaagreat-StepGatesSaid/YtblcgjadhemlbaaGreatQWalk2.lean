import Derived.Test.YtblcgjadhemlbaaGreatQWalk1
namespace Go.Proofs.YtblcgjadhemlbaaGreat
open Go.RowKit
set_option linter.unusedVariables false
set_option linter.unusedSimpArgs false
set_option maxRecDepth 10000
set_option maxHeartbeats 2000000
variable {N:Nat}{S:Nat→Prop}{L:List HP}{h:Aq}
theorem Io (hs:St S L h) {b:Int}(d:AI b) {a:Int}(g:AI a) {r:Bool}(E:Fa N b a=some r):
 CG Tryz.prog 73 #[.int .i64 b,.int .i64 a] S h (λv S' h'=>v= .bool r∧St S' (L) h'):=by
 refine BC (l:=[.int .i64 b,.int .i64 a]) 19 Tryz.func73 O Tryz.ntmps73 O λB=>?_
 rw[Fa] at E
 refine AA (AG (.inl O) (AF O O (AD (kp [0,1] O) (AA (Bn (.inl O) hs (AB O O ?_))))))
 obtain⟨q,j,E⟩:=bd E
 refine Aw O O O JG O (λh' o=>Bp (St.all h') d j) (AB O O ?_)
 obtain⟨k,c,E⟩:=bd E
 refine AV 3 10 (.bool k) ?_ ?_
 ·cases p:q
  ·have c:=BV p c
   cases c
   exact Aa O O
  have c:=BU p c
  refine AC O O O (AB O O (AC O O O ?_))
  obtain⟨s,m,c⟩:=bd c
  refine Aw O O O JG O (λh' o=>Bp (St.all h') g m) (AO O O O ?_)
  cases c
  exact AU O
 refine AB O O (AV 7 18 (.bool (k&&((decide (a≠0))||(decide (b=0))))) ?_ ?_)
 ·cases t:k
  ·exact Aa O O
  refine AC O O O (AB O O (AC O O O (CH O O O (AC O O O (AB O O (AV 3 17 (.bool ((decide (a≠0))||(decide (b=0)))) ?_ ?_))))))
  ·cases u:(decide (a≠0))
   ·exact AC O O O (AB O O (AC O O O (Bd O O O (AC O O O (AO O O O (AU O))))))
   exact Aa O O
  exact AO O O O (AU O)
 refine AF O O (BK (kp [4] O) λw i n=>Ab (λaa ww hf hw=>?_))
 cases E
 exact Dp hf hw O O n ⟨O,i⟩
theorem F5 (hs:St S L h) {b:Int}(c:AI b) {a:Int}(d:AI a) {r:Bool}(E:EA N b a=some r):
 CG Tryz.prog 75 #[.int .i64 b,.int .i64 a] S h (λv S' h'=>v= .bool r∧St S' (L) h'):=by
 refine BC (l:=[.int .i64 b,.int .i64 a]) 9 Tryz.func75 O Tryz.ntmps75 O λB=>?_
 rw[EA] at E
 refine AA (AG (.inl O) (AF O O (AD (kp [0,1] O) (AA (Bn (.inl O) hs (AB O O (AB O O (Dg O O O ?_))))))))
 obtain⟨k,g,E⟩:=bd E
 refine Aw O O O HN O (λh' o=>Bl (St.all h') c (iq (n:=0) O) (BG _) g) (AF O O (BK (kp [4] O) λm i j=>Ab (λaa ww hf hw=>?_)))
 cases E
 exact Dp hf hw O O j ⟨O,i⟩
theorem Kw (hs:St S L h) {c:Value}{j:AZ}(i:Rd S h B0 c j) {a:Int}(k:AI a) {b:Int}(g:AI b) {r:Bool}(E:HL N j a b=some r):
 CG Tryz.prog 74 #[c,.int .i64 a,.int .i64 b] S h (λv S' h'=>v= .bool r∧St S' (L) h'):=by
 refine BC (l:=[c,.int .i64 a,.int .i64 b]) 21 Tryz.func74 O Tryz.ntmps74 O λB=>?_
 rw[HL] at E
 refine AA (Am (B1 O i (λe=>by cases e) O hs λH S2 I m z A=>AJ 1 (AF O O (AE (AX (kp [3,1,2] O) (AA (Bn (.inl O) m (AB O O (Bd O O O (AB O O ?_))))))))))
 obtain⟨C,d,E⟩:=bd E
 refine AV 11 20 (.bool C) ?_ ?_
 ·cases y:(decide (b=(-1)))
  ·have d:=BV y d
   refine AC O O O (AB O O (AC O O O (Ac O A BS DK O λJ t=>AC O O O (Ah BZ m.1 O t F9 O λD u=>AC O O O (Ag O u FA O λw=>AC O O O ?_)))))
   obtain⟨n,p,d⟩:=bd d
   refine Aw O O O O7 O (λh' o=>F5 (St.all h') g (JE w) p) (AC O O O (AB O O (AV 4 19 (.bool (n&&(decide (b≠a)))) ?_ ?_)))
   ·cases F:n
    ·exact Aa O O
    exact AC O O O (AB O O (AC O O O (AB O O (AC O O O (CH O O O (AC O O O (AO O O O (AU O))))))))
   refine AO O O O ?_
   cases d
   exact AU O
  have d:=BU y d
  cases d
  exact Aa O O
 refine AF O O (BK (kp [6] O) λG s x=>Ab (λaa ww hf hw=>?_))
 cases E
 exact Dp hf hw O O (z.trans x) ⟨O,s⟩
theorem LZ (hs:St S L h) {G:Value}{c:AZ}(aq:Rd S h B0 G c) {r:Bool}(E:G6 N c=some r):
 CG Tryz.prog 49 #[G] S h (λv S' h'=>v= .bool r∧St S' (L) h'):=by
 refine BC (l:=[G]) 122 Tryz.func49 O Tryz.ntmps49 O λB=>?_
 rw[G6] at E
 refine AA (Am (B1 O aq (λe=>by cases e) O hs λq1 S2 h3 bs e5 k6=>AJ 1 (AF O O (AE (AX (kp [1] O) (AA (AG (.inl O) (AF O O (AD (kp [3,1] O) (AA (AA (AG (.inl O) (Ac O k6 BS DK O λq7 k8=>Ah A3 bs.1 O k8 F9 O λv9 bt=>Ag O bt FA O λej=>AB O O (AD (kp [14,13,12,3,1] O) (Aj (λa w=>∃(ar:Int),IV B S2 h3 (122,[]) a w [(3,.int .i64 ar)] (L) λ_ _=>AI ar∧Bk N ar=some r) ?_ ?_)))))))))))))))
 ·refine Ay (λn1=>λa w=>∃(ab:Int) (i:Int),IV B S2 h3 (122,[]) a w [(13,.int .i64 (↑c.Places.length:Int)),(12,v9),(1,q1),(3,.int .i64 ab),(14,.int .i64 i)] (L) λ_ _=>AI ab∧AI i∧BX N c (Bk N) n1 ab i=some r) N ?_ ?_ ?_
  ·intro aa ww hf hw
   exact⟨0,0,_,_,hf.sub (kp [13,12,1,3,14] O),hw,bs,(B8.refl S2 h3),(iq (n:=0) O),(iq (n:=0) O),E⟩
  ·rintro aa ww ⟨_,_,_,_,_,_,_,_,_,_,E⟩
   rw[BX] at E;cases E
  rintro n1 aa ww ⟨ab,i,au,c3,hf,hw,ac,H,bu,c4,E⟩
  refine Ad ?_ hf hw
  clear hf hw ww aa
  rw[BX] at E
  refine AA (AG (.inl O) (A0 O O O (AD (kp [15,13,12,1,3,14] O) (AA (AW O (λa5=>?_) (λa5=>?_))))))
  ·have E:=BU a5 E
   refine AT (AA (Aj (λa w=>∃(ad:Int),IV B au c3 (122,[]) a w [(13,.int .i64 (↑c.Places.length:Int)),(12,v9),(1,q1),(14,.int .i64 i),(3,.int .i64 ad)] (L) λ_ _=>AI ad∧CB N i (BX N c (Bk N) n1) ad=some r) ?_ ?_))
   ·refine AA (Am (AJ 3 (AB O O ?_)))
    have c5:=bt.mono' H
    obtain⟨b,bv,E⟩:=bd E
    refine A8 O O c5 FA bv O λek c6=>Bw A3 ac.1 O c6 JZ (λe=>by cases e) O λel c7=>AE (Cg Nv O ac λav em bw I=>AJ 1 (AF O O (AE ?_)))
    have c8:=c7.mono I
    obtain⟨aw,ae,af,rfl,en,c9,da,db,bx,a6,dc,dd,de,df,dg,bz⟩:=Br.ex c8
    refine Ge (vs:=[.string b.Name,.int .i64 b.Kind,.int .i64 b.Office,.int .i64 b.Cap,aw,ae,.int .i64 b.Num,.int .i64 b.Den,.int .i64 b.Down,.int .i64 b.Delay,.int .i64 b.Floor,af]) (cs':=[.string b.Name,.int .i64 b.Kind,.int .i64 b.Office,.int .i64 b.Cap,aw,ae,.int .i64 b.Num,.int .i64 b.Den,.int .i64 b.Down,.int .i64 b.Delay,.int .i64 b.Floor,af]) O O O (AH O (AH O (AH O (AH O (AH bx.one (AH a6.one (AH O (AH O (AH O (AH O (AH O (AH bz.one D2)))))))))))) JZ O bw .head O O λeo d y=>AX (kp [4,5,13,12,1,3,14] O) (AA (AA (Bn (.inl O) d (AL O Wh O (AS BZ d O mh O Ae O ?_)))))
    obtain⟨dh,b0,E⟩:=bd E
    refine Aw O O O HN O (λh' o=>Bl (St.all h') c9 (iq (n:=0) O) (iq (n:=3) O) b0) (Bv O O (AB O O ?_))
    obtain⟨b1,j,E⟩:=bd E
    refine AV 5 28 (.bool b1) ?_ ?_
    ·cases b2:(!dh)
     ·have j:=BV b2 j
      refine AC O O O (AL O K9 O (AC O O O (AS BZ d O mh O Ae O (AC O O O ?_))))
      obtain⟨ep,b3,j⟩:=bd j
      refine Aw O O O HN O (λh' o=>Bl (St.all h') da (iq (n:=0) O) (iq (n:=2) O) b3) (AC O O O (Bv O O (AO O O O ?_)))
      cases j
      exact AU O
     have j:=BU b2 j
     cases j
     exact Aa O O
    refine AB O O ?_
    obtain⟨b4,k,E⟩:=bd E
    refine AV 5 34 (.bool b4) ?_ ?_
    ·cases b5:b1
     ·have k:=BV b5 k
      refine AC O O O (AL O QZ O (AC O O O (AS BZ d O mh O Ae O (AC O O O ?_))))
      obtain⟨eq,b6,k⟩:=bd k
      refine Aw O O O HN O (λh' o=>Bl (St.all h') df (iq (n:=0) O) (iq (n:=240) O) b6) (AC O O O (Bv O O (AO O O O ?_)))
      cases k
      exact AU O
     have k:=BU b5 k
     cases k
     exact Aa O O
    refine AB O O ?_
    obtain⟨b7,m,E⟩:=bd E
    refine AV 5 40 (.bool b7) ?_ ?_
    ·cases b8:b4
     ·have m:=BV b8 m
      refine AC O O O (AL O TI O (AC O O O (AS BZ d O mh O Ae O (AC O O O ?_))))
      obtain⟨er,b9,m⟩:=bd m
      refine Aw O O O JG O (λh' o=>Bp (St.all h') db b9) (AC O O O (Bv O O (AO O O O ?_)))
      cases m
      exact AU O
     have m:=BU b8 m
     cases m
     exact Aa O O
    refine AB O O ?_
    obtain⟨ca,p,E⟩:=bd E
    refine AV 5 46 (.bool ca) ?_ ?_
    ·cases cb:b7
     ·have p:=BV cb p
      refine AC O O O (AL O VF O (AC O O O (AS BZ d O mh O Ae O (AC O O O ?_))))
      obtain⟨es,cc,p⟩:=bd p
      refine Aw O O O JG O (λh' o=>Bp (St.all h') dg cc) (AC O O O (Bv O O (AO O O O ?_)))
      cases p
      exact AU O
     have p:=BU cb p
     cases p
     exact Aa O O
    refine AB O O ?_
    obtain⟨ax,s,E⟩:=bd E
    refine AV 5 52 (.bool ax) ?_ ?_
    ·cases cd:ca
     ·have s:=BV cd s
      refine AC O O O (AL O Wg O (AC O O O (AS BZ d O mh O Hz O (AC O O O ?_))))
      have di:=bx.mono' y
      obtain⟨et,ce,s⟩:=bd s
      refine Aw O O O O8 O (λh' o=>Fy (St.all h') (di.mono' (o.all d.1)) ce) (AC O O O (Bv O O (AO O O O ?_)))
      cases s
      exact AU O
     have s:=BU cd s
     cases s
     exact Aa O O
    refine AB O O (AV 8 61 (.bool (ax||(decide ((↑b.Start.length:Int)≠(↑c.Owners.length:Int))))) ?_ ?_)
    ·cases eu:ax
     ·refine AC O O O (AL O Qb O (AC O O O (AS BZ d O mh O BY O (AC O O O ?_))))
      have dj:=a6.mono' y
      refine Ag O dj BP O λev=>AC O O O ?_
      have cf:=H.trans (I.trans y)
      have dk:=k6.mono cf
      exact Ac O dk EB HS O λew dl=>AC O O O (Ah BZ d.1 O dl J6 O λey dm=>AC O O O (Ag O dm Js O λez=>AC O O O (CH O O O (AO O O O (AU O)))))
     exact Aa O O
    refine AB O O ?_
    obtain⟨cg,t,E⟩:=bd E
    refine AV 7 69 (.bool cg) ?_ ?_
    ·cases ch:(ax||(decide ((↑b.Start.length:Int)≠(↑c.Owners.length:Int))))
     ·have t:=BV ch t
      refine AC O O O (AL O Qa O (AC O O O (AS BZ d O mh O Ae O (AC O O O (AL O KY O (AC O O O (AS BZ d O mh O Ae O (AC O O O ?_))))))))
      obtain⟨e0,ci,t⟩:=bd t
      refine Aw O O O Vj O (λh' o=>Io (St.all h') dc dd ci) (AC O O O (Bv O O (AO O O O ?_)))
      cases t
      exact AU O
     have t:=BU ch t
     cases t
     exact Aa O O
    refine AB O O ?_
    obtain⟨dn,u,E⟩:=bd E
    refine AV 7 77 (.bool dn) ?_ ?_
    ·cases cj:cg
     ·have u:=BV cj u
      refine AC O O O ?_
      have ck:=H.trans (I.trans y)
      have dp:=k6.mono ck
      refine Bw BZ d.1 O dp Gp (λe=>by cases e) O λdr cl=>AC O O O (AB O O (AC O O O (AL O Oa O (AC O O O (AS BZ d O mh O Ae O (AC O O O ?_))))))
      obtain⟨ds,a7,u⟩:=bd u
      refine Aw O O O Xl O (λh' o=>Kw (St.all h') (cl.mono (o.all d.1)) c4 de a7) (AC O O O (Bv O O (AO O O O ?_)))
      cases u
      exact AU O
     have u:=BU cj u
     cases u
     exact Aa O O
    refine BK (kp [77,5,13,12,1,3,14] O) λag Q z=>AW O (λah=>?_) (λah=>?_)
    ·have E:=BU ah E
     refine AA (AG (.inl O) (AF O O (AD (kp [2] O) (Ab (λaa ww hf hw=>?_)))))
     have a8:=Q.drop .head
     cases E
     have a9:=e5.trans (H.trans (I.trans (y.trans z)))
     exact Dp hf hw O O a9 ⟨O,a8⟩
    have E:=BV ah E
    refine AT (AA (AA (AG (.inl O) (AL O Qb O (AS A3 Q O mh O BY O ?_)))))
    have ay:=a6.mono' (y.trans z)
    refine Ag O ay BP O λdt=>AB O O (AD (kp [81,80,79,5,13,12,1,3,14] O) (Aj (λa w=>∃(A:Int),IV B au ag (122,[]) a w [(5,.pointer (some ⟨av,0,none⟩)),(13,.int .i64 (↑c.Places.length:Int)),(12,v9),(1,q1),(14,.int .i64 i),(3,.int .i64 A)] (Bx av 56 [.string b.Name,.int .i64 b.Kind,.int .i64 b.Office,.int .i64 b.Cap,aw,ae,.int .i64 b.Num,.int .i64 b.Den,.int .i64 b.Down,.int .i64 b.Delay,.int .i64 b.Floor,af]::L) λ_ _=>AI A∧Db N c b (CB N i (BX N c (Bk N) n1)) A=some r) ?_ ?_))
    ·refine Ay (λn4=>λa w=>∃(F:Int) (J:Int),IV B au ag (122,[]) a w [(80,.int .i64 (↑b.Start.length:Int)),(79,ae),(5,.pointer (some ⟨av,0,none⟩)),(13,.int .i64 (↑c.Places.length:Int)),(12,v9),(1,q1),(14,.int .i64 i),(3,.int .i64 F),(81,.int .i64 J)] (Bx av 56 [.string b.Name,.int .i64 b.Kind,.int .i64 b.Office,.int .i64 b.Cap,aw,ae,.int .i64 b.Num,.int .i64 b.Den,.int .i64 b.Down,.int .i64 b.Delay,.int .i64 b.Floor,af]::L) λ_ _=>AI F∧AI J∧CX N b (Db N c b (CB N i (BX N c (Bk N) n1))) n4 F J=some r) N ?_ ?_ ?_
     ·intro aa ww hf hw
      exact⟨ab,0,_,_,hf.sub (kp [80,79,5,13,12,1,14,3,81] O),hw,Q,(B8.refl au ag),bu,(iq (n:=0) O),E⟩
     ·rintro aa ww ⟨_,_,_,_,_,_,_,_,_,_,E⟩
      rw[CX] at E;cases E
     rintro n4 aa ww ⟨F,J,du,dv,hf,hw,U,X,cm,dw,E⟩
     refine Ad ?_ hf hw
     clear hf hw ww aa
     rw[CX] at E
     refine AA (AG (.inl O) (A0 O O O (AD (kp [82,80,79,5,13,12,1,14,3,81] O) (AA (AW O (λai=>?_) (λai=>?_))))))
     ·have E:=BU ai E
      refine AT (AA (A6 (AA (AG (.inl O) ?_))))
      have cn:=ay.mono' X
      obtain⟨co,ba,E⟩:=bd E
      refine A8 O O cn BP ba O λdx cp=>Af A3 U.1 O cp Ae O λcq=>AF O O (AD (kp [7,80,79,5,13,12,1,14,3,81] O) (AA (AA (Bn (.inl O) U (AB O O ?_)))))
      obtain⟨dy,bb,E⟩:=bd E
      refine Aw O O O JG O (λh' o=>Bp (St.all h') cq bb) (Bv O O (BK (kp [87,7,80,79,5,13,12,1,14,3,81] O) λdz aj az=>AW O (λak=>?_) (λak=>?_)))
      ·have E:=BU ak E
       refine AA (AG (.inl O) (AF O O (AD (kp [2] O) (Ab (λaa ww hf hw=>?_)))))
       have bc:=aj.drop .head
       cases E
       have be:=e5.trans (H.trans (I.trans (y.trans (z.trans (X.trans az)))))
       exact Dp hf hw O O be ⟨O,bc⟩
      have E:=BV ak E
      refine AT (AG (.inl O) (AB O O (AB O O (Ap O O O (AF O O (AD (kp [3,80,79,5,13,12,1,14,81] O) (BJ (AG (.inl O) (Ap O O O (AB O O (AD (kp [81,3,80,79,5,13,12,1,14] O) (WF.nil (λaa ww hf hw=>?_)))))))))))))
      exact⟨(BD (F+co)),(BD (J+1)),_,_,hf.sub (kp [80,79,5,13,12,1,14,3,81] O),hw,aj,(X.trans az),(BG _),(BG _),E⟩
     have E:=BV ai E
     refine BB O (λaa ww hf hw=>?_)
     exact⟨F,_,_,hf.sub (kp [5,13,12,1,14,3] O),hw,U,X,cm,E⟩
    rintro aa ww ⟨A,a0,a1,hf,hw,am,Y,cr,E⟩
    refine Ad ?_ hf hw
    clear hf hw ww aa
    rw[Db] at E
    refine AA (AG (.inl O) (AF O O (AD (kp [8,5,13,12,1,14,3] O) (AA (AG (.inl O) (AL O VE O (AS A3 am O mh O ZQ O ?_)))))))
    have bf:=y.trans (z.trans Y)
    have a2:=bz.mono' bf
    refine Ag O a2 XS O λd0=>AB O O (AD (kp [95,94,93,8,13,12,1,14,3] O) (A6 (Ay (λn5=>λa w=>∃(C:Int) (K:Int),IV B a0 a1 (122,[]) a w [(94,.int .i64 (↑b.Rain.length:Int)),(93,af),(13,.int .i64 (↑c.Places.length:Int)),(12,v9),(1,q1),(14,.int .i64 i),(3,.int .i64 A),(8,.int .i64 C),(95,.int .i64 K)] (L) λ_ _=>AI C∧AI K∧CW N c b A (CB N i (BX N c (Bk N) n1)) n5 C K=some r) N ?_ ?_ ?_)))
    ·intro aa ww hf hw
     have bg:=am.drop .head
     exact⟨(-1),0,_,_,hf.sub (kp [94,93,13,12,1,14,3,8,95] O),hw,bg,(B8.refl a0 a1),(iq (n:=(-1)) O),(iq (n:=0) O),E⟩
    ·rintro aa ww ⟨_,_,_,_,_,_,_,_,_,_,E⟩
     rw[CW] at E;cases E
    rintro n5 aa ww ⟨C,K,d1,d2,hf,hw,V,M,d3,d4,E⟩
    refine Ad ?_ hf hw
    clear hf hw ww aa
    rw[CW] at E
    refine AA (AG (.inl O) (A0 O O O (AD (kp [96,94,93,13,12,1,14,3,8,95] O) (AA (AW O (λan=>?_) (λan=>?_))))))
    ·have E:=BU an E
     refine AT (AA (A6 (AA (Am (AJ 2 ?_)))))
     have cs:=a2.mono' M
     obtain⟨x,bh,E⟩:=bd E
     refine A8 O O cs XS bh O λd5 ct=>Bw A3 V.1 O ct UL (λe=>by cases e) O λd6 cu=>AE (Cg X1 O V λd7 d8 bi Z=>?_)
     have cv:=cu.mono Z
     obtain⟨rfl,⟨cw,cx⟩⟩:=Jq.ex cv
     refine DD (vs:=[.int .i64 x.Index,.int .i64 x.Area]) O O O O UL O bi .head O λd9 D ao=>AX (kp [10,94,93,13,12,1,14,3,8,95] O) (AA (AA (Bn (.inl O) D (AL O O2 O (AS BZ D O mh O Ae O (AB O O (HW O O O (AB O O (AV 6 109 (.bool ((decide (x.Index≤C))||(decide (c.Cells≤x.Index)))) ?_ ?_)))))))))
     ·cases ea:(decide (x.Index≤C))
      ·refine AC O O O (AL O O2 O (AC O O O (AS BZ D O mh O Ae O (AC O O O ?_))))
       have bj:=H.trans (I.trans (y.trans (z.trans (Y.trans (M.trans (Z.trans ao))))))
       have cy:=k6.mono bj
       exact Ac O cy KM Qf O λeb cz=>AC O O O (Af BZ D.1 O cz Ae O λec=>AC O O O (Hr O O O (AO O O O (AU O))))
      exact Aa O O
     refine AB O O ?_
     obtain⟨c0,g,E⟩:=bd E
     refine AV 5 115 (.bool c0) ?_ ?_
     ·cases a3:((decide (x.Index≤C))||(decide (c.Cells≤x.Index)))
      ·have g:=BV a3 g
       refine AC O O O (AL O VH O (AC O O O (AS BZ D O mh O Ae O (AC O O O ?_))))
       obtain⟨ed,bk,g⟩:=bd g
       refine Aw O O O JG O (λh' o=>Bp (St.all h') cx bk) (AC O O O (Bv O O (AO O O O ?_)))
       cases g
       exact AU O
      have g:=BU a3 g
      cases g
      exact Aa O O
     refine BK (kp [115,10,94,93,13,12,1,14,3,95] O) λee W a4=>AW O (λap=>?_) (λap=>?_)
     ·have E:=BU ap E
      refine AA (AG (.inl O) (AF O O (AD (kp [2] O) (Ab (λaa ww hf hw=>?_)))))
      have bl:=W.drop .head
      cases E
      have bm:=e5.trans (H.trans (I.trans (y.trans (z.trans (Y.trans (M.trans (Z.trans (ao.trans a4))))))))
      exact Dp hf hw O O bm ⟨O,bl⟩
     have E:=BV ap E
     refine AT (AG (.inl O) (AL O O2 O (AS A3 W O mh O Ae O (AF O O (AD (kp [8,94,93,13,12,1,14,3,95] O) (BJ (AG (.inl O) (Ap O O O (AB O O (AD (kp [95,8,94,93,13,12,1,14,3] O) (WF.nil (λaa ww hf hw=>?_))))))))))))
     have bn:=W.drop .head
     have bo:=M.trans (Z.trans (ao.trans a4))
     exact⟨x.Index,(BD (K+1)),_,_,hf.sub (kp [94,93,13,12,1,14,3,8,95] O),hw,bn,bo,cw,(BG _),E⟩
    have E:=BV an E
    refine KI O (WF.nil (λaa ww hf hw=>?_))
    have bp:=I.trans (y.trans (z.trans (Y.trans M)))
    exact⟨A,_,_,hf.sub (kp [13,12,1,14,3] O),hw,V,bp,cr,E⟩
   rintro aa ww ⟨ad,ef,eg,hf,hw,bq,c1,dq,E⟩
   refine Ad ?_ hf hw
   clear hf hw ww aa
   rw[CB] at E
   refine AG (.inl O) (Ap O O O (AB O O (AD (kp [14,13,12,1,3] O) (WF.nil (λaa ww hf hw=>?_)))))
   exact⟨ad,(BD (i+1)),_,_,hf.sub (kp [13,12,1,3,14] O),hw,bq,(H.trans c1),dq,(BG _),E⟩
  have E:=BV a5 E
  refine BB O (λaa ww hf hw=>?_)
  exact⟨ab,_,_,hf.sub (kp [3] O),hw,ac,H,bu,E⟩
 rintro aa ww ⟨ar,eh,ei,hf,hw,br,c2,e1,E⟩
 refine Ad ?_ hf hw
 clear hf hw ww aa
 rw[Bk] at E
 refine AA (AG (.inl O) (AB O O (HW O O O (AF O O (AD (kp [2] O) (Ab (λaa ww hf hw=>?_)))))))
 cases E
 exact Dp hf hw O O (e5.trans c2) ⟨O,br⟩
theorem OE (hs:St S L h) {d:Int}(q:AI d) {c:Value}{p:(Int→Option Bool)}(s:Rd S h (AN.fn Tryz.prog (λx:Int=>([.int .i64 x]:List Value)) (λx:Int=>AI x) (λy:Bool=> .bool y) (λy:Bool=>True)) c p) {r:Int}(E:JT N d p=some r):
 CG Tryz.prog 110 #[.int .i64 d,c] S h (λv S' h'=>v= .int .i64 r∧AI r∧St S' (L) h'):=by
 refine BC (l:=[.int .i64 d,c]) 26 Tryz.func110 O Tryz.ntmps110 O λB=>?_
 rw[JT] at E
 obtain⟨H,I,rfl,J,K⟩:=s.fn
 refine AA (AG (.inl O) (AF O O (AD (kp [0,1] O) (AA (AG (.inl O) (AB O O (AF O O (AF O O (AD (kp [6,5,1] O) (AA (Aj (λa w=>∃(G:Int),IV B S h (26,[]) a w [(5,.int .i64 G)] (L) λ_ _=>AI G∧HD N G=some r) ?_ ?_)))))))))))
 ·refine Ay (λU=>λa w=>∃(g:Int) (i:Int),IV B S h (26,[]) a w [(1,(.func (.func H) #[] I)),(5,.int .i64 g),(6,.int .i64 i)] (L) λ_ _=>AI g∧AI i∧Eu N p (HD N) U g i=some r) N ?_ ?_ ?_
  ·intro aa ww hf hw
   exact⟨0,d,_,_,hf.sub (kp [1,5,6] O),hw,hs,(B8.refl S h),(iq (n:=0) O),q,E⟩
  ·rintro aa ww ⟨_,_,_,_,_,_,_,_,_,_,E⟩
   rw[Eu] at E;cases E
  rintro U aa ww ⟨g,i,V,W,hf,hw,k,m,A,M,E⟩
  refine Ad ?_ hf hw
  clear hf hw ww aa
  rw[Eu] at E
  refine AA (AA (AG (.inl O) (AB O O (AB O O (A0 O O O (AD (kp [11,1,5,6] O) (AW O (λu=>?_) (λu=>?_))))))))
  ·have E:=BU u E
   refine AT (A6 (AA (AG (.inl O) (AB O O (AB O O (Ap O O O (G1 O Nf Ry O (II (j:=1) O O O O (G1 O Ry Nf O (AF O O (AD (kp [7,1,5,6] O) (AA (Bn (.inl O) k (AB O O (AB O O ?_)))))))))))))))
   obtain⟨X,C,E⟩:=bd E
   refine Aw O O O J O (λh' o=>K _ h' (λb hb=>Nat.lt_of_lt_of_le (k.1 b (m.sub b hb)) o.siz) (λb hb=>(o.same b (k.1 b (m.sub b hb))).trans (m.same b hb)) [] (St.all h') _ _ (BG _) C) (Bv O O (BK (kp [21,7,1,5,6] O) λY t D=>AW O (λz=>?_) (λz=>?_)))
   ·have E:=BU z E
    refine AG (.inl O) (AB O O (Ap O O O (AF O O (AD (kp [5,1,6] O) (BJ (WF.nil (λaa ww hf hw=>?_)))))))
    exact⟨(BD ((BD (Do .u64 (IntKind.wrap .u64 (BD (g+i))) 1))+1)),i,_,_,hf.sub (kp [1,5,6] O),hw,t,(m.trans D),(BG _),M,E⟩
   have E:=BV z E
   refine AG (.inl O) (AB O O (AF O O (AD (kp [6,1,5] O) (BJ (WF.nil (λaa ww hf hw=>?_))))))
   exact⟨g,(BD (Do .u64 (IntKind.wrap .u64 (BD (g+i))) 1)),_,_,hf.sub (kp [1,5,6] O),hw,t,(m.trans D),A,(BG _),E⟩
  have E:=BV u E
  refine BB O (λaa ww hf hw=>?_)
  exact⟨g,_,_,hf.sub (kp [5] O),hw,k,m,A,E⟩
 rintro aa ww ⟨G,Z,ab,hf,hw,F,Q,r6,E⟩
 refine Ad ?_ hf hw
 clear hf hw ww aa
 rw[HD] at E
 refine AA (AG (.inl O) (AB O O (AF O O (AD (kp [4] O) (Ab (λaa ww hf hw=>?_))))))
 cases E
 exact Dp hf hw O O Q ⟨O,r6,F⟩
theorem NS (hs:St S L h) {c:Int}(i:AI c) {a:Value}{c1_:(List BI)}(d:Pt S h (AN.sl Bm) a c1_) {b:Value}{c2_:Int}(g:Pt S h AN.int b c2_) {r:Bool}(E:Gk N c1_ c2_ c=some r):
 CG Tryz.prog 111 #[.int .i64 c,a,b] S h (λv S' h'=>v= .bool r∧St S' (L) h'):=by
 refine BC (l:=[.int .i64 c,a,b]) 12 Tryz.func111 O Tryz.ntmps111 O λB=>?_
 rw[Gk] at E
 refine AA (AG (.inl O) (AF O O (AD (kp [0,1,2] O) (AA (AG (.inr ⟨mo,by kernel_rfl⟩) (Ah A3 hs.1 O d Hz O λo k=>AB O O ?_))))))
 obtain⟨p,j,E⟩:=bd E
 refine A8 O O k HZ j O λq m=>Ac O m KK Ic O λs n=>Af A3 hs.1 O n Ae O λt=>Af A3 hs.1 O g Ae O λu=>CE O O O (AF O O (AD (kp [4] O) (Ab (λaa ww hf hw=>?_))))
 cases E
 exact Dp hf hw O O (B8.refl S h) ⟨O,hs⟩
theorem Jt (hs:St S L h) {a:Int}(c:IntKind.has .u64 a) {b:Int}(d:IntKind.has .u64 b) {r:Int×Int}(E:Fw N a b=some r):
 CG Tryz.prog 94 #[.int .u64 a,.int .u64 b] S h (λv S' h'=>v= .tuple #[.int .u64 r.1,.int .u64 r.2]∧IntKind.has .u64 r.1∧IntKind.has .u64 r.2∧St S' (L) h'):=by
 refine BC (l:=[.int .u64 a,.int .u64 b]) 51 Tryz.func94 O Tryz.ntmps94 O λB=>?_
 rw[Fw] at E
 refine AA (AG (.inl O) (AF O O (AF O O (AD (kp [0,1] O) (AA (AG (.inl O) (AB O O (NZ O O O (AF O O (AD (kp [6,0,1] O) (AA (AG (.inl O) (AB O O (II (j:=32) O O O O (AF O O (AD (kp [7,6,0,1] O) (AA (AG (.inl O) (AB O O (NZ O O O (AF O O (AD (kp [8,7,6,0,1] O) (AA (AG (.inl O) (AB O O (II (j:=32) O O O O (AF O O (AD (kp [9,8,7,6,0,1] O) (AA ?_)))))))))))))))))))))))))))))
 refine AG (.inl O) (AB O O (AB O O (G7 O O O (AF O O (AD (kp [10,9,8,7,6,0,1] O) (AA (AG (.inl O) (AB O O (AB O O (G7 O O O (AB O O (II (j:=32) O O O O (Ik O O O (AF O O (AD (kp [11,9,7,6,0,1] O) (AA (AG (.inl O) (AB O O (NZ O O O (AF O O (AD (kp [12,11,9,7,6,0,1] O) (AA (AG (.inl O) (AB O O (II (j:=32) O O O O (AF O O (AD (kp [13,12,9,7,6,0,1] O) (AA (AG (.inl O) ?_)))))))))))))))))))))))))))))
 refine AB O O (AB O O (AB O O (G7 O O O (Ik O O O (AF O O (AD (kp [12,13,9,7,0,1] O) (AA (AG (.inl O) (AB O O (AB O O (G7 O O O (AB O O (Ik O O O (AB O O (II (j:=32) O O O O (Ik O O O (AF O O (AD (kp [4,0,1] O) (AA (AG (.inl O) (AB O O (AB O O (G7 O O O (AF O O (AD (kp [5,4] O) (Ab (λaa ww hf hw=>?_)))))))))))))))))))))))))))
 cases E
 exact Jn hf O hw (Hn (qQ hf (v:=_) O) (Hn (qQ hf (v:=_) O) Jm)) O (B8.refl S h) ⟨O,(Dx _ _),(Dx _ _),hs⟩
theorem Ma (hs:St S L h) {b:Int}(c:IntKind.has .u64 b) {r:Int}(E:Gx N b=some r):
 CG Tryz.prog 112 #[.int .u64 b] S h (λv S' h'=>v= .int .i64 r∧AI r∧St S' (L) h'):=by
 refine BC (l:=[.int .u64 b]) 25 Tryz.func112 O Tryz.ntmps112 O λB=>?_
 rw[Gx] at E
 refine AA (AG (.inl O) (AF O O (AD (kp [2,0] O) (AA (AA (AG (.inl O) (AB O O (Hr O O O (AD (kp [4,2,0] O) (GW (λa w=>∃(u:Int) (x:Int),IV B S h (25,[]) a w [(0,.int .u64 u),(2,.int .i64 x)] (L) λ_ _=>IntKind.has .u64 u∧AI x∧Ex N u x=some r) ?_ ?_))))))))))
 ·refine AW O (λD=>?_) (λD=>?_)
  ·have E:=BU D E
   refine AA (AG (.inl O) (AB O O (II (j:=32) O O O O (AF O O (AD (kp [0] O) (AG (.inl O) (AF O O (AD (kp [2,0] O) (WF.nil (λaa ww hf hw=>?_))))))))))
   exact⟨(Do .u64 b 32),32,_,_,hf.sub (kp [0,2] O),hw,hs,(B8.refl S h),(OT _ c _),(iq (n:=32) O),E⟩
  have E:=BV D E
  refine AT (WF.nil (λaa ww hf hw=>?_))
  exact⟨b,0,_,_,hf.sub (kp [0,2] O),hw,hs,(B8.refl S h),c,(iq (n:=0) O),E⟩
 rintro aa ww ⟨u,x,F,G,hf,hw,y,M,K,Q,E⟩
 refine Ad ?_ hf hw
 clear hf hw ww aa
 rw[Ex] at E
 refine AA (AA (AG (.inl O) (AB O O (Hr O O O (AD (kp [8,0,2] O) (GW (λa w=>∃(d:Int) (g:Int),IV B F G (25,[]) a w [(0,.int .u64 d),(2,.int .i64 g)] (L) λ_ _=>IntKind.has .u64 d∧AI g∧Ew N d g=some r) ?_ ?_))))))
 ·refine AW O (λp=>?_) (λp=>?_)
  ·have E:=BU p E
   refine AA (AG (.inl O) (AB O O (II (j:=16) O O O O (AF O O (AD (kp [0,2] O) (AG (.inl O) (AB O O (Ap O O O (AF O O (AD (kp [2,0] O) (WF.nil (λaa ww hf hw=>?_))))))))))))
   exact⟨(Do .u64 u 16),(BD (x+16)),_,_,hf.sub (kp [0,2] O),hw,y,(B8.refl F G),(OT _ K _),(BG _),E⟩
  have E:=BV p E
  refine AT (WF.nil (λaa ww hf hw=>?_))
  exact⟨u,x,_,_,hf.sub (kp [0,2] O),hw,y,(B8.refl F G),K,Q,E⟩
 rintro aa ww ⟨d,g,q,s,hf,hw,m,H,z,I,E⟩
 refine Ad ?_ hf hw
 clear hf hw ww aa
 rw[Ew] at E
 refine AA (AA (AG (.inl O) (AB O O (Hr O O O (AD (kp [14,0,2] O) (GW (λa w=>∃(i:Int) (k:Int),IV B q s (25,[]) a w [(0,.int .u64 i),(2,.int .i64 k)] (L) λ_ _=>IntKind.has .u64 i∧AI k∧Ev N i k=some r) ?_ ?_))))))
 ·refine AW O (λt=>?_) (λt=>?_)
  ·have E:=BU t E
   refine AA (AG (.inl O) (AB O O (II (j:=8) O O O O (AF O O (AD (kp [0,2] O) (AG (.inl O) (AB O O (Ap O O O (AF O O (AD (kp [2,0] O) (WF.nil (λaa ww hf hw=>?_))))))))))))
   exact⟨(Do .u64 d 8),(BD (g+8)),_,_,hf.sub (kp [0,2] O),hw,m,(B8.refl q s),(OT _ z _),(BG _),E⟩
  have E:=BV t E
  refine AT (WF.nil (λaa ww hf hw=>?_))
  exact⟨d,g,_,_,hf.sub (kp [0,2] O),hw,m,(B8.refl q s),z,I,E⟩
 rintro aa ww ⟨i,k,U,V,hf,hw,A,J,W,X,E⟩
 refine Ad ?_ hf hw
 clear hf hw ww aa
 rw[Ev] at E
 refine AA (AG (.inl O) (AB O O (AB O O (G1 O Kc ZO O ?_))))
 obtain⟨Y,o,E⟩:=bd E
 have Z:=NU o
 refine NY O O PQ o O (G1 O ZO Nf O (Ap O O O (AF O O (AD (kp [2] O) (Ab (λaa ww hf hw=>?_))))))
 cases E
 have C:=M.trans (H.trans J)
 exact Dp hf hw O O C ⟨O,(BG _),A⟩
theorem Jo (hs:St S L h) {a:Int}(b:IntKind.has .u64 a) {r:Int}(E:D6 N a=some r):
 CG Tryz.prog 103 #[.int .u64 a] S h (λv S' h'=>v= .int .i64 r∧AI r∧St S' (L) h'):=by
 refine BC (l:=[.int .u64 a]) 6 Tryz.func103 O Tryz.ntmps103 O λB=>?_
 rw[D6] at E
 refine AA (AG (.inl O) (AF O O (AD (kp [0] O) (AA (Bn (.inl O) hs (AB O O ?_))))))
 obtain⟨j,c,E⟩:=bd E
 refine CM O O O Yj O (λh' o=>Ma (St.all h') b c) λg=>?_
 have k:=g
 refine Dg O O O (AF O O (BK (kp [2] O) λm d i=>Ab (λaa ww hf hw=>?_)))
 cases E
 exact Dp hf hw O O i ⟨O,(BG _),d⟩
theorem Ju (hs:St S L h) {d:Int}(Y:IntKind.has .u64 d) {b:Int}(u:IntKind.has .u64 b) {c:Int}(z:IntKind.has .u64 c) {r:Int×Int}(E:EV N d b c=some r):
 CG Tryz.prog 95 #[.int .u64 d,.int .u64 b,.int .u64 c] S h (λv S' h'=>v= .tuple #[.int .u64 r.1,.int .u64 r.2]∧IntKind.has .u64 r.1∧IntKind.has .u64 r.2∧St S' (L) h'):=by
 refine BC (l:=[.int .u64 d,.int .u64 b,.int .u64 c]) 135 Tryz.func95 O Tryz.ntmps95 O λB=>?_
 rw[EV] at E
 refine AA (AG (.inl O) (AF O O (AF O O (AD (kp [0,1,2] O) (AA (AA (AG (.inl O) (AB O O (Bd O O O (AD (kp [20,0,1,2] O) (AW O (λc1=>?_) (λc1=>?_))))))))))))
 ·have E:=BU c1 E
  cases E
 have E:=BV c1 E
 refine AT (AA (AA (AG (.inl O) (AB O O (AB O O (HW O O O (AD (kp [24,0,1,2] O) (AW O (λc2=>?_) (λc2=>?_)))))))))
 ·have E:=BU c2 E
  cases E
 have E:=BV c2 E
 refine AT (AA (AA (AG (.inl O) (AB O O (Bd O O O (AD (kp [27,0,1,2] O) (AW O (λc3=>?_) (λc3=>?_))))))))
 ·have E:=BU c3 E
  refine AA (AG (.inr ⟨mo,by kernel_rfl⟩) (AB O O (AB O O ?_)))
  obtain⟨z4,Z,E⟩:=bd E
  have r5:IntKind.has .u64 z4:=Lq Z
  refine Qr O O O Z (AB O O (AB O O ?_))
  obtain⟨z6,ab,E⟩:=bd E
  have r7:IntKind.has .u64 z6:=Ul u ab
  refine Wy O O O ab (AF O O (AF O O (AD (kp [7,6] O) (Ab (λaa ww hf hw=>?_)))))
  cases E
  exact Jn hf O hw (Hn (qQ hf (v:=_) O) (Hn (qQ hf (v:=_) O) Jm)) O (B8.refl S h) ⟨O,r5,r7,hs⟩
 have E:=BV c3 E
 refine AT (AA (Bn (.inl O) hs (AB O O ?_)))
 obtain⟨C,al,E⟩:=bd E
 refine CM O O O Yq O (λh' o=>Jo (St.all h') z al) λr9=>?_
 have aw:=r9
 refine G1 O Nf Ry O (AF O O (BK (kp [8,0,1,2] O) λG ac am=>AA (AG (.inl O) (AB O O (AB O O ?_)))))
 obtain⟨g,ad,E⟩:=bd E
 refine Qq (j:=g) O O O ad (AF O O (AD (kp [2,8,0,1] O) (AA (AG (.inl O) (AB O O (II (j:=32) O O O O (AF O O (AD (kp [9,2,8,0,1] O) (AA (AG (.inl O) (AB O O (NZ O O O (AF O O (AD (kp [10,9,2,8,0,1] O) (AA (AG (.inl O) (AB O O (AB O O ?_))))))))))))))))))
 obtain⟨k,ae,E⟩:=bd E
 refine Qq (j:=k) O O O ae (AB O O (AB O O (LI O O O ?_)))
 obtain⟨m,af,E⟩:=bd E
 refine II (j:=m) O O O af (Y1 O O O (AF O O (AD (kp [11,10,9,2,8,1] O) (AA (AG (.inl O) (AB O O (AB O O ?_)))))))
 obtain⟨i,ag,E⟩:=bd E
 refine Qq (j:=i) O O O ag (AF O O (AD (kp [12,11,10,9,2,8] O) (AA (AG (.inl O) (AB O O (II (j:=32) O O O O (AF O O (AD (kp [13,12,11,10,9,2,8] O) (AA (AG (.inl O) (AB O O (NZ O O O (AF O O (AD (kp [14,13,11,10,9,2,8] O) (AA (AG (.inl O) (AB O O (AB O O ?_))))))))))))))))))
 obtain⟨H,D,E⟩:=bd E
 have an:IntKind.has .u64 H:=Lq D
 refine Qr O O O D (AF O O (AD (kp [15,14,13,11,10,9,2,8] O) (AA (AG (.inl O) (AB O O (AB O O (AB O O (G7 O O O (LI O O O (AF O O (AD (kp [16,15,14,13,11,10,9,2,8] O) (AA (Aj (λa w=>∃(n:Int),IV B S G (135,[]) a w [(14,.int .u64 (Gd .and .u64 (Cx .u64 b i) 4294967295)),(13,.int .u64 (Do .u64 (Cx .u64 b i) 32)),(11,.int .u64 (Gd .or .u64 (Cx .u64 d k) (Do .u64 b m))),(10,.int .u64 (Gd .and .u64 (Cx .u64 c g) 4294967295)),(9,.int .u64 (Do .u64 (Cx .u64 c g) 32)),(2,.int .u64 (Cx .u64 c g)),(8,.int .u64 (IntKind.wrap .u64 C)),(15,.int .u64 n)] (L) λ_ _=>IntKind.has .u64 n∧C4 N d b c C g k m i n=some r) ?_ ?_)))))))))))))
 ·refine Ay (λn1=>λa w=>∃(p:Int) (s:Int),IV B S G (135,[]) a w [(14,.int .u64 (Gd .and .u64 (Cx .u64 b i) 4294967295)),(13,.int .u64 (Do .u64 (Cx .u64 b i) 32)),(11,.int .u64 (Gd .or .u64 (Cx .u64 d k) (Do .u64 b m))),(10,.int .u64 (Gd .and .u64 (Cx .u64 c g) 4294967295)),(9,.int .u64 (Do .u64 (Cx .u64 c g) 32)),(2,.int .u64 (Cx .u64 c g)),(8,.int .u64 (IntKind.wrap .u64 C)),(15,.int .u64 p),(16,.int .u64 s)] (L) λ_ _=>IntKind.has .u64 p∧IntKind.has .u64 s∧Cf N b c g i (C4 N d b c C g k m i) n1 p s=some r) N ?_ ?_ ?_
  ·intro aa ww hf hw
   exact⟨H,(IntKind.wrap .u64 ((Gd .or .u64 (Cx .u64 d k) (Do .u64 b m))-(IntKind.wrap .u64 (H*(Do .u64 (Cx .u64 c g) 32))))),_,_,hf.sub (kp [14,13,11,10,9,2,8,15,16] O),hw,ac,(B8.refl S G),an,(Dx _ _),E⟩
  ·rintro aa ww ⟨_,_,_,_,_,_,_,_,_,_,E⟩
   rw[Cf] at E;cases E
  rintro n1 aa ww ⟨p,s,ax,ay,hf,hw,x,I,ao,az,E⟩
  refine Ad ?_ hf hw
  clear hf hw ww aa
  rw[Cf] at E
  refine AA (AA (AG (.inl O) (AB O O (Hr O O O (AB O O (AV 9 78 (.bool ((decide (4294967296≤p))||(decide ((IntKind.wrap .u64 ((IntKind.wrap .u64 (4294967296*s))+(Do .u64 (Cx .u64 b i) 32)))<(IntKind.wrap .u64 (p*(Gd .and .u64 (Cx .u64 c g) 4294967295))))))) ?_ ?_))))))
  ·cases a0:(decide (4294967296≤p))
   ·exact AC O O O (AB O O (AC O O O (AB O O (AC O O O (G7 O O O (AC O O O (AB O O (AC O O O (G7 O O O (AC O O O (AB O O (AC O O O (Ik O O O (AC O O O (CE O O O (AO O O O (AU O)))))))))))))))))
   exact Aa O O
  refine AD (kp [78,14,13,11,10,9,2,8,15,16] O) (AW O (λJ=>?_) (λJ=>?_))
  ·have E:=BU J E
   refine AT (A6 (AA (AG (.inl O) (AB O O (LI O O O (AF O O (AD (kp [15,14,13,11,10,9,2,8,16] O) (AA (AG (.inl O) (AB O O (AB O O (Ik O O O (AF O O (AD (kp [16,15,14,13,11,10,9,2,8] O) (AA (AG (.inl O) (AB O O (Hr O O O (AD (kp [85,16,15,14,13,11,10,9,2,8] O) (AW O (λK=>?_) (λK=>?_)))))))))))))))))))))
   ·have E:=BU K E
    refine BB O (λaa ww hf hw=>?_)
    exact⟨(IntKind.wrap .u64 (p-1)),_,_,hf.sub (kp [14,13,11,10,9,2,8,15] O),hw,x,I,(Dx _ _),E⟩
   have E:=BV K E
   refine AT (BJ (WF.nil (λaa ww hf hw=>?_)))
   exact⟨(IntKind.wrap .u64 (p-1)),(IntKind.wrap .u64 (s+(Do .u64 (Cx .u64 c g) 32))),_,_,hf.sub (kp [14,13,11,10,9,2,8,15,16] O),hw,x,I,(Dx _ _),(Dx _ _),E⟩
  have E:=BV J E
  refine BB O (λaa ww hf hw=>?_)
  exact⟨p,_,_,hf.sub (kp [14,13,11,10,9,2,8,15] O),hw,x,I,ao,E⟩
 rintro aa ww ⟨n,M,Q,hf,hw,ah,ap,a1,E⟩
 refine Ad ?_ hf hw
 clear hf hw ww aa
 rw[C4] at E
 refine AA (AG (.inl O) (AB O O (G7 O O O (AB O O (Ik O O O (AB O O (AB O O (G7 O O O (LI O O O (AF O O (AD (kp [17,14,10,9,2,8,15] O) (AA (AG (.inl O) (AB O O (AB O O ?_)))))))))))))))
 obtain⟨U,F,E⟩:=bd E
 have aq:IntKind.has .u64 U:=Lq F
 refine Qr O O O F (AF O O (AD (kp [18,17,14,10,9,2,8,15] O) (AA (AG (.inl O) (AB O O (AB O O (AB O O (G7 O O O (LI O O O (AF O O (AD (kp [16,18,17,14,10,9,2,8,15] O) (AA (Aj (λa w=>∃(A:Int),IV B M Q (135,[]) a w [(17,.int .u64 (IntKind.wrap .u64 ((IntKind.wrap .u64 ((IntKind.wrap .u64 ((Gd .or .u64 (Cx .u64 d k) (Do .u64 b m))*4294967296))+(Do .u64 (Cx .u64 b i) 32)))-(IntKind.wrap .u64 (n*(Cx .u64 c g)))))),(14,.int .u64 (Gd .and .u64 (Cx .u64 b i) 4294967295)),(2,.int .u64 (Cx .u64 c g)),(8,.int .u64 (IntKind.wrap .u64 C)),(15,.int .u64 n),(18,.int .u64 A)] (L) λ_ _=>IntKind.has .u64 A∧D7 N d b c C g k m i n A=some r) ?_ ?_)))))))))))))
 ·refine Ay (λn3=>λa w=>∃(t:Int) (q:Int),IV B M Q (135,[]) a w [(17,.int .u64 (IntKind.wrap .u64 ((IntKind.wrap .u64 ((IntKind.wrap .u64 ((Gd .or .u64 (Cx .u64 d k) (Do .u64 b m))*4294967296))+(Do .u64 (Cx .u64 b i) 32)))-(IntKind.wrap .u64 (n*(Cx .u64 c g)))))),(14,.int .u64 (Gd .and .u64 (Cx .u64 b i) 4294967295)),(10,.int .u64 (Gd .and .u64 (Cx .u64 c g) 4294967295)),(9,.int .u64 (Do .u64 (Cx .u64 c g) 32)),(2,.int .u64 (Cx .u64 c g)),(8,.int .u64 (IntKind.wrap .u64 C)),(15,.int .u64 n),(16,.int .u64 t),(18,.int .u64 q)] (L) λ_ _=>IntKind.has .u64 t∧IntKind.has .u64 q∧C3 N b c g i (D7 N d b c C g k m i n) n3 t q=some r) N ?_ ?_ ?_
  ·intro aa ww hf hw
   exact⟨(IntKind.wrap .u64 ((IntKind.wrap .u64 ((IntKind.wrap .u64 ((IntKind.wrap .u64 ((Gd .or .u64 (Cx .u64 d k) (Do .u64 b m))*4294967296))+(Do .u64 (Cx .u64 b i) 32)))-(IntKind.wrap .u64 (n*(Cx .u64 c g)))))-(IntKind.wrap .u64 (U*(Do .u64 (Cx .u64 c g) 32))))),U,_,_,hf.sub (kp [17,14,10,9,2,8,15,16,18] O),hw,ah,(B8.refl M Q),(Dx _ _),aq,E⟩
  ·rintro aa ww ⟨_,_,_,_,_,_,_,_,_,_,E⟩
   rw[C3] at E;cases E
  rintro n3 aa ww ⟨t,q,a2,a3,hf,hw,y,V,a4,ar,E⟩
  refine Ad ?_ hf hw
  clear hf hw ww aa
  rw[C3] at E
  refine AA (AA (AG (.inl O) (AB O O (Hr O O O (AB O O (AV 9 113 (.bool ((decide (4294967296≤q))||(decide ((IntKind.wrap .u64 ((IntKind.wrap .u64 (4294967296*t))+(Gd .and .u64 (Cx .u64 b i) 4294967295)))<(IntKind.wrap .u64 (q*(Gd .and .u64 (Cx .u64 c g) 4294967295))))))) ?_ ?_))))))
  ·cases a5:(decide (4294967296≤q))
   ·exact AC O O O (AB O O (AC O O O (AB O O (AC O O O (G7 O O O (AC O O O (AB O O (AC O O O (G7 O O O (AC O O O (AB O O (AC O O O (Ik O O O (AC O O O (CE O O O (AO O O O (AU O)))))))))))))))))
   exact Aa O O
  refine AD (kp [113,17,14,10,9,2,8,15,16,18] O) (AW O (λW=>?_) (λW=>?_))
  ·have E:=BU W E
   refine AT (A6 (AA (AG (.inl O) (AB O O (LI O O O (AF O O (AD (kp [18,17,14,10,9,2,8,15,16] O) (AA (AG (.inl O) (AB O O (AB O O (Ik O O O (AF O O (AD (kp [16,18,17,14,10,9,2,8,15] O) (AA (AG (.inl O) (AB O O (Hr O O O (AD (kp [120,16,18,17,14,10,9,2,8,15] O) (AW O (λX=>?_) (λX=>?_)))))))))))))))))))))
   ·have E:=BU X E
    refine BB O (λaa ww hf hw=>?_)
    exact⟨(IntKind.wrap .u64 (q-1)),_,_,hf.sub (kp [17,14,2,8,15,18] O),hw,y,V,(Dx _ _),E⟩
   have E:=BV X E
   refine AT (BJ (WF.nil (λaa ww hf hw=>?_)))
   exact⟨(IntKind.wrap .u64 (t+(Do .u64 (Cx .u64 c g) 32))),(IntKind.wrap .u64 (q-1)),_,_,hf.sub (kp [17,14,10,9,2,8,15,16,18] O),hw,y,V,(Dx _ _),(Dx _ _),E⟩
  have E:=BV W E
  refine BB O (λaa ww hf hw=>?_)
  exact⟨q,_,_,hf.sub (kp [17,14,2,8,15,18] O),hw,y,V,ar,E⟩
 rintro aa ww ⟨A,a6,a7,hf,hw,ai,au,a8,E⟩
 refine Ad ?_ hf hw
 clear hf hw ww aa
 rw[D7] at E
 refine AA (AG (.inl O) (AB O O (G7 O O O (AB O O (Ik O O O (AB O O (G7 O O O (AB O O (Ik O O O (AB O O (AB O O (G7 O O O (LI O O O (AB O O ?_))))))))))))))
 obtain⟨av,aj,E⟩:=bd E
 refine II (j:=av) O O O aj (AF O O (AF O O (AD (kp [7,6] O) (Ab (λaa ww hf hw=>?_)))))
 cases E
 have ak:=am.trans (ap.trans au)
 exact Jn hf O hw (Hn (qQ hf (v:=_) O) (Hn (qQ hf (v:=_) O) Jm)) O ak ⟨O,(Dx _ _),(OT _ (Dx _ _) _),ai⟩
end Go.Proofs.YtblcgjadhemlbaaGreat
