import Derived.Test.YtblcgjadhemlbaaGreatQWalk2
namespace Go.Proofs.YtblcgjadhemlbaaGreat
open Go.RowKit
set_option linter.unusedVariables false
set_option linter.unusedSimpArgs false
set_option maxRecDepth 10000
set_option maxHeartbeats 2000000
variable {N:Nat}{S:Nat→Prop}{L:List HP}{h:Aq}
theorem Hf (hs:St S L h) {b:Int}(w:AI b) {a:Int}(q:AI a) {c:Int}(s:AI c) {r:Int×Int×Bool}(E:Ec N b a c=some r):
 CG Tryz.prog 88 #[.int .i64 b,.int .i64 a,.int .i64 c] S h (λv S' h'=>v= .tuple #[.int .i64 r.1,.int .i64 r.2.1,.bool r.2.2]∧AI r.1∧AI r.2.1∧St S' (L) h'):=by
 refine BC (l:=[.int .i64 b,.int .i64 a,.int .i64 c]) 61 Tryz.func88 O Tryz.ntmps88 O λB=>?_
 rw[Ec] at E
 refine AA (AG (.inl O) (AF O O (AF O O (AF O O (AD (kp [0,1,2] O) (AA (AA (AG (.inl O) (AB O O (A0 O O O (AB O O (AV 3 18 (.bool ((decide (b<0))||(decide (1125899906842624<b)))) ?_ ?_))))))))))))
 ·cases K:(decide (b<0))
  ·exact AC O O O (AB O O (AC O O O (CE O O O (AO O O O (AU O)))))
  exact Aa O O
 refine AB O O (AV 3 22 (.bool (((decide (b<0))||(decide (1125899906842624<b)))||(decide (a<0)))) ?_ ?_)
 ·cases M:((decide (b<0))||(decide (1125899906842624<b)))
  ·exact AC O O O (AB O O (AC O O O (A0 O O O (AO O O O (AU O)))))
  exact Aa O O
 refine AB O O (AV 3 26 (.bool ((((decide (b<0))||(decide (1125899906842624<b)))||(decide (a<0)))||(decide (1125899906842624<a)))) ?_ ?_)
 ·cases Q:(((decide (b<0))||(decide (1125899906842624<b)))||(decide (a<0)))
  ·exact AC O O O (AB O O (AC O O O (CE O O O (AO O O O (AU O)))))
  exact Aa O O
 refine AB O O (AV 3 30 (.bool (((((decide (b<0))||(decide (1125899906842624<b)))||(decide (a<0)))||(decide (1125899906842624<a)))||(decide (c<1)))) ?_ ?_)
 ·cases U:((((decide (b<0))||(decide (1125899906842624<b)))||(decide (a<0)))||(decide (1125899906842624<a)))
  ·exact AC O O O (AB O O (AC O O O (A0 O O O (AO O O O (AU O)))))
  exact Aa O O
 refine AB O O (AV 3 34 (.bool ((((((decide (b<0))||(decide (1125899906842624<b)))||(decide (a<0)))||(decide (1125899906842624<a)))||(decide (c<1)))||(decide (1125899906842624<c)))) ?_ ?_)
 ·cases V:(((((decide (b<0))||(decide (1125899906842624<b)))||(decide (a<0)))||(decide (1125899906842624<a)))||(decide (c<1)))
  ·exact AC O O O (AB O O (AC O O O (CE O O O (AO O O O (AU O)))))
  exact Aa O O
 refine AD (kp [34,0,1,2] O) (AW O (λy=>?_) (λy=>?_))
 ·have E:=BU y E
  refine AA (AG (.inl O) (AF O O (AF O O (AF O O (AD (kp [8,7,6] O) (Ab (λaa ww hf hw=>?_)))))))
  cases E
  exact Jn hf O hw (Hn (qQ hf (v:=_) O) (Hn (qQ hf (v:=_) O) (Hn (qQ hf (v:=_) O) Jm))) O (B8.refl S h) ⟨O,(iq (n:=0) O),(iq (n:=0) O),hs⟩
 have E:=BV y E
 refine AT (AA (Bn (.inl O) hs (AB O O (G1 O Nf Kc O (AB O O (G1 O Nf Kc O ?_))))))
 obtain⟨x,z,E⟩:=bd E
 refine Hh (v:= .tuple #[.int .u64 x.1,.int .u64 x.2]) (Ψ:=IntKind.has .u64 x.1∧IntKind.has .u64 x.2) O O O Xf O (λh' o=>(Jt (St.all h') (Dx _ _) (Dx _ _) z).mono λ_ _ _ _ p=>⟨p.1,⟨p.2.1,p.2.2.1⟩⟩) λD=>?_
 obtain⟨F,A⟩:=D
 refine AB O O (CJ O O O (CJ O O O (AF O O (AF O O (BK (kp [10,9,2] O) λG g j=>AA (AA (AG (.inl O) (AB O O (AB O O (G1 O Nf Kc O (Hr O O O (AD (kp [46,10,9,2] O) (AW O (λk=>?_) (λk=>?_))))))))))))))
 ·have E:=BU k E
  refine AA (AG (.inl O) (AF O O (AF O O (AF O O (AD (kp [8,7,6] O) (Ab (λaa ww hf hw=>?_)))))))
  cases E
  exact Jn hf O hw (Hn (qQ hf (v:=_) O) (Hn (qQ hf (v:=_) O) (Hn (qQ hf (v:=_) O) Jm))) O j ⟨O,(iq (n:=0) O),(iq (n:=0) O),g⟩
 have E:=BV k E
 refine AT (AA (Bn (.inl O) g (AB O O (AB O O (AB O O (G1 O Nf Kc O ?_))))))
 obtain⟨d,t,E⟩:=bd E
 refine Hh (v:= .tuple #[.int .u64 d.1,.int .u64 d.2]) (Ψ:=IntKind.has .u64 d.1∧IntKind.has .u64 d.2) O O O Xe O (λh' o=>(Ju (St.all h') F A (Dx _ _) t).mono λ_ _ _ _ p=>⟨p.1,⟨p.2.1,p.2.2.1⟩⟩) λC=>?_
 obtain⟨H,I⟩:=C
 refine AB O O (CJ O O O (CJ O O O (AF O O (AF O O (BK (kp [12,11] O) λJ i u=>AA (AA (AG (.inl O) (AB O O (CE O O O (AD (kp [56,12,11] O) (AW O (λm=>?_) (λm=>?_))))))))))))
 ·have E:=BU m E
  refine AA (AG (.inl O) (AF O O (AF O O (AF O O (AD (kp [8,7,6] O) (Ab (λaa ww hf hw=>?_)))))))
  cases E
  exact Jn hf O hw (Hn (qQ hf (v:=_) O) (Hn (qQ hf (v:=_) O) (Hn (qQ hf (v:=_) O) Jm))) O (j.trans u) ⟨O,(iq (n:=0) O),(iq (n:=0) O),i⟩
 have E:=BV m E
 refine AT (AA (AG (.inl O) (AB O O (G1 O Kc Nf O (AB O O (G1 O Kc Nf O (AF O O (AF O O (AF O O (AD (kp [8,7,6] O) (Ab (λaa ww hf hw=>?_))))))))))))
 cases E
 exact Jn hf O hw (Hn (qQ hf (v:=_) O) (Hn (qQ hf (v:=_) O) (Hn (qQ hf (v:=_) O) Jm))) O (j.trans u) ⟨O,(BG _),(BG _),i⟩
theorem Jp (hs:St S L h) {d:Value}{i:(List BI)}(n:Sl S h Bm d i) {b:Int}(s:AI b) {r:Int×Bool}(E:G2 N i b=some r):
 CG Tryz.prog 102 #[d,.int .i64 b] S h (λv S' h'=>v= .tuple #[.int .i64 r.1,.bool r.2]∧AI r.1∧St S' (L) h'):=by
 refine BC (l:=[d,.int .i64 b]) 63 Tryz.func102 O Tryz.ntmps102 O λB=>?_
 rw[G2] at E
 refine AA (Am (B1 O (MT n) (λ_=>rfl) O hs λq1 S2 h3 ag e5 k6=>B1 O (⟨_,O,O,s⟩:Rd _ _ AN.int _ b) (λ_=>rfl) O ag λq7 S8 h9 j t F=>AJ 2 (AF O O (AF O O (AE (AX (kp [3,2] O) (AA (Bn (.inl O) j ?_))))))))
 have u:=k6.mono t
 refine Ah BZ j.1 O u Hz O λa7 ah=>Ag O ah HZ O λai=>Ns O O O ?_
 have G:Rd S8 h9 (AN.fn Tryz.prog (λx:Int=>([.int .i64 x]:List Value)) (λx:Int=>AI x) (λy:Bool=> .bool y) (λy:Bool=>True)) (.func (.func 111) #[] #[q1,q7]) (λx=>Gk N i b x):=Rd.ofFn 111 #[q1,q7] Yk λS' h' s' e' L hs x y h1 h2=>(NS hs h1 (u.mono'' s' e') (F.mono'' s' e') h2).mono λ_ _ _ _ p=>⟨p.1,trivial,p.2⟩
 obtain⟨a8,H,E⟩:=bd E
 refine CM O O O Yl O (λh' o=>OE (St.all h') (JE ai) (G.mono (o.all j.1)) H) λaj=>?_
 have a9:=aj
 refine AF O O (BK (kp [6,3,2] O) λba c g=>AA (AA (AG (.inl O) (AB O O (Bd O O O (AD (kp [16,6,3,2] O) (AW O (λA=>?_) (λA=>?_))))))))
 ·have E:=BU A E
  refine AA (AG (.inl O) ?_)
  have ak:=u.mono g
  refine Ah A3 c.1 O ak Hz O λbb am=>?_
  obtain⟨bc,I,E⟩:=bd E
  refine A8 O O am HZ I O λbe an=>Ac O an KJ Hu O λbf ao=>Af A3 c.1 O ao Ae O λap=>AF O O (AF O O (AD (kp [5,4] O) (Ab (λaa ww hf hw=>?_))))
  cases E
  have J:=e5.trans (t.trans g)
  exact Jn hf O hw (Hn (qQ hf (v:=_) O) (Hn (qQ hf (v:=_) O) Jm)) O J ⟨O,ap,c⟩
 have E:=BV A E
 refine AT (AA (Am (AJ 5 ?_)))
 have K:=u.mono g
 refine Ah A3 c.1 O K Hz O λbg aq=>AB O O (Dg O O O ?_)
 obtain⟨M,Q,E⟩:=bd E
 refine A8 O O aq HZ Q O λbh ar=>Bw A3 c.1 O ar Ny (λe=>by cases e) O λbi au=>AE (Cg Se O c λbj bk U k=>?_)
 have av:=au.mono k
 obtain⟨rfl,⟨bl,aw⟩⟩:=Bm.ex av
 refine DD (vs:=[.int .i64 M.X,.int .i64 M.Y]) O O O O Ny O U .head O λbm a w=>AX (kp [7,6,3,2] O) (AA (AA (AG (.inl O) (AB O O ?_))))
 have C:=K.mono (k.trans w)
 refine Ah A3 a.1 O C Hz O λbn ax=>Ag O ax HZ O λbo=>Bd O O O (AD (kp [29,7,6,3,2] O) (AW O (λD=>?_) (λD=>?_)))
 ·have E:=BU D E
  refine AA (AG (.inl O) (AL O Hu O (AS A3 a O mh O Ae O (AF O O (AF O O (AD (kp [5,4] O) (Ab (λaa ww hf hw=>?_))))))))
  have V:=a.drop .head
  cases E
  have W:=e5.trans (t.trans (g.trans (k.trans w)))
  exact Jn hf O hw (Hn (qQ hf (v:=_) O) (Hn (qQ hf (v:=_) O) Jm)) O W ⟨O,aw,V⟩
 have E:=BV D E
 refine AT (AA (Bn (.inr ⟨mo,by kernel_rfl⟩) a ?_))
 have Z:=g.trans (k.trans w)
 have ay:=F.mono Z
 refine Af BZ a.1 O ay Ae O λbp=>AL O Ic O (AS BZ a O mh O Ae O (Dg O O O (Ah BZ a.1 O C Hz O λbq az=>AB O O ?_)))
 obtain⟨br,ab,E⟩:=bd E
 refine A8 O O az HZ ab O λbs a0=>Ac O a0 KJ Hu O λbt a1=>Af BZ a.1 O a1 Ae O λbu=>AL O Hu O (AS BZ a O mh O Ae O (Dg O O O (Ah BZ a.1 O C Hz O λbv a2=>AB O O ?_)))
 obtain⟨bw,ac,E⟩:=bd E
 refine A8 O O a2 HZ ac O λbx a3=>Ac O a3 KK Ic O λbz a4=>Af BZ a.1 O a4 Ae O λb0=>AL O Ic O (AS BZ a O mh O Ae O (Dg O O O ?_))
 obtain⟨m,ad,E⟩:=bd E
 refine Hh (v:= .tuple #[.int .i64 m.1,.int .i64 m.2.1,.bool m.2.2]) (Ψ:=AI m.1∧AI m.2.1) O O O Rn O (λh' o=>(Hf (St.all h') (BG _) (BG _) (BG _) ad).mono λ_ _ _ _ p=>⟨p.1,⟨p.2.1,p.2.2.1⟩⟩) λa5=>?_
 obtain⟨b1,b2⟩:=a5
 refine AB O O (CJ O O O (CJ O O O (CJ O O O (AF O O (AF O O (AF O O (BK (kp [9,8,7] O) λb3 z a6=>AA (AG (.inl O) (AL O Hu O (AS A3 z O mh O Ae O (AB O O (Ap O O O (AB O O (CE O O O (AF O O (AF O O (AD (kp [5,4] O) (Ab (λaa ww hf hw=>?_)))))))))))))))))))
 have ae:=z.drop .head
 cases E
 have af:=e5.trans (t.trans (g.trans (k.trans (w.trans a6))))
 exact Jn hf O hw (Hn (qQ hf (v:=_) O) (Hn (qQ hf (v:=_) O) Jm)) O af ⟨O,(BG _),ae⟩
theorem LO (hs:St S L h) {b:Value}{d:(List BI)}(i:Sl S h Bm b d) {c:Value}{g:(List BI)}(j:Sl S h Bm c g) {r:Bool}(E:GK N d g=some r):
 CG Tryz.prog 93 #[b,c] S h (λv S' h'=>v= .bool r∧St S' (L) h'):=by
 refine BC (l:=[b,c]) 66 Tryz.func93 O Tryz.ntmps93 O λB=>?_
 rw[GK] at E
 refine AA (AG (.inl O) (AF O O (AD (kp [0,1] O) (AA (AA (Bn (.inl O) hs (AB O O ?_)))))))
 obtain⟨y1,a6,E⟩:=bd E
 refine Aw O O O O8 O (λh' o=>Fy (St.all h') (i.mono' (o.all hs.1)) a6) (Bv O O (AB O O ?_))
 obtain⟨b4,k,E⟩:=bd E
 refine AV 4 20 (.bool b4) ?_ ?_
 ·cases c3:(!y1)
  ·have k:=BV c3 k
   refine AC O O O (AB O O (AC O O O ?_))
   obtain⟨y5,a7,k⟩:=bd k
   refine Aw O O O O8 O (λh' o=>Fy (St.all h') (j.mono' (o.all hs.1)) a7) (AC O O O (Bv O O (AO O O O ?_)))
   cases k
   exact AU O
  have k:=BU c3 k
  cases k
  exact Aa O O
 refine BK (kp [20,0,1] O) λh7 af J=>AW O (λK=>?_) (λK=>?_)
 ·have E:=BU K E
  refine AA (AG (.inl O) (AF O O (AD (kp [4] O) (Ab (λaa ww hf hw=>?_)))))
  cases E
  exact Dp hf hw O O J ⟨O,af⟩
 have E:=BV K E
 refine AT (AA (AA (AG (.inl O) (AB O O ?_))))
 have ag:=i.mono' J
 refine Ag O ag HZ O λbo=>AB O O (AD (kp [23,22,21,0,1] O) (Aj (λa w=>IV B S h7 (66,[]) a w [(0,b),(1,c)] (L) λ_ _=>E0 N d g=some r) ?_ ?_))
 ·refine Ay (λn1=>λa w=>∃(t:Int),IV B S h7 (66,[]) a w [(22,.int .i64 (↑d.length:Int)),(21,b),(0,b),(1,c),(23,.int .i64 t)] (L) λ_ _=>AI t∧Ez N d g (E0 N d g) n1 t=some r) N ?_ ?_ ?_
  ·intro aa ww hf hw
   exact⟨0,_,_,hf.sub (kp [22,21,0,1,23] O),hw,af,(B8.refl S h7),(iq (n:=0) O),E⟩
  ·rintro aa ww ⟨_,_,_,_,_,_,_,_,E⟩
   rw[Ez] at E;cases E
  rintro n1 aa ww ⟨t,bp,bq,hf,hw,u,x,br,E⟩
  refine Ad ?_ hf hw
  clear hf hw ww aa
  rw[Ez] at E
  refine AA (AG (.inl O) (A0 O O O (AD (kp [24,22,21,0,1,23] O) (AA (AW O (λM=>?_) (λM=>?_))))))
  ·have E:=BU M E
   refine AT (AA (A6 (AA (Am (AJ 2 ?_)))))
   have a8:=ag.mono' x
   obtain⟨ah,ai,E⟩:=bd E
   refine A8 O O a8 HZ ai O λbs a9=>Bw A3 u.1 O a9 Ny (λe=>by cases e) O λbt ba=>AE (Cg Se O u λbu bv aj G=>?_)
   have bb:=ba.mono G
   obtain⟨rfl,⟨bc,bw⟩⟩:=Bm.ex bb
   refine DD (vs:=[.int .i64 ah.X,.int .i64 ah.Y]) O O O O Ny O aj .head O λbx y Q=>AX (kp [6,22,21,0,1,23] O) (AA (Bn (.inl O) y (AB O O (AL O Ic O (AS BZ y O mh O Ae O ?_)))))
   have ak:=J.trans (x.trans (G.trans Q))
   have be:=j.mono' ak
   obtain⟨bz,am,E⟩:=bd E
   refine CM O O O SQ O (λh' o=>Jp (St.all h') (be.mono' (o.all y.1)) bc am) λbf=>?_
   have b0:=bf
   refine AB O O (CJ O O O (CJ O O O (AF O O (AF O O (BK (kp [7,6,22,21,0,1,23] O) λb1 z an=>AA (AG (.inl O) (AL O Hu O (AS A3 z O mh O Ae O (AB O O (CE O O O (AD (kp [37,22,21,0,1,23] O) (AW O (λU=>?_) (λU=>?_)))))))))))))
   ·have E:=BU U E
    refine AA (AG (.inl O) (AF O O (AD (kp [4] O) (Ab (λaa ww hf hw=>?_)))))
    have ao:=z.drop .head
    cases E
    have ap:=J.trans (x.trans (G.trans (Q.trans an)))
    exact Dp hf hw O O ap ⟨O,ao⟩
   have E:=BV U E
   refine AT (BJ (AG (.inl O) (Ap O O O (AB O O (AD (kp [23,22,21,0,1] O) (WF.nil (λaa ww hf hw=>?_)))))))
   have aq:=z.drop .head
   have ar:=x.trans (G.trans (Q.trans an))
   exact⟨(BD (t+1)),_,_,hf.sub (kp [22,21,0,1,23] O),hw,aq,ar,(BG _),E⟩
  have E:=BV M E
  refine BB O (λaa ww hf hw=>?_)
  exact⟨_,_,hf.sub (kp [0,1] O),hw,u,x,E⟩
 rintro aa ww ⟨V,W,hf,hw,au,H,E⟩
 refine Ad ?_ hf hw
 clear hf hw ww aa
 rw[E0] at E
 refine AA (AA (AG (.inl O) (AB O O ?_)))
 have av:=j.mono' (J.trans H)
 refine Ag O av HZ O λb2=>AB O O (AD (kp [41,40,39,0] O) (Aj (λa w=>IV B V W (66,[]) a w [] (L) λ_ _=>GP N=some r) ?_ ?_))
 ·refine Ay (λn3=>λa w=>∃(A:Int),IV B V W (66,[]) a w [(40,.int .i64 (↑g.length:Int)),(39,c),(0,b),(41,.int .i64 A)] (L) λ_ _=>AI A∧Ey N d g (GP N) n3 A=some r) N ?_ ?_ ?_
  ·intro aa ww hf hw
   exact⟨0,_,_,hf.sub (kp [40,39,0,41] O),hw,au,(B8.refl V W),(iq (n:=0) O),E⟩
  ·rintro aa ww ⟨_,_,_,_,_,_,_,_,E⟩
   rw[Ey] at E;cases E
  rintro n3 aa ww ⟨A,b3,b5,hf,hw,C,D,b6,E⟩
  refine Ad ?_ hf hw
  clear hf hw ww aa
  rw[Ey] at E
  refine AA (AG (.inl O) (A0 O O O (AD (kp [42,40,39,0,41] O) (AA (AW O (λZ=>?_) (λZ=>?_))))))
  ·have E:=BU Z E
   refine AT (AA (A6 (AA (Am (AJ 2 ?_)))))
   have bg:=av.mono' D
   obtain⟨m,aw,E⟩:=bd E
   refine A8 O O bg HZ aw O λb7 bh=>Bw A3 C.1 O bh Ny (λe=>by cases e) O λb8 bi=>AE (Cg Se O C λb9 ca ax I=>?_)
   have bj:=bi.mono I
   obtain⟨rfl,⟨bk,cb⟩⟩:=Bm.ex bj
   refine DD (vs:=[.int .i64 m.X,.int .i64 m.Y]) O O O O Ny O ax .head O λcc F ab=>AX (kp [10,40,39,0,41] O) (AA (Bn (.inl O) F (AB O O (AL O Ic O (AS BZ F O mh O Ae O ?_)))))
   have ay:=J.trans (H.trans (D.trans (I.trans ab)))
   have bl:=i.mono' ay
   obtain⟨p,az,E⟩:=bd E
   refine CM O O O SQ O (λh' o=>Jp (St.all h') (bl.mono' (o.all F.1)) bk az) λbm=>?_
   have cd:=bm
   refine AB O O (CJ O O O (CJ O O O (AF O O (AF O O (BK (kp [12,11,10,40,39,0,41] O) λce s a0=>AA (AG (.inl O) (AB O O (AL O Hu O (AS A3 s O mh O Ae O (CE O O O (AB O O (AV 8 64 (.bool ((decide (m.Y<p.1))||((decide (p.1=m.Y))&&p.2))) ?_ ?_))))))))))))
   ·cases cf:(decide (m.Y<p.1))
    ·refine AC O O O (AB O O (AC O O O (AL O Hu O (AC O O O (AS A3 s O mh O Ae O (AC O O O (Bd O O O (AC O O O (AB O O (AV 2 63 (.bool ((decide (p.1=m.Y))&&p.2)) ?_ ?_))))))))))
     ·cases cg:(decide (p.1=m.Y))
      ·exact Aa O O
      exact AC O O O (AB O O (AC O O O (AO O O O (AU O))))
     exact AO O O O (AU O)
    exact Aa O O
   refine AD (kp [64,40,39,0,41] O) (AW O (λac=>?_) (λac=>?_))
   ·have E:=BU ac E
    refine AA (AG (.inl O) (AF O O (AD (kp [4] O) (Ab (λaa ww hf hw=>?_)))))
    have a1:=s.drop .head
    cases E
    have a2:=J.trans (H.trans (D.trans (I.trans (ab.trans a0))))
    exact Dp hf hw O O a2 ⟨O,a1⟩
   have E:=BV ac E
   refine AT (BJ (AG (.inl O) (Ap O O O (AB O O (AD (kp [41,40,39,0] O) (WF.nil (λaa ww hf hw=>?_)))))))
   have a3:=s.drop .head
   have a4:=D.trans (I.trans (ab.trans a0))
   exact⟨(BD (A+1)),_,_,hf.sub (kp [40,39,0,41] O),hw,a3,a4,(BG _),E⟩
  have E:=BV Z E
  refine BB O (λaa ww hf hw=>?_)
  exact⟨_,_,hf.sub OG,hw,C,D,E⟩
 rintro aa ww ⟨ch,bn,hf,hw,ad,a5,E⟩
 refine Ad ?_ hf hw
 clear hf hw ww aa
 rw[GP] at E
 refine AA (AG (.inl O) (AF O O (AD (kp [4] O) (Ab (λaa ww hf hw=>?_)))))
 cases E
 have ae:=J.trans (H.trans a5)
 exact Dp hf hw O O ae ⟨O,ad⟩
theorem Lb (hs:St S L h) {K:Value}{d:Au}(ad:Rd S h Bh K d) {r:Bool}(E:ES N d=some r):
 CG Tryz.prog 76 #[K] S h (λv S' h'=>v= .bool r∧St S' (L) h'):=by
 refine BC (l:=[K]) 152 Tryz.func76 O Tryz.ntmps76 O λB=>?_
 rw[ES] at E
 refine AA (Am (B1 O ad (λe=>by cases e) O hs λq1 S2 h3 c e5 I=>AJ 1 (AF O O (AE (AX (kp [1] O) (AA (AA (AG (.inl O) (Ac O I Au.f_Kind Fs O λq7 k8=>Af A3 c.1 O k8 Ae O λr9=>AD (kp [4,1] O) (A6 (AA (AG (.inl O) (Bd O O O (AF O O (AD (kp [5,4,1] O) (AW O (λau=>?_) (λau=>?_)))))))))))))))))
 ·have E:=BU au E
  refine AA (Bn (.inl O) c (Ac O I JB MO O λfo di=>Ah BZ c.1 O di Hz O λfp dj=>?_))
  obtain⟨dk,bj,E⟩:=bd E
  refine Aw O O O O8 O (λh' o=>Fy (St.all h') (dj.mono' (o.all c.1)) bj) (AB O O ?_)
  obtain⟨bk,x,E⟩:=bd E
  refine AV 5 15 (.bool bk) ?_ ?_
  ·cases bl:dk
   ·have x:=BV bl x
    cases x
    exact Aa O O
   have x:=BU bl x
   refine AC O O O (Ac O I IK KV O λfq dl=>AC O O O (Ac O dl My OZ O λfr dm=>AC O O O (Ah BZ c.1 O dm Hz O λfs dn=>AC O O O ?_)))
   obtain⟨ft,bm,x⟩:=bd x
   refine Aw O O O O8 O (λh' o=>Fy (St.all h') (dn.mono' (o.all c.1)) bm) (AO O O O ?_)
   cases x
   exact AU O
  refine AB O O ?_
  obtain⟨bn,y,E⟩:=bd E
  refine AV 5 21 (.bool bn) ?_ ?_
  ·cases bo:bk
   ·have y:=BV bo y
    cases y
    exact Aa O O
   have y:=BU bo y
   refine AC O O O (Ac O I IK KV O λfu dp=>AC O O O (Ac O dp Mz OY O λfv dq=>AC O O O (Ah BZ c.1 O dq Hz O λfw dr=>AC O O O ?_)))
   obtain⟨fx,bp,y⟩:=bd y
   refine Aw O O O O8 O (λh' o=>Fy (St.all h') (dr.mono' (o.all c.1)) bp) (AO O O O ?_)
   cases y
   exact AU O
  refine AB O O ?_
  obtain⟨bq,z,E⟩:=bd E
  refine AV 7 29 (.bool bq) ?_ ?_
  ·cases br:bn
   ·have z:=BV br z
    cases z
    exact Aa O O
   have z:=BU br z
   refine AC O O O (Ac O I IK KV O λfy ds=>AC O O O (Ac O ds My OZ O λfz dt=>AC O O O (Ah BZ c.1 O dt Hz O λf0 du=>AC O O O (Ac O I JB MO O λf1 dv=>AC O O O (Ah BZ c.1 O dv Hz O λf2 dw=>AC O O O ?_)))))
   obtain⟨f3,bs,z⟩:=bd z
   refine Aw O O O Xg O (λh' o=>LO (St.all h') (du.mono' (o.all c.1)) (dw.mono' (o.all c.1)) bs) (AO O O O ?_)
   cases z
   exact AU O
  refine AB O O ?_
  obtain⟨bt,A,E⟩:=bd E
  refine AV 7 37 (.bool bt) ?_ ?_
  ·cases bu:bq
   ·have A:=BV bu A
    cases A
    exact Aa O O
   have A:=BU bu A
   refine AC O O O (Ac O I JB MO O λf4 dx=>AC O O O (Ah BZ c.1 O dx Hz O λf5 dy=>AC O O O (Ac O I IK KV O λf6 dz=>AC O O O (Ac O dz Mz OY O λf7 d0=>AC O O O (Ah BZ c.1 O d0 Hz O λf8 d1=>AC O O O ?_)))))
   obtain⟨f9,bv,A⟩:=bd A
   refine Aw O O O Xg O (λh' o=>LO (St.all h') (dy.mono' (o.all c.1)) (d1.mono' (o.all c.1)) bv) (AO O O O ?_)
   cases A
   exact AU O
  refine AB O O ?_
  obtain⟨bw,C,E⟩:=bd E
  refine AV 4 42 (.bool bw) ?_ ?_
  ·cases bx:bt
   ·have C:=BV bx C
    cases C
    exact Aa O O
   have C:=BU bx C
   refine AC O O O (Ac O I Dz Ix O λga d2=>AC O O O (Af BZ c.1 O d2 Ae O λd3=>AC O O O ?_))
   obtain⟨gb,bz,C⟩:=bd C
   refine Aw O O O HN O (λh' o=>Bl (St.all h') d3 (iq (n:=0) O) (iq (n:=64) O) bz) (AO O O O ?_)
   cases C
   exact AU O
  refine AB O O ?_
  obtain⟨b0,D,E⟩:=bd E
  refine AV 6 49 (.bool b0) ?_ ?_
  ·cases b1:bw
   ·have D:=BV b1 D
    cases D
    exact Aa O O
   have D:=BU b1 D
   refine AC O O O (Ac O I Ib K8 O λgc d4=>AC O O O (Af BZ c.1 O d4 Ae O λd5=>AC O O O (Ac O I Dz Ix O λgd d6=>AC O O O (Af BZ c.1 O d6 Ae O λd7=>AC O O O ?_))))
   obtain⟨ge,b2,D⟩:=bd D
   refine Aw O O O HN O (λh' o=>Bl (St.all h') d5 (iq (n:=0) O) d7 b2) (AO O O O ?_)
   cases D
   exact AU O
  refine AB O O ?_
  obtain⟨b3,F,E⟩:=bd E
  refine AV 4 54 (.bool b3) ?_ ?_
  ·cases b4:b0
   ·have F:=BV b4 F
    cases F
    exact Aa O O
   have F:=BU b4 F
   refine AC O O O (Ac O I LK QY O λgf d8=>AC O O O (Af BZ c.1 O d8 Ae O λd9=>AC O O O ?_))
   obtain⟨gg,b5,F⟩:=bd F
   refine Aw O O O JG O (λh' o=>Bp (St.all h') d9 b5) (AO O O O ?_)
   cases F
   exact AU O
  refine AB O O ?_
  obtain⟨av,G,E⟩:=bd E
  refine AV 6 61 (.bool av) ?_ ?_
  ·cases b6:b3
   ·have G:=BV b6 G
    cases G
    exact Aa O O
   have G:=BU b6 G
   refine AC O O O (Ac O I Hl KD O λgh ea=>AC O O O (Af BZ c.1 O ea Ae O λeb=>AC O O O (Ac O I Gm Jb O λgi ec=>AC O O O (Af BZ c.1 O ec Ae O λed=>AC O O O ?_))))
   obtain⟨gj,b7,G⟩:=bd G
   refine Aw O O O Vj O (λh' o=>Io (St.all h') eb ed b7) (AO O O O ?_)
   cases G
   exact AU O
  refine AB O O (AV 9 71 (.bool (av&&((decide (d.To≠(-1)))||(decide (d.BackDen=0))))) ?_ ?_)
  ·cases gk:av
   ·exact Aa O O
   refine AC O O O (Ac O I Au.f_To HR O λee b8=>AC O O O (Af BZ c.1 O b8 Ae O λef=>AC O O O (CH O O O (AC O O O (AB O O (AV 4 70 (.bool ((decide (d.To≠(-1)))||(decide (d.BackDen=0)))) ?_ ?_))))))
   ·cases eg:(decide (d.To≠(-1)))
    ·exact AC O O O (Ac O I Gm Jb O λeh b9=>AC O O O (Af BZ c.1 O b9 Ae O λei=>AC O O O (Bd O O O (AC O O O (AO O O O (AU O))))))
    exact Aa O O
   exact AO O O O (AU O)
  refine AF O O (BK (kp [2] O) λej aw ca=>Ab (λaa ww hf hw=>?_))
  cases E
  exact Dp hf hw O O (e5.trans ca) ⟨O,aw⟩
 have E:=BV au E
 refine AA (AA (AG (.inl O) (Bd O O O (AF O O (AD (kp [72,4,1] O) (GW (λa w=>∃(U:Bool),IV B S2 h3 (152,[]) a w [(4,.int .i64 d.Kind),(1,q1),(72,.bool U)] (L) λ_ _=>DA N d U=some r) ?_ ?_))))))
 ·refine AW O (λV=>?_) (λV=>?_)
  ·have E:=BU V E
   refine AT (WF.nil (λaa ww hf hw=>?_))
   exact⟨(decide (d.Kind=1)),_,_,hf.sub (kp [4,1,72] O),hw,c,(B8.refl S2 h3),E⟩
  have E:=BV V E
  refine AG (.inl O) (Bd O O O (AF O O (AD (kp [72,4,1] O) (WF.nil (λaa ww hf hw=>?_)))))
  exact⟨(decide (d.Kind=5)),_,_,hf.sub (kp [4,1,72] O),hw,c,(B8.refl S2 h3),E⟩
 rintro aa ww ⟨U,ek,el,hf,hw,b,H,E⟩
 refine Ad ?_ hf hw
 clear hf hw ww aa
 rw[DA] at E
 refine AW O (λW=>?_) (λW=>?_)
 ·have E:=BU W E
  refine AA (Bn (.inl O) b ?_)
  have X:=I.mono H
  refine Ac O X Ki QX O λem cb=>Af BZ b.1 O cb Ae O λcc=>?_
  obtain⟨cd,ax,E⟩:=bd E
  refine Aw O O O JG O (λh' o=>Bp (St.all h') cc ax) (AB O O ?_)
  obtain⟨ae,g,E⟩:=bd E
  refine AV 4 82 (.bool ae) ?_ ?_
  ·cases af:cd
   ·have g:=BV af g
    cases g
    exact Aa O O
   have g:=BU af g
   refine AC O O O (Ac O X Au.f_Num H2 O λen ce=>AC O O O (Af BZ b.1 O ce Ae O λcf=>AC O O O ?_))
   obtain⟨eo,ay,g⟩:=bd g
   refine Aw O O O JG O (λh' o=>Bp (St.all h') cf ay) (AO O O O ?_)
   cases g
   exact AU O
  refine AB O O ?_
  obtain⟨cg,i,E⟩:=bd E
  refine AV 4 87 (.bool cg) ?_ ?_
  ·cases ag:ae
   ·have i:=BV ag i
    cases i
    exact Aa O O
   have i:=BU ag i
   refine AC O O O (Ac O X Au.f_Den Iy O λep ch=>AC O O O (Af BZ b.1 O ch Ae O λci=>AC O O O ?_))
   obtain⟨eq,az,i⟩:=bd i
   refine Aw O O O HN O (λh' o=>Bl (St.all h') ci (iq (n:=1) O) (iq (n:=1125899906842624) O) az) (AO O O O ?_)
   cases i
   exact AU O
  refine AF O O (BK (kp [2] O) λer a0 cj=>Ab (λaa ww hf hw=>?_))
  cases E
  have a1:=e5.trans (H.trans cj)
  exact Dp hf hw O O a1 ⟨O,a0⟩
 have E:=BV W E
 refine AA (AG (.inl O) (Bd O O O (AF O O (AD (kp [88,4,1] O) (AW O (λY=>?_) (λY=>?_))))))
 ·have E:=BU Y E
  refine AA (Bn (.inl O) b ?_)
  have Q:=I.mono H
  refine Ac O Q Au.f_Num H2 O λes ck=>Af BZ b.1 O ck Ae O λcl=>?_
  obtain⟨cm,a2,E⟩:=bd E
  refine Aw O O O JG O (λh' o=>Bp (St.all h') cl a2) (AB O O ?_)
  obtain⟨ah,j,E⟩:=bd E
  refine AV 4 97 (.bool ah) ?_ ?_
  ·cases ai:cm
   ·have j:=BV ai j
    cases j
    exact Aa O O
   have j:=BU ai j
   refine AC O O O (Ac O Q Dz Ix O λet cn=>AC O O O (Af BZ b.1 O cn Ae O λco=>AC O O O ?_))
   obtain⟨eu,a3,j⟩:=bd j
   refine Aw O O O HN O (λh' o=>Bl (St.all h') co (iq (n:=1) O) (iq (n:=64) O) a3) (AO O O O ?_)
   cases j
   exact AU O
  refine AB O O ?_
  obtain⟨cp,k,E⟩:=bd E
  refine AV 6 104 (.bool cp) ?_ ?_
  ·cases aj:ah
   ·have k:=BV aj k
    cases k
    exact Aa O O
   have k:=BU aj k
   refine AC O O O (Ac O Q Ib K8 O λev cq=>AC O O O (Af BZ b.1 O cq Ae O λcr=>AC O O O (Ac O Q Dz Ix O λew cs=>AC O O O (Af BZ b.1 O cs Ae O λct=>AC O O O ?_))))
   obtain⟨ex,a4,k⟩:=bd k
   refine Aw O O O HN O (λh' o=>Bl (St.all h') cr (iq (n:=0) O) ct a4) (AO O O O ?_)
   cases k
   exact AU O
  refine AF O O (BK (kp [2] O) λey a5 cu=>Ab (λaa ww hf hw=>?_))
  cases E
  have a6:=e5.trans (H.trans cu)
  exact Dp hf hw O O a6 ⟨O,a5⟩
 have E:=BV Y E
 refine AA (AG (.inl O) (Bd O O O (AF O O (AD (kp [105,1] O) (AW O (λZ=>?_) (λZ=>?_))))))
 ·have E:=BU Z E
  refine AA (Bn (.inl O) b ?_)
  have J:=I.mono H
  refine Ac O J Au.f_Num H2 O λez cv=>Af BZ b.1 O cv Ae O λcw=>?_
  obtain⟨cx,a7,E⟩:=bd E
  refine Aw O O O JG O (λh' o=>Bp (St.all h') cw a7) (AB O O ?_)
  obtain⟨ak,m,E⟩:=bd E
  refine AV 4 114 (.bool ak) ?_ ?_
  ·cases al:cx
   ·have m:=BV al m
    cases m
    exact Aa O O
   have m:=BU al m
   refine AC O O O (Ac O J Au.f_Den Iy O λe0 cy=>AC O O O (Af BZ b.1 O cy Ae O λcz=>AC O O O ?_))
   obtain⟨e1,a8,m⟩:=bd m
   refine Aw O O O HN O (λh' o=>Bl (St.all h') cz (iq (n:=1) O) (iq (n:=1125899906842624) O) a8) (AO O O O ?_)
   cases m
   exact AU O
  refine AB O O ?_
  obtain⟨am,p,E⟩:=bd E
  refine AV 4 119 (.bool am) ?_ ?_
  ·cases an:ak
   ·have p:=BV an p
    cases p
    exact Aa O O
   have p:=BU an p
   refine AC O O O (Ac O J JW NO O λe2 c0=>AC O O O (Af BZ b.1 O c0 Ae O λc1=>AC O O O ?_))
   obtain⟨e3,a9,p⟩:=bd p
   refine Aw O O O JG O (λh' o=>Bp (St.all h') c1 a9) (AO O O O ?_)
   cases p
   exact AU O
  refine AB O O ?_
  obtain⟨ab,s,E⟩:=bd E
  refine AV 4 124 (.bool ab) ?_ ?_
  ·cases ao:am
   ·have s:=BV ao s
    cases s
    exact Aa O O
   have s:=BU ao s
   refine AC O O O (Ac O J JX NN O λe4 c2=>AC O O O (Af BZ b.1 O c2 Ae O λc3=>AC O O O ?_))
   obtain⟨e6,ba,s⟩:=bd s
   refine Aw O O O JG O (λh' o=>Bp (St.all h') c3 ba) (AO O O O ?_)
   cases s
   exact AU O
  refine AB O O (AV 6 131 (.bool (ab&&(decide (d.Break<d.Prime)))) ?_ ?_)
  ·cases e7:ab
   ·exact Aa O O
   exact AC O O O (Ac O J JX NN O λe8 c4=>AC O O O (Af BZ b.1 O c4 Ae O λe9=>AC O O O (Ac O J JW NO O λfb c5=>AC O O O (Af BZ b.1 O c5 Ae O λfc=>AC O O O (A0 O O O (AO O O O (AU O)))))))
  refine AF O O (BK (kp [2] O) λfd bb c6=>Ab (λaa ww hf hw=>?_))
  cases E
  have bc:=e5.trans (H.trans c6)
  exact Dp hf hw O O bc ⟨O,bb⟩
 have E:=BV Z E
 refine AT (BJ (AA (Bn (.inl O) b ?_)))
 have M:=I.mono H
 refine Ac O M Au.f_Num H2 O λfe c7=>Af BZ b.1 O c7 Ae O λc8=>?_
 obtain⟨c9,be,E⟩:=bd E
 refine Aw O O O JG O (λh' o=>Bp (St.all h') c8 be) (AB O O ?_)
 obtain⟨ap,t,E⟩:=bd E
 refine AV 4 139 (.bool ap) ?_ ?_
 ·cases aq:c9
  ·have t:=BV aq t
   cases t
   exact Aa O O
  have t:=BU aq t
  refine AC O O O (Ac O M Au.f_Den Iy O λff da=>AC O O O (Af BZ b.1 O da Ae O λdb=>AC O O O ?_))
  obtain⟨fg,bf,t⟩:=bd t
  refine Aw O O O HN O (λh' o=>Bl (St.all h') db (iq (n:=1) O) (iq (n:=1125899906842624) O) bf) (AO O O O ?_)
  cases t
  exact AU O
 refine AB O O ?_
 obtain⟨ac,u,E⟩:=bd E
 refine AV 6 146 (.bool ac) ?_ ?_
 ·cases ar:ap
  ·have u:=BV ar u
   cases u
   exact Aa O O
  have u:=BU ar u
  refine AC O O O (Ac O M Hl KD O λfh dc=>AC O O O (Af BZ b.1 O dc Ae O λdd=>AC O O O (Ac O M Gm Jb O λfi de=>AC O O O (Af BZ b.1 O de Ae O λdf=>AC O O O ?_))))
  obtain⟨fj,bg,u⟩:=bd u
  refine Aw O O O Vj O (λh' o=>Io (St.all h') dd df bg) (AO O O O ?_)
  cases u
  exact AU O
 refine AB O O (AV 4 151 (.bool (ac&&(decide (d.To≠(-1))))) ?_ ?_)
 ·cases fk:ac
  ·exact Aa O O
  exact AC O O O (Ac O M Au.f_To HR O λfl dg=>AC O O O (Af BZ b.1 O dg Ae O λfm=>AC O O O (CH O O O (AO O O O (AU O)))))
 refine AF O O (BK (kp [2] O) λfn bh dh=>Ab (λaa ww hf hw=>?_))
 cases E
 have bi:=e5.trans (H.trans dh)
 exact Dp hf hw O O bi ⟨O,bh⟩
theorem LX (hs:St S L h) {d:Value}{a:Au}(g:Rd S h Bh d a) {r:Bool}(E:ER N a=some r):
 CG Tryz.prog 77 #[d] S h (λv S' h'=>v= .bool r∧St S' (L) h'):=by
 refine BC (l:=[d]) 112 Tryz.func77 O Tryz.ntmps77 O λB=>?_
 rw[ER] at E
 refine AA (Am (B1 O g (λe=>by cases e) O hs λq1 S2 h3 b o c=>AJ 1 (AF O O (AE (AX (kp [1] O) (AA (AG (.inl O) (Ac O c Au.f_Kind Fs O λq7 Z=>Af A3 b.1 O Z Ae O λr9=>Bd O O O (AF O O (AD (kp [3,1] O) (AA (AA (AG (.inl O) (AB O O (Bv O O (AB O O (AV 24 33 (.bool ((!(decide (a.Kind=0)))&&((((decide (0<(↑a.Rate.length:Int)))||(decide (0<(↑a.Band.Lo.length:Int))))||(decide (0<(↑a.Band.Hi.length:Int))))||(decide (a.Leak≠0))))) ?_ ?_)))))))))))))))))
 ·cases ab:(!(decide (a.Kind=0)))
  ·exact Aa O O
  refine AC O O O (Ac O c JB MO O λac p=>AC O O O (Ah A3 b.1 O p Hz O λad s=>AC O O O (Ag O s HZ O λae=>AC O O O (CE O O O (AC O O O (AB O O (AV 6 20 (.bool ((decide (0<(↑a.Rate.length:Int)))||(decide (0<(↑a.Band.Lo.length:Int))))) ?_ ?_)))))))
  ·cases af:(decide (0<(↑a.Rate.length:Int)))
   ·exact AC O O O (Ac O c IK KV O λag t=>AC O O O (Ac O t My OZ O λah u=>AC O O O (Ah A3 b.1 O u Hz O λai w=>AC O O O (Ag O w HZ O λaj=>AC O O O (CE O O O (AC O O O (AO O O O (AU O))))))))
   exact Aa O O
  refine AC O O O (AB O O (AV 6 27 (.bool (((decide (0<(↑a.Rate.length:Int)))||(decide (0<(↑a.Band.Lo.length:Int))))||(decide (0<(↑a.Band.Hi.length:Int))))) ?_ ?_))
  ·cases ak:((decide (0<(↑a.Rate.length:Int)))||(decide (0<(↑a.Band.Lo.length:Int))))
   ·exact AC O O O (Ac O c IK KV O λal x=>AC O O O (Ac O x Mz OY O λam y=>AC O O O (Ah A3 b.1 O y Hz O λan z=>AC O O O (Ag O z HZ O λao=>AC O O O (CE O O O (AC O O O (AO O O O (AU O))))))))
   exact Aa O O
  refine AC O O O (AB O O (AV 4 32 (.bool ((((decide (0<(↑a.Rate.length:Int)))||(decide (0<(↑a.Band.Lo.length:Int))))||(decide (0<(↑a.Band.Hi.length:Int))))||(decide (a.Leak≠0)))) ?_ ?_))
  ·cases ap:(((decide (0<(↑a.Rate.length:Int)))||(decide (0<(↑a.Band.Lo.length:Int))))||(decide (0<(↑a.Band.Hi.length:Int))))
   ·exact AC O O O (Ac O c LK QY O λaq A=>AC O O O (Af A3 b.1 O A Ae O λar=>AC O O O (CH O O O (AC O O O (AO O O O (AU O))))))
   exact Aa O O
  exact AO O O O (AU O)
 refine AD (kp [33,3,1] O) (AW O (λi=>?_) (λi=>?_))
 ·have E:=BU i E
  refine AA (AG (.inl O) (AF O O (AD (kp [2] O) (Ab (λaa ww hf hw=>?_)))))
  cases E
  exact Dp hf hw O O o ⟨O,b⟩
 have E:=BV i E
 refine AT (AA (AA (AG (.inl O) (AB O O (Bv O O (AB O O (AV 4 40 (.bool ((!(decide (a.Kind=0)))&&(decide (a.Kind≠2)))) ?_ ?_)))))))
 ·cases au:(!(decide (a.Kind=0)))
  ·exact Aa O O
  exact AC O O O (Ac O c Au.f_Kind Fs O λav C=>AC O O O (Af A3 b.1 O C Ae O λaw=>AC O O O (CH O O O (AO O O O (AU O)))))
 refine AB O O (AV 9 50 (.bool (((!(decide (a.Kind=0)))&&(decide (a.Kind≠2)))&&((decide (a.Positions≠0))||(decide (a.Speed≠0))))) ?_ ?_)
 ·cases ax:((!(decide (a.Kind=0)))&&(decide (a.Kind≠2)))
  ·exact Aa O O
  refine AC O O O (Ac O c Dz Ix O λay D=>AC O O O (Af A3 b.1 O D Ae O λaz=>AC O O O (CH O O O (AC O O O (AB O O (AV 4 49 (.bool ((decide (a.Positions≠0))||(decide (a.Speed≠0)))) ?_ ?_))))))
  ·cases a0:(decide (a.Positions≠0))
   ·exact AC O O O (Ac O c Ib K8 O λa1 F=>AC O O O (Af A3 b.1 O F Ae O λa2=>AC O O O (CH O O O (AC O O O (AO O O O (AU O))))))
   exact Aa O O
  exact AO O O O (AU O)
 refine AD (kp [50,3,1] O) (AW O (λj=>?_) (λj=>?_))
 ·have E:=BU j E
  refine AA (AG (.inl O) (AF O O (AD (kp [2] O) (Ab (λaa ww hf hw=>?_)))))
  cases E
  exact Dp hf hw O O o ⟨O,b⟩
 have E:=BV j E
 refine AT (AA (AA (AG (.inl O) (Ac O c Au.f_Kind Fs O λa3 G=>Af A3 b.1 O G Ae O λa4=>CH O O O (AB O O (AV 4 58 (.bool ((decide (a.Kind≠1))&&(decide (a.Kind≠5)))) ?_ ?_))))))
 ·cases a5:(decide (a.Kind≠1))
  ·exact Aa O O
  exact AC O O O (Ac O c Au.f_Kind Fs O λa6 H=>AC O O O (Af A3 b.1 O H Ae O λa7=>AC O O O (CH O O O (AO O O O (AU O)))))
 refine AB O O (AV 4 63 (.bool (((decide (a.Kind≠1))&&(decide (a.Kind≠5)))&&(decide (a.Crest≠0)))) ?_ ?_)
 ·cases a8:((decide (a.Kind≠1))&&(decide (a.Kind≠5)))
  ·exact Aa O O
  exact AC O O O (Ac O c Ki QX O λa9 I=>AC O O O (Af A3 b.1 O I Ae O λba=>AC O O O (CH O O O (AO O O O (AU O)))))
 refine AD (kp [63,3,1] O) (AW O (λk=>?_) (λk=>?_))
 ·have E:=BU k E
  refine AA (AG (.inl O) (AF O O (AD (kp [2] O) (Ab (λaa ww hf hw=>?_)))))
  cases E
  exact Dp hf hw O O o ⟨O,b⟩
 have E:=BV k E
 refine AT (AA (AA (AG (.inl O) (AB O O (AB O O (AV 4 69 (.bool ((decide (a.Kind=0))&&(decide (a.Num≠0)))) ?_ ?_))))))
 ·cases bb:(decide (a.Kind=0))
  ·exact Aa O O
  exact AC O O O (Ac O c Au.f_Num H2 O λbc J=>AC O O O (Af A3 b.1 O J Ae O λbe=>AC O O O (CH O O O (AO O O O (AU O)))))
 refine AB O O (AV 12 82 (.bool (((decide (a.Kind=0))&&(decide (a.Num≠0)))||(((decide (a.Kind=0))||(decide (a.Kind=2)))&&(decide (a.Den≠0))))) ?_ ?_)
 ·cases bf:((decide (a.Kind=0))&&(decide (a.Num≠0)))
  ·refine AC O O O (AB O O (AC O O O (AB O O (AV 4 76 (.bool ((decide (a.Kind=0))||(decide (a.Kind=2)))) ?_ ?_))))
   ·cases bg:(decide (a.Kind=0))
    ·exact AC O O O (Ac O c Au.f_Kind Fs O λbh K=>AC O O O (Af A3 b.1 O K Ae O λbi=>AC O O O (Bd O O O (AC O O O (AO O O O (AU O))))))
    exact Aa O O
   refine AC O O O (AB O O (AV 4 81 (.bool (((decide (a.Kind=0))||(decide (a.Kind=2)))&&(decide (a.Den≠0)))) ?_ ?_))
   ·cases bj:((decide (a.Kind=0))||(decide (a.Kind=2)))
    ·exact Aa O O
    exact AC O O O (Ac O c Au.f_Den Iy O λbk M=>AC O O O (Af A3 b.1 O M Ae O λbl=>AC O O O (CH O O O (AC O O O (AO O O O (AU O))))))
   exact AO O O O (AU O)
  exact Aa O O
 refine AD (kp [82,3,1] O) (AW O (λm=>?_) (λm=>?_))
 ·have E:=BU m E
  refine AA (AG (.inl O) (AF O O (AD (kp [2] O) (Ab (λaa ww hf hw=>?_)))))
  cases E
  exact Dp hf hw O O o ⟨O,b⟩
 have E:=BV m E
 refine AT (AA (AA (AG (.inl O) (Ac O c Au.f_Kind Fs O λbm Q=>Af A3 b.1 O Q Ae O λbn=>CH O O O (AB O O (AV 9 95 (.bool ((decide (a.Kind≠3))&&((decide (a.Prime≠0))||(decide (a.Break≠0))))) ?_ ?_))))))
 ·cases bo:(decide (a.Kind≠3))
  ·exact Aa O O
  refine AC O O O (Ac O c JW NO O λbp U=>AC O O O (Af A3 b.1 O U Ae O λbq=>AC O O O (CH O O O (AC O O O (AB O O (AV 4 94 (.bool ((decide (a.Prime≠0))||(decide (a.Break≠0)))) ?_ ?_))))))
  ·cases br:(decide (a.Prime≠0))
   ·exact AC O O O (Ac O c JX NN O λbs V=>AC O O O (Af A3 b.1 O V Ae O λbt=>AC O O O (CH O O O (AC O O O (AO O O O (AU O))))))
   exact Aa O O
  exact AO O O O (AU O)
 refine AD (kp [95,3,1] O) (AW O (λn=>?_) (λn=>?_))
 ·have E:=BU n E
  refine AA (AG (.inl O) (AF O O (AD (kp [2] O) (Ab (λaa ww hf hw=>?_)))))
  cases E
  exact Dp hf hw O O o ⟨O,b⟩
 have E:=BV n E
 refine AT (AA (AG (.inl O) (AB O O (AB O O (AV 4 101 (.bool ((decide (a.Kind=0))||(decide (a.Kind=4)))) ?_ ?_)))))
 ·cases bu:(decide (a.Kind=0))
  ·exact AC O O O (Ac O c Au.f_Kind Fs O λbv W=>AC O O O (Af A3 b.1 O W Ae O λbw=>AC O O O (Bd O O O (AO O O O (AU O)))))
  exact Aa O O
 refine AB O O (AV 9 111 (.bool (((decide (a.Kind=0))||(decide (a.Kind=4)))||((decide (a.BackNum=0))&&(decide (a.BackDen=0))))) ?_ ?_)
 ·cases bx:((decide (a.Kind=0))||(decide (a.Kind=4)))
  ·refine AC O O O (Ac O c Hl KD O λbz X=>AC O O O (Af A3 b.1 O X Ae O λb0=>AC O O O (Bd O O O (AC O O O (AB O O (AV 4 110 (.bool ((decide (a.BackNum=0))&&(decide (a.BackDen=0)))) ?_ ?_))))))
   ·cases b1:(decide (a.BackNum=0))
    ·exact Aa O O
    exact AC O O O (Ac O c Gm Jb O λb2 Y=>AC O O O (Af A3 b.1 O Y Ae O λb3=>AC O O O (Bd O O O (AC O O O (AO O O O (AU O))))))
   exact AO O O O (AU O)
  exact Aa O O
 refine AF O O (AD (kp [2] O) (Ab (λaa ww hf hw=>?_)))
 cases E
 exact Dp hf hw O O o ⟨O,b⟩
end Go.Proofs.YtblcgjadhemlbaaGreat
