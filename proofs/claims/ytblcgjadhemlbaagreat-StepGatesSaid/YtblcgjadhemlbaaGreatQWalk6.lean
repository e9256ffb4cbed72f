import Derived.Test.YtblcgjadhemlbaaGreatQWalk5
namespace Go.Proofs.YtblcgjadhemlbaaGreat
open Go.RowKit
set_option linter.unusedVariables false
set_option linter.unusedSimpArgs false
set_option maxRecDepth 10000
set_option maxHeartbeats 2000000
variable {N:Nat}{S:Nat→Prop}{L:List HP}{h:Aq}
theorem Kl (hs:St S L h) {c:Value}{d:(List Int)}(g:Sl S h AN.int c d) {b:Int}(o:AI b) {r:Int×Bool}(E:HB N d b=some r):
 CG Tryz.prog 38 #[c,.int .i64 b] S h (λv S' h'=>v= .tuple #[.int .i64 r.1,.bool r.2]∧AI r.1∧St S' (L) h'):=by
 refine BC (l:=[c,.int .i64 b]) 29 Tryz.func38 O Tryz.ntmps38 O λB=>?_
 rw[HB] at E
 refine AA (AG (.inl O) (AF O O (AF O O (AD (kp [0,1] O) (AA (AG (.inl O) (AF O O (AD (kp [6,0,1] O) (AA (AA (AG (.inl O) (AB O O (Ag O g BP O λV=>AB O O (AD (kp [11,10,9,6,1] O) (Aj (λa w=>∃(x:Int),IV B S h (29,[]) a w [(6,.int .i64 x)] (L) λ_ _=>AI x∧Fu N x=some r) ?_ ?_)))))))))))))))
 ·refine Ay (λC=>λa w=>∃(p:Int) (j:Int),IV B S h (29,[]) a w [(10,.int .i64 (↑d.length:Int)),(9,c),(1,.int .i64 b),(6,.int .i64 p),(11,.int .i64 j)] (L) λ_ _=>AI p∧AI j∧ET N d b (Fu N) C p j=some r) N ?_ ?_ ?_
  ·intro aa ww hf hw
   exact⟨0,0,_,_,hf.sub (kp [10,9,1,6,11] O),hw,hs,(B8.refl S h),(iq (n:=0) O),(iq (n:=0) O),E⟩
  ·rintro aa ww ⟨_,_,_,_,_,_,_,_,_,_,E⟩
   rw[ET] at E;cases E
  rintro C aa ww ⟨p,j,D,F,hf,hw,i,k,G,H,E⟩
  refine Ad ?_ hf hw
  clear hf hw ww aa
  rw[ET] at E
  refine AA (AG (.inl O) (A0 O O O (AD (kp [12,10,9,1,6,11] O) (AA (AW O (λq=>?_) (λq=>?_))))))
  ·have E:=BU q E
   refine AT (AA (A6 (AA (AG (.inl O) ?_))))
   have y:=g.mono' k
   obtain⟨m,t,E⟩:=bd E
   refine A8 O O y BP t O λI z=>Af A3 i.1 O z Ae O λJ=>AF O O (AD (kp [8,10,9,1,6,11] O) (AA (AA (AG (.inl O) (AB O O (A0 O O O (AB O O (AV 6 23 (.bool ((decide (m<0))||(decide ((BD (b-p))<m)))) ?_ ?_))))))))
   ·cases K:(decide (m<0))
    ·exact AC O O O (AB O O (AC O O O (AB O O (AC O O O (AB O O (AC O O O (Dg O O O (AC O O O (CE O O O (AO O O O (AU O)))))))))))
    exact Aa O O
   refine AD (kp [23,8,10,9,1,6,11] O) (AW O (λs=>?_) (λs=>?_))
   ·have E:=BU s E
    refine AA (AG (.inl O) (AF O O (AF O O (AD (kp [5,4] O) (Ab (λaa ww hf hw=>?_))))))
    cases E
    exact Jn hf O hw (Hn (qQ hf (v:=_) O) (Hn (qQ hf (v:=_) O) Jm)) O k ⟨O,(iq (n:=0) O),i⟩
   have E:=BV s E
   refine AT (AG (.inl O) (AB O O (AB O O (Ap O O O (AF O O (AD (kp [6,10,9,1,11] O) (BJ (AG (.inl O) (Ap O O O (AB O O (AD (kp [11,6,10,9,1] O) (WF.nil (λaa ww hf hw=>?_)))))))))))))
   exact⟨(BD (p+m)),(BD (j+1)),_,_,hf.sub (kp [10,9,1,6,11] O),hw,i,k,(BG _),(BG _),E⟩
  have E:=BV q E
  refine BB O (λaa ww hf hw=>?_)
  exact⟨p,_,_,hf.sub (kp [6] O),hw,i,k,G,E⟩
 rintro aa ww ⟨x,M,Q,hf,hw,u,A,U,E⟩
 refine Ad ?_ hf hw
 clear hf hw ww aa
 rw[Fu] at E
 refine AA (AG (.inl O) (AB O O (AF O O (AF O O (AD (kp [5,4] O) (Ab (λaa ww hf hw=>?_)))))))
 cases E
 exact Jn hf O hw (Hn (qQ hf (v:=_) O) (Hn (qQ hf (v:=_) O) Jm)) O A ⟨O,U,u⟩
theorem J7 (hs:St S L h) {z:Value}{d:AZ}(am:Rd S h B0 z d) {A:Value}{b:Al}(an:Rd S h CL A b) {r:Bool}(E:HT N d b=some r):
 CG Tryz.prog 14 #[z,A] S h (λv S' h'=>v= .bool r∧St S' (L) h'):=by
 refine BC (l:=[z,A]) 168 Tryz.func14 O Tryz.ntmps14 O λB=>?_
 rw[HT] at E
 refine AA (Am (B1 O am (λe=>by cases e) O hs λq1 S2 h3 c5 e5 k6=>?_))
 have k7:=an.mono e5
 refine B1 O k7 (λe=>by cases e) O c5 λq8 S9 a2 j s x=>AJ 1 (AF O O (AE (AX (kp [3,2] O) (AA (AA (AG (.inl O) (Ac O x Al.f_Hour ID O λga c6=>Af A3 j.1 O c6 Ae O λgb=>A0 O O O (AB O O (AV 4 20 (.bool ((decide (b.Hour<0))||(decide (16777216<b.Hour)))) ?_ ?_)))))))))
 ·cases gc:(decide (b.Hour<0))
  ·exact AC O O O (Ac O x Al.f_Hour ID O λgd c7=>AC O O O (Af A3 j.1 O c7 Ae O λge=>AC O O O (CE O O O (AO O O O (AU O)))))
  exact Aa O O
 refine AB O O (AV 8 29 (.bool (((decide (b.Hour<0))||(decide (16777216<b.Hour)))||(decide ((↑b.Own.length:Int)≠(↑d.Places.length:Int))))) ?_ ?_)
 ·cases gf:((decide (b.Hour<0))||(decide (16777216<b.Hour)))
  ·refine AC O O O (Ac O x JA D3 O λgg c8=>AC O O O (Ah A3 j.1 O c8 G3 O λgh c9=>AC O O O (Ag O c9 E8 O λgi=>AC O O O ?_)))
   have da:=k6.mono s
   exact Ac O da BS DK O λgj db=>AC O O O (Ah A3 j.1 O db F9 O λgk dc=>AC O O O (Ag O dc FA O λgl=>AC O O O (CH O O O (AO O O O (AU O)))))
  exact Aa O O
 refine AB O O (AV 8 38 (.bool ((((decide (b.Hour<0))||(decide (16777216<b.Hour)))||(decide ((↑b.Own.length:Int)≠(↑d.Places.length:Int))))||(decide ((↑b.Rem.length:Int)≠(↑d.Places.length:Int))))) ?_ ?_)
 ·cases gm:(((decide (b.Hour<0))||(decide (16777216<b.Hour)))||(decide ((↑b.Own.length:Int)≠(↑d.Places.length:Int))))
  ·refine AC O O O (Ac O x I9 JS O λgn dd=>AC O O O (Ah A3 j.1 O dd BY O λgp de=>AC O O O (Ag O de BP O λgq=>AC O O O ?_)))
   have df:=k6.mono s
   exact Ac O df BS DK O λgr dg=>AC O O O (Ah A3 j.1 O dg F9 O λgs dh=>AC O O O (Ag O dh FA O λgt=>AC O O O (CH O O O (AO O O O (AU O)))))
  exact Aa O O
 refine AB O O (AV 8 47 (.bool (((((decide (b.Hour<0))||(decide (16777216<b.Hour)))||(decide ((↑b.Own.length:Int)≠(↑d.Places.length:Int))))||(decide ((↑b.Rem.length:Int)≠(↑d.Places.length:Int))))||(decide ((↑b.Gates.length:Int)≠(↑d.Links.length:Int))))) ?_ ?_)
 ·cases gu:((((decide (b.Hour<0))||(decide (16777216<b.Hour)))||(decide ((↑b.Own.length:Int)≠(↑d.Places.length:Int))))||(decide ((↑b.Rem.length:Int)≠(↑d.Places.length:Int))))
  ·refine AC O O O (Ac O x GY Fb O λgv di=>AC O O O (Ah A3 j.1 O di IQ O λgw dj=>AC O O O (Ag O dj IL O λgx=>AC O O O ?_)))
   have dk:=k6.mono s
   exact Ac O dk DU Ft O λgz dl=>AC O O O (Ah A3 j.1 O dl Ir O λg0 dm=>AC O O O (Ag O dm G4 O λg1=>AC O O O (CH O O O (AO O O O (AU O)))))
  exact Aa O O
 refine AB O O (AV 8 56 (.bool ((((((decide (b.Hour<0))||(decide (16777216<b.Hour)))||(decide ((↑b.Own.length:Int)≠(↑d.Places.length:Int))))||(decide ((↑b.Rem.length:Int)≠(↑d.Places.length:Int))))||(decide ((↑b.Gates.length:Int)≠(↑d.Links.length:Int))))||(decide ((↑b.In.length:Int)≠(↑d.Owners.length:Int))))) ?_ ?_)
 ·cases g2:(((((decide (b.Hour<0))||(decide (16777216<b.Hour)))||(decide ((↑b.Own.length:Int)≠(↑d.Places.length:Int))))||(decide ((↑b.Rem.length:Int)≠(↑d.Places.length:Int))))||(decide ((↑b.Gates.length:Int)≠(↑d.Links.length:Int))))
  ·refine AC O O O (Ac O x Jk Jz O λg3 dn=>AC O O O (Ah A3 j.1 O dn BY O λg4 dp=>AC O O O (Ag O dp BP O λg5=>AC O O O ?_)))
   have dq:=k6.mono s
   exact Ac O dq EB HS O λg6 dr=>AC O O O (Ah A3 j.1 O dr J6 O λg7 ds=>AC O O O (Ag O ds Js O λg8=>AC O O O (CH O O O (AO O O O (AU O)))))
  exact Aa O O
 refine AB O O (AV 8 65 (.bool (((((((decide (b.Hour<0))||(decide (16777216<b.Hour)))||(decide ((↑b.Own.length:Int)≠(↑d.Places.length:Int))))||(decide ((↑b.Rem.length:Int)≠(↑d.Places.length:Int))))||(decide ((↑b.Gates.length:Int)≠(↑d.Links.length:Int))))||(decide ((↑b.In.length:Int)≠(↑d.Owners.length:Int))))||(decide ((↑b.Out.length:Int)≠(↑d.Owners.length:Int))))) ?_ ?_)
 ·cases g9:((((((decide (b.Hour<0))||(decide (16777216<b.Hour)))||(decide ((↑b.Own.length:Int)≠(↑d.Places.length:Int))))||(decide ((↑b.Rem.length:Int)≠(↑d.Places.length:Int))))||(decide ((↑b.Gates.length:Int)≠(↑d.Links.length:Int))))||(decide ((↑b.In.length:Int)≠(↑d.Owners.length:Int))))
  ·refine AC O O O (Ac O x J2 I0 O λha dt=>AC O O O (Ah A3 j.1 O dt BY O λhb du=>AC O O O (Ag O du BP O λhc=>AC O O O ?_)))
   have dv:=k6.mono s
   exact Ac O dv EB HS O λhd dw=>AC O O O (Ah A3 j.1 O dw J6 O λhe dx=>AC O O O (Ag O dx Js O λhg=>AC O O O (CH O O O (AO O O O (AU O)))))
  exact Aa O O
 refine AD (kp [65,3,2] O) (AW O (λa3=>?_) (λa3=>?_))
 ·have E:=BU a3 E
  refine AA (AG (.inl O) (AF O O (AD (kp [4] O) (Ab (λaa ww hf hw=>?_)))))
  cases E
  exact Dp hf hw O O (e5.trans s) ⟨O,j⟩
 have E:=BV a3 E
 refine AT (AA (AA (AG (.inl O) ?_)))
 have bw:=k6.mono s
 refine Ac O bw BS DK O λhh dy=>Ah A3 j.1 O dy F9 O λdz bx=>Ag O bx FA O λhi=>AB O O (AD (kp [69,68,67,3,2] O) (Aj (λa w=>IV B S9 a2 (168,[]) a w [(3,q8),(2,q1)] (L) λ_ _=>Ej N d b=some r) ?_ ?_))
 ·refine Ay (λn1=>λa w=>∃(V:Int),IV B S9 a2 (168,[]) a w [(68,.int .i64 (↑d.Places.length:Int)),(67,dz),(3,q8),(2,q1),(69,.int .i64 V)] (L) λ_ _=>AI V∧Eh N d b (Ej N d b) n1 V=some r) N ?_ ?_ ?_
  ·intro aa ww hf hw
   exact⟨0,_,_,hf.sub (kp [68,67,3,2,69] O),hw,j,(B8.refl S9 a2),(iq (n:=0) O),E⟩
  ·rintro aa ww ⟨_,_,_,_,_,_,_,_,E⟩
   rw[Eh] at E;cases E
  rintro n1 aa ww ⟨V,hj,hk,hf,hw,W,X,hl,E⟩
  refine Ad ?_ hf hw
  clear hf hw ww aa
  rw[Eh] at E
  refine AA (AG (.inl O) (A0 O O O (AD (kp [70,68,67,3,2,69] O) (AA (AW O (λa4=>?_) (λa4=>?_))))))
  ·have E:=BU a4 E
   refine AT (AA (A6 (AA (Am (AJ 3 (AB O O ?_))))))
   have d0:=bx.mono' X
   obtain⟨k,bz,E⟩:=bd E
   refine A8 O O d0 FA bz O λhm b0=>Bw A3 W.1 O b0 JZ (λe=>by cases e) O λd1 b1=>AE (Cg Nv O W λd2 d3 a5 K=>AJ 1 (AF O O (AE ?_)))
   have b2:=b1.mono K
   obtain⟨ao,ap,aq,rfl,d4,d5,d6,d7,b3,b4,d8,d9,ea,eb,ec,b5⟩:=Br.ex b2
   refine Ge (vs:=[.string k.Name,.int .i64 k.Kind,.int .i64 k.Office,.int .i64 k.Cap,ao,ap,.int .i64 k.Num,.int .i64 k.Den,.int .i64 k.Down,.int .i64 k.Delay,.int .i64 k.Floor,aq]) (cs':=[.string k.Name,.int .i64 k.Kind,.int .i64 k.Office,.int .i64 k.Cap,ao,ap,.int .i64 k.Num,.int .i64 k.Den,.int .i64 k.Down,.int .i64 k.Delay,.int .i64 k.Floor,aq]) O O O (AH O (AH O (AH O (AH O (AH b3.one (AH b4.one (AH O (AH O (AH O (AH O (AH O (AH b5.one D2)))))))))))) JZ O a5 .head O O λed p Y=>AX (kp [5,6,68,67,3,2,69] O) (AA (AG (.inr ⟨mo,by kernel_rfl⟩) ?_))
   have a6:=X.trans (K.trans Y)
   have ar:=x.mono a6
   refine Ac O ar I9 JS O λee b6=>Ah A3 p.1 O b6 BY O λef b7=>AB O O ?_
   obtain⟨b8,a7,E⟩:=bd E
   refine A8 O O b7 BP a7 O λeg b9=>Af A3 p.1 O b9 Ae O λeh=>A0 O O O (AB O O ?_)
   obtain⟨ca,m,E⟩:=bd E
   refine AV 11 91 (.bool ca) ?_ ?_
   ·cases au:(decide (b8<0))
    ·have m:=BV au m
     refine AC O O O (Ac O ar I9 JS O λei cb=>AC O O O (Ah A3 p.1 O cb BY O λej cc=>AC O O O (AB O O (AC O O O ?_))))
     obtain⟨ek,a8,m⟩:=bd m
     refine A8 O O cc BP a8 O λel cd=>AC O O O (Af A3 p.1 O cd Ae O λem=>AC O O O (AL O KY O (AC O O O (AS A3 p O mh O Ae O (AC O O O (Dg O O O (AC O O O (PE O O O (AC O O O (CE O O O (AO O O O ?_)))))))))))
     cases m
     exact AU O
    have m:=BU au m
    cases m
    exact Aa O O
   refine AD (kp [91,68,67,3,2,69] O) (AW O (λZ=>?_) (λZ=>?_))
   ·have E:=BU Z E
    refine AA (AG (.inl O) (AF O O (AD (kp [4] O) (Ab (λaa ww hf hw=>?_)))))
    have a9:=p.drop .head
    cases E
    have ba:=e5.trans (s.trans (X.trans (K.trans Y)))
    exact Dp hf hw O O ba ⟨O,a9⟩
   have E:=BV Z E
   refine AT (BJ (AG (.inl O) (Ap O O O (AB O O (AD (kp [69,68,67,3,2] O) (WF.nil (λaa ww hf hw=>?_)))))))
   have bb:=p.drop .head
   have bc:=X.trans (K.trans Y)
   exact⟨(BD (V+1)),_,_,hf.sub (kp [68,67,3,2,69] O),hw,bb,bc,(BG _),E⟩
  have E:=BV a4 E
  refine BB O (λaa ww hf hw=>?_)
  exact⟨_,_,hf.sub (kp [3,2] O),hw,W,X,E⟩
 rintro aa ww ⟨ab,ac,hf,hw,ad,t,E⟩
 refine Ad ?_ hf hw
 clear hf hw ww aa
 rw[Ej] at E
 refine AA (AA (AG (.inl O) ?_))
 have av:=bw.mono t
 refine Ac O av DU Ft O λen ce=>Ah A3 ad.1 O ce Ir O λcf aw=>Ag O aw G4 O λeo=>AB O O (AD (kp [96,95,94,3,2] O) (Aj (λa w=>IV B ab ac (168,[]) a w [(3,q8),(2,q1)] (L) λ_ _=>Ei N d b=some r) ?_ ?_))
 ·refine Ay (λn3=>λa w=>∃(F:Int),IV B ab ac (168,[]) a w [(95,.int .i64 (↑d.Links.length:Int)),(94,cf),(3,q8),(2,q1),(96,.int .i64 F)] (L) λ_ _=>AI F∧Eg N d b (Ei N d b) n3 F=some r) N ?_ ?_ ?_
  ·intro aa ww hf hw
   exact⟨0,_,_,hf.sub (kp [95,94,3,2,96] O),hw,ad,(B8.refl ab ac),(iq (n:=0) O),E⟩
  ·rintro aa ww ⟨_,_,_,_,_,_,_,_,E⟩
   rw[Eg] at E;cases E
  rintro n3 aa ww ⟨F,ep,eq,hf,hw,I,y,er,E⟩
  refine Ad ?_ hf hw
  clear hf hw ww aa
  rw[Eg] at E
  refine AA (AG (.inl O) (A0 O O O (AD (kp [97,95,94,3,2,96] O) (AA (AW O (λae=>?_) (λae=>?_))))))
  ·have E:=BU ae E
   refine AT (AA (A6 (AA (Am (AJ 3 (AB O O ?_))))))
   have cg:=aw.mono' y
   obtain⟨c,be,E⟩:=bd E
   refine A8 O O cg G4 be O λes ch=>Bw A3 I.1 O ch F8 (λe=>by cases e) O λet ci=>AE (Cg M0 O I λeu ev bf G=>AJ 1 (AF O O (AE ?_)))
   have cj:=ci.mono G
   obtain⟨ax,ay,az,rfl,ew,ey,ez,e0,ck,cl,cm,e1,e2,e3,e4,e6,e7,e8,e9,fb,fc,fd⟩:=Bh.ex cj
   refine Ge (vs:=[.string c.Name,.int .i64 c.Kind,.int .i64 c.From,.int .i64 c.To,ax,ay,az,.int .i64 c.Positions,.int .i64 c.Speed,.int .i64 c.Leak,.int .i64 c.Crest,.int .i64 c.Num,.int .i64 c.Den,.int .i64 c.Prime,.int .i64 c.Break,.int .i64 c.BackNum,.int .i64 c.BackDen,.int .i64 c.Delay]) (cs':=[.string c.Name,.int .i64 c.Kind,.int .i64 c.From,.int .i64 c.To,ax,ay,az,.int .i64 c.Positions,.int .i64 c.Speed,.int .i64 c.Leak,.int .i64 c.Crest,.int .i64 c.Num,.int .i64 c.Den,.int .i64 c.Prime,.int .i64 c.Break,.int .i64 c.BackNum,.int .i64 c.BackDen,.int .i64 c.Delay]) O O O (AH O (AH O (AH O (AH O (AH ck.one (AH cl.one (AH cm.one (AH O (AH O (AH O (AH O (AH O (AH O (AH O (AH O (AH O (AH O (AH O D2)))))))))))))))))) F8 O bf .head O O λfe J M=>AX (kp [7,8,95,94,3,2,96] O) (AA (Am (AJ 5 ?_)))
   have bg:=t.trans (y.trans (G.trans M))
   have cn:=x.mono bg
   refine Ac O cn GY Fb O λff co=>Ah A3 J.1 O co IQ O λfg cp=>AB O O ?_
   obtain⟨g,bh,E⟩:=bd E
   refine A8 O O cp IL bh O λfh cq=>Bw A3 J.1 O cq Eo (λe=>by cases e) O λfi cr=>AE (Cg Pd O J λfj fk bi Q=>?_)
   have cs:=cr.mono Q
   obtain⟨rfl,⟨fl,fm⟩⟩:=A4.ex cs
   refine DD (vs:=[.int .i64 g.Pos,.int .i64 g.Target,.bool g.Stuck,.bool g.Open]) O O O O Eo O bi .head O λfn i af=>AX (kp [9,8,95,94,3,2,96] O) (AA (AA (AG (.inl O) (AL O KU O (AS A3 i O mh O Ae O (A0 O O O (AB O O (AV 6 115 (.bool ((decide (g.Pos<0))||(decide (c.Positions<g.Pos)))) ?_ ?_))))))))
   ·cases fo:(decide (g.Pos<0))
    ·exact AC O O O (AL O KU O (AC O O O (AS A3 i O mh O Ae O (AC O O O (AL O Ix O (AC O O O (AS A3 i O (mt mh) O Ae O (AC O O O (CE O O O (AO O O O (AU O)))))))))))
    exact Aa O O
   refine AB O O (AV 4 120 (.bool (((decide (g.Pos<0))||(decide (c.Positions<g.Pos)))||(decide (g.Target<0)))) ?_ ?_)
   ·cases fp:((decide (g.Pos<0))||(decide (c.Positions<g.Pos)))
    ·exact AC O O O (AL O OX O (AC O O O (AS A3 i O mh O Ae O (AC O O O (A0 O O O (AO O O O (AU O)))))))
    exact Aa O O
   refine AB O O (AV 6 127 (.bool ((((decide (g.Pos<0))||(decide (c.Positions<g.Pos)))||(decide (g.Target<0)))||(decide (c.Positions<g.Target)))) ?_ ?_)
   ·cases fq:(((decide (g.Pos<0))||(decide (c.Positions<g.Pos)))||(decide (g.Target<0)))
    ·exact AC O O O (AL O OX O (AC O O O (AS A3 i O mh O Ae O (AC O O O (AL O Ix O (AC O O O (AS A3 i O (mt mh) O Ae O (AC O O O (CE O O O (AO O O O (AU O)))))))))))
    exact Aa O O
   refine AD (kp [127,9,8,95,94,3,2,96] O) (AW O (λag=>?_) (λag=>?_))
   ·have E:=BU ag E
    refine AA (AG (.inl O) (AF O O (AD (kp [4] O) (Ab (λaa ww hf hw=>?_)))))
    have bj:=i.sel [] 2 O
    cases E
    have bk:=e5.trans (s.trans (t.trans (y.trans (G.trans (M.trans (Q.trans af))))))
    exact Dp hf hw O O bk ⟨O,bj⟩
   have E:=BV ag E
   refine AT (AA (AG (.inl O) (AL O NL O (AS A3 i O mh O Ng O (AB O O (AV 4 134 (.bool (g.Open&&(decide (c.Kind≠5)))) ?_ ?_))))))
   ·cases fr:g.Open
    ·exact Aa O O
    exact AC O O O (AL O Fs O (AC O O O (AS A3 i O (mt mh) O Ae O (AC O O O (CH O O O (AO O O O (AU O)))))))
   refine AB O O (AV 4 139 (.bool ((g.Open&&(decide (c.Kind≠5)))&&(decide (c.Kind≠3)))) ?_ ?_)
   ·cases fs:(g.Open&&(decide (c.Kind≠5)))
    ·exact Aa O O
    exact AC O O O (AL O Fs O (AC O O O (AS A3 i O (mt mh) O Ae O (AC O O O (CH O O O (AO O O O (AU O)))))))
   refine AD (kp [139,95,94,3,2,96] O) (AW O (λah=>?_) (λah=>?_))
   ·have E:=BU ah E
    refine AA (AG (.inl O) (AF O O (AD (kp [4] O) (Ab (λaa ww hf hw=>?_)))))
    have bl:=i.sel [] 2 O
    cases E
    have bm:=e5.trans (s.trans (t.trans (y.trans (G.trans (M.trans (Q.trans af))))))
    exact Dp hf hw O O bm ⟨O,bl⟩
   have E:=BV ah E
   refine AT (BJ (AG (.inl O) (Ap O O O (AB O O (AD (kp [96,95,94,3,2] O) (WF.nil (λaa ww hf hw=>?_)))))))
   have bn:=i.sel [] 2 O
   have bo:=y.trans (G.trans (M.trans (Q.trans af)))
   exact⟨(BD (F+1)),_,_,hf.sub (kp [95,94,3,2,96] O),hw,bn,bo,(BG _),E⟩
  have E:=BV ae E
  refine BB O (λaa ww hf hw=>?_)
  exact⟨_,_,hf.sub (kp [3,2] O),hw,I,y,E⟩
 rintro aa ww ⟨ft,fu,hf,hw,u,H,E⟩
 refine Ad ?_ hf hw
 clear hf hw ww aa
 rw[Ei] at E
 refine AA (Bn (.inl O) u ?_)
 have ct:=av.mono H
 refine Bw BZ u.1 O ct Gp (λe=>by cases e) O λfv cu=>?_
 have a0:=x.mono (t.trans H)
 refine Bw BZ u.1 O a0 Gn (λe=>by cases e) O λfw cv=>?_
 obtain⟨fx,bp,E⟩:=bd E
 refine CM O O O bN O (λh' o=>OC (St.all h') (cu.mono (o.all u.1)) (cv.mono (o.all u.1)) bp) λcw=>?_
 have fy:=cw
 refine AB O O (CJ O O O (CJ O O O (AF O O (AF O O (BK (kp [11,10,3] O) λfz C U=>AA (AA (AG (.inl O) (AB O O (Bv O O (AD (kp [148,10,3] O) (AW O (λai=>?_) (λai=>?_))))))))))))
 ·have E:=BU ai E
  refine AA (AG (.inl O) (AF O O (AD (kp [4] O) (Ab (λaa ww hf hw=>?_)))))
  cases E
  have bq:=e5.trans (s.trans (t.trans (H.trans U)))
  exact Dp hf hw O O bq ⟨O,C⟩
 have E:=BV ai E
 refine AT (AA (Bn (.inl O) C ?_))
 have a1:=a0.mono U
 refine Ac O a1 Jk Jz O λf0 cx=>Ah BZ C.1 O cx BY O λf1 cy=>?_
 obtain⟨f2,br,E⟩:=bd E
 refine CM O O O Xn O (λh' o=>Kl (St.all h') (cy.mono' (o.all C.1)) (iq (n:=1152921504606846976) O) br) λcz=>?_
 have f3:=cz
 refine AB O O (CJ O O O (CJ O O O (AF O O (AF O O (BK (kp [11,12,10,3] O) λf4 D aj=>AA (AA (AG (.inl O) (AB O O (Bv O O (AD (kp [156,12,10,3] O) (AW O (λak=>?_) (λak=>?_))))))))))))
 ·have E:=BU ak E
  refine AA (AG (.inl O) (AF O O (AD (kp [4] O) (Ab (λaa ww hf hw=>?_)))))
  cases E
  have bs:=e5.trans (s.trans (t.trans (H.trans (U.trans aj))))
  exact Dp hf hw O O bs ⟨O,D⟩
 have E:=BV ak E
 refine AT (AA (Bn (.inl O) D ?_))
 have c0:=a1.mono aj
 refine Ac O c0 J2 I0 O λf5 c1=>Ah BZ D.1 O c1 BY O λf6 c2=>AB O O (Ap O O O (AB O O (Dg O O O ?_)))
 obtain⟨f7,bt,E⟩:=bd E
 refine CM O O O Xn O (λh' o=>Kl (St.all h') (c2.mono' (o.all D.1)) (BG _) bt) λc3=>?_
 have f8:=c3
 refine AB O O (CJ O O O (CJ O O O (AF O O (BK (kp [11] O) λf9 bu c4=>AA (AG (.inl O) (AB O O (AF O O (AD (kp [4] O) (Ab (λaa ww hf hw=>?_))))))))))
 cases E
 have bv:=e5.trans (s.trans (t.trans (H.trans (U.trans (aj.trans c4)))))
 exact Dp hf hw O O bv ⟨O,bu⟩
theorem Gg (hs:St S L h) {a:Value}{c:(List Ak)}(b:Sl S h A4 a c) {r:(List Ak)}(E:Bs N c=some r):
 CG Tryz.prog 56 #[a] S h (λv S' h'=>St S' (OS A4 69 v r::L) h'):=by
 refine BC (l:=[a]) 8 Tryz.func56 O Tryz.ntmps56 O λB=>?_
 rw[Bs] at E
 rcases b.cases with ⟨rfl,rfl⟩|⟨o,m,rfl,b⟩
 ·have E1:(some ([]:List Ak))=some r:=by simpa [chk,J8] using E
  refine AA (AG (.inl O) (AF O O (AD (kp [0] O) (AA (AA (AG (.inl O) (AB O O (TV O O O UF (AD (kp [4,0] O) (Vt O (AA (AG (.inl O) (AF O O (AD (kp [2] O) (Ab (λaa ww hf hw=>?_))))))))))))))))
  have d:=hs.nil A4 69
  cases E
  exact Dp hf hw O O (B8.refl S h) d
 refine AA (AG (.inl O) (AF O O (AD (kp [0] O) (AA (AA (AG (.inl O) (AB O O (V1 O O O UF (AD (kp [4,0] O) (Vu O (AT (AA (Am (V2 (r:=A4) Vd O O hs λs t g n=>AJ 1 (AB O O (AE ?_))))))))))))))))
 have p:=b.mono' n
 obtain⟨i,E⟩:=Ly E
 refine I8 (r:=A4) (l:=([]:List Ak)) (xs:=c) O O Vd O (Sl.src p) O i O g (λ_=> .head) λu w j k=>AJ 1 (AF O O (AE (AX (kp [2] O) (Ab (λaa ww hf hw=>?_)))))
 cases E
 exact Dp hf hw O O (n.trans k) j
theorem OD (hs:St S L h) {C:Value}{c:Al}(ai:Rd S h CL C c) {r:Al}(E:IU N c=some r):
 CG Tryz.prog 29 #[C] S h (λv S' h'=>∃w1 w2 w3 w4 w5 w6:Value,v= .agg #[.int .i64 r.Hour,w1,w2,w3,w4,w5,w6]∧AI r.Hour∧Sl S' h' An w3 r.Queue∧St S' (OO AN.int 3 29 w1 r.Own::OS AN.int 3 w2 r.Rem::OS A4 69 w4 r.Gates::OS AN.int 3 w5 r.In::OS AN.int 3 w6 r.Out::L) h'):=by
 refine BC (l:=[C]) 43 Tryz.func29 O Tryz.ntmps29 O λB=>?_
 rw[IU] at E
 refine AA (Am ?_)
 obtain⟨v3,v5,v7,v9,Y,X,rfl,r2,k4,k6,k8,b2,b3,b4⟩:=CL.ex ai
 refine PG O O O hs λaj c3 a8 aw=>Cg Nw O a8 λak c4 an ax=>AX (kp [2,1] O) (AA (Am (AJ 3 (AL O D3 O (AS A3 an O (mt mh) O G3 O ?_)))))
 have b5:=k4.mono' (aw.trans ax)
 refine Ag O b5 E8 O λc5=>AE ?_
 obtain⟨a9,E⟩:=Ly E
 refine W9 AN.int 3 Ve O O a9 O O an λam ay ao ba=>AJ 1 (AF O O (AE (AX (kp [3,2,1] O) (AA (AA (AG (.inl O) (AL O D3 O (AS A3 ao O (mt (mt mh)) O G3 O ?_))))))))
 have bb:=aw.trans (ax.trans ba)
 have bc:=k4.mono' bb
 refine Ag O bc E8 O λc6=>AB O O (AD (kp [13,12,11,3,2,1] O) (Aj (λa w=>∃(y:List (List Int)),IV B S ay (43,[]) a w [(3,am),(2,.pointer (some ⟨ak,0,none⟩)),(1,.pointer (some ⟨aj,0,none⟩))] (OO AN.int 3 29 am y::Bx ak 36 [.int .i64 0,.slice none 0 0,.slice none 0 0,.slice none 0 0,.slice none 0 0,.slice none 0 0,.slice none 0 0]::Bx aj 36 [.int .i64 c.Hour,v3,v5,v7,v9,Y,X]::L) λ_ _=>EG N c y=some r) ?_ ?_))
 ·refine Ay (λn1=>λa w=>∃(J:Int) (Z:List (List Int)),IV B S ay (43,[]) a w [(12,.int .i64 (↑c.Own.length:Int)),(11,v3),(3,am),(2,.pointer (some ⟨ak,0,none⟩)),(1,.pointer (some ⟨aj,0,none⟩)),(13,.int .i64 J)] (OO AN.int 3 29 am Z::Bx ak 36 [.int .i64 0,.slice none 0 0,.slice none 0 0,.slice none 0 0,.slice none 0 0,.slice none 0 0,.slice none 0 0]::Bx aj 36 [.int .i64 c.Hour,v3,v5,v7,v9,Y,X]::L) λ_ _=>AI J∧EF N c (EG N c) n1 J Z=some r) N ?_ ?_ ?_
  ·intro aa ww hf hw
   exact⟨0,(List.replicate ((↑c.Own.length:Int):Int).toNat ([]:(List Int))),_,_,hf.sub (kp [12,11,3,2,1,13] O),hw,ao,(B8.refl S ay),(iq (n:=0) O),E⟩
  ·rintro aa ww ⟨_,_,_,_,_,_,_,_,_,E⟩
   rw[EF] at E;cases E
  rintro n1 aa ww ⟨J,Z,c7,c8,hf,hw,G,az,c9,E⟩
  refine Ad ?_ hf hw
  clear hf hw ww aa
  rw[EF] at E
  refine AA (AG (.inl O) (A0 O O O (AD (kp [14,12,11,3,2,1,13] O) (AA (AW O (λa0=>?_) (λa0=>?_))))))
  ·have E:=BU a0 E
   refine AT (AA (A6 (AA (AG (.inl O) (AB O O ?_)))))
   have b6:=bc.mono' az
   obtain⟨da,be,E⟩:=bd E
   refine A8 O O b6 E8 be O λdb b7=>Ah A3 G.1 O b7 BY O λdc b8=>AF O O (AF O O (AD (kp [5,4,12,11,3,2,1,13] O) (Am (AJ 3 (AB O O (AB O O (AB O O (AE ?_))))))))
   obtain⟨b9,bf,E⟩:=bd E
   refine Bb O O O PB O G (DB (St.all _) (b8.mono (λb hb=>G.1 b hb) (λ_ _=>rfl)) bf) λdd de df cn ca cb p=>?_
   have bg:=p
   have ab:=G.join cb bg ⟨OS.flat (λ{_ _ _ _ _ _} k=>k),trivial⟩
   simp only[List.cons_append,List.nil_append] at ab
   refine AJ 1 ?_
   obtain⟨dg,bh,E⟩:=bd E
   refine NX (r:=AN.int) ab (mt mh) O O E8 bh O λdh bi=>AE ?_
   obtain⟨di,bj,E⟩:=bd E
   refine TZ (r:=AN.int) (i:=J) O O bi bj BY ab λdj bk cc=>AX (kp [12,11,3,2,1,13] O) (BJ (AG (.inl O) (Ap O O O (AB O O (AD (kp [13,12,11,3,2,1] O) (WF.nil (λaa ww hf hw=>?_)))))))
   have bl:=az.trans (ca.trans cc)
   exact⟨(BD (J+1)),(upd Z J b9),_,_,hf.sub (kp [12,11,3,2,1,13] O),hw,bk,bl,(BG _),E⟩
  have E:=BV a0 E
  refine BB O (λaa ww hf hw=>?_)
  exact⟨Z,_,_,hf.sub (kp [3,2,1] O),hw,G,az,E⟩
 rintro aa ww ⟨y,dk,dl,hf,hw,ap,cd,E⟩
 refine Ad ?_ hf hw
 clear hf hw ww aa
 rw[EG] at E
 refine AA (Am (AJ 2 (AB O O (AL O D3 O (AE ?_)))))
 obtain⟨s,d,rfl,dm⟩:=ap.oolen mh
 refine HY (vs:=[(.slice s y.length d)]) (cs':=[.int .i64 c.Hour,(.slice s y.length d),v5,v7,v9,Y,X]) O O O O G3 O ap (.tail (.tail .head)) O O λdn V ce=>AX (kp [2,1] O) (AA (Am (AJ 2 (AL O JS O (AS A3 V O (mt (mt mh)) O BY O (AE ?_))))))
 have aq:=aw.trans (ax.trans (ba.trans (cd.trans ce)))
 have cf:=k6.mono' aq
 obtain⟨H,bm,E⟩:=bd E
 refine Bb O O O PB O V (DB (St.all _) (cf.mono (λb hb=>V.1 b hb) (λ_ _=>rfl)) bm) λdp dq dr co cg ch p=>?_
 have bn:=p
 have ac:=V.join ch bn ⟨OS.flat (λ{_ _ _ _ _ _} k=>k),trivial⟩
 simp only[List.cons_append,List.nil_append] at ac
 refine AJ 1 (AL O JS O (AE ?_))
 obtain⟨x,j,rfl,ds⟩:=ac.oslen mh
 refine HY (vs:=[(.slice x H.length j)]) (cs':=[.int .i64 c.Hour,(.slice s y.length d),(.slice x H.length j),v7,v9,Y,X]) O O O O BY O ac (.tail (.tail (.tail .head))) O O λdt W ci=>AX (kp [2,1] O) (AA (Am (AJ 2 (AL O Fb O (AS A3 W O (mt (mt (mt mh))) O IQ O (AE ?_))))))
 have ar:=aq.trans (cg.trans ci)
 have cj:=b2.mono' ar
 obtain⟨K,bo,E⟩:=bd E
 refine Bb O O O aZ O W (Gg (St.all _) (cj.mono (λb hb=>W.1 b hb) (λ_ _=>rfl)) bo) λdu dv cp ck bp bq p=>?_
 have a1:=p
 have M:=W.join bq a1 ⟨OS.flat (λ{_ _ _ _ _ _} k=>k),trivial⟩
 simp only[List.cons_append,List.nil_append] at M
 refine AJ 1 (AL O Fb O (AE ?_))
 obtain⟨o,g,rfl,cq⟩:=M.oslen mh
 refine HY (vs:=[(.slice o K.length g)]) (cs':=[.int .i64 c.Hour,(.slice s y.length d),(.slice x H.length j),v7,(.slice o K.length g),Y,X]) O O O O IQ O M (.tail (.tail (.tail (.tail .head)))) O O λcr D br=>AX (kp [2,1] O) (AA (Am (AJ 2 (AL O Jz O (AS A3 D O (mt (mt (mt (mt mh)))) O BY O (AE ?_))))))
 have ad:=ar.trans (bp.trans br)
 have bs:=b3.mono' ad
 obtain⟨A,a2,E⟩:=bd E
 refine Bb O O O PB O D (DB (St.all _) (bs.mono (λb hb=>D.1 b hb) (λ_ _=>rfl)) a2) λcs ct cu cl bt bu p=>?_
 have a3:=p
 have Q:=D.join bu a3 ⟨OS.flat (λ{_ _ _ _ _ _} k=>k),trivial⟩
 simp only[List.cons_append,List.nil_append] at Q
 refine AJ 1 (AL O Jz O (AE ?_))
 obtain⟨u,m,rfl,cv⟩:=Q.oslen mh
 refine HY (vs:=[(.slice u A.length m)]) (cs':=[.int .i64 c.Hour,(.slice s y.length d),(.slice x H.length j),v7,(.slice o K.length g),(.slice u A.length m),X]) O O O O BY O Q (.tail (.tail (.tail (.tail (.tail .head))))) O O λcw F bv=>AX (kp [2,1] O) (AA (Am (AJ 2 (AL O I0 O (AS A3 F O (mt (mt (mt (mt (mt mh))))) O BY O (AE ?_))))))
 have ae:=ad.trans (bt.trans bv)
 have bw:=b4.mono' ae
 obtain⟨I,a4,E⟩:=bd E
 refine Bb O O O PB O F (DB (St.all _) (bw.mono (λb hb=>F.1 b hb) (λ_ _=>rfl)) a4) λcx cy cz cm bx bz p=>?_
 have a5:=p
 have U:=F.join bz a5 ⟨OS.flat (λ{_ _ _ _ _ _} k=>k),trivial⟩
 simp only[List.cons_append,List.nil_append] at U
 refine AJ 1 (AL O I0 O (AE ?_))
 obtain⟨z,t,rfl,c0⟩:=U.oslen mh
 refine HY (vs:=[(.slice z I.length t)]) (cs':=[.int .i64 c.Hour,(.slice s y.length d),(.slice x H.length j),v7,(.slice o K.length g),(.slice u A.length m),(.slice z I.length t)]) O O O O BY O U (.tail (.tail (.tail (.tail (.tail (.tail .head)))))) O O λc1 af b0=>AX (kp [2,1] O) (AA (Am (AJ 1 (Cj (vs:=[.int .i64 c.Hour,(.slice s y.length d),(.slice x H.length j),v7,(.slice o K.length g),(.slice u A.length m),(.slice z I.length t)]) A3 af O (mt (mt (mt (mt (mt (mt mh)))))) O O Gn O O (AE ?_)))))
 have ag:=ae.trans (bx.trans b0)
 have au:=k8.mono' ag
 refine Ge (vs:=[.int .i64 c.Hour,(.slice s y.length d),(.slice x H.length j),v7,(.slice o K.length g),(.slice u A.length m),(.slice z I.length t)]) (cs':=[.int .i64 c.Hour,(.slice s y.length d),(.slice x H.length j),v7,(.slice o K.length g),(.slice u A.length m),(.slice z I.length t)]) O O O (AH O (AH O (AH O (AH au.one (AH O (AH O (AH O D2))))))) Gn O af (.tail (.tail (.tail (.tail (.tail .head))))) O O λc2 a6 av=>AX (kp [2] O) (Ab (λaa ww hf hw=>?_))
 have ah:=a6.sel [4,3,2,1,0,0] 1 O
 have b1:=au.mono' av
 have a7:=ah.drop (.tail (.tail (.tail (.tail (.tail .head)))))
 cases E
 exact Jn hf O hw (Hn (V8 hf hw ah O (mt (mt (mt (mt (mt mh))))) Gn O) Jm) O (ag.trans av) ⟨_,_,_,_,_,_,O,r2,b1,a7⟩
theorem Lt (hs:St S L h) {d:Value}{k:Au}(o:Rd S h Bh d k) {g:Value}{b:Ak}(p:Rd S h A4 g b) {c:Int}(A:AI c) {r:Ak}(E:Gz N k b c=some r):
 CG Tryz.prog 21 #[d,g,.int .i64 c] S h (λv S' h'=>v= .agg #[.int .i64 r.Pos,.int .i64 r.Target,.bool r.Stuck,.bool r.Open]∧Ak.ok r∧St S' (L) h'):=by
 refine BC (l:=[d,g,.int .i64 c]) 24 Tryz.func21 O Tryz.ntmps21 O λB=>?_
 rw[Gz] at E
 refine AA (Am (B1 O o (λe=>by cases e) O hs λq1 S2 h3 ab e5 k6=>?_))
 have k7:=p.mono e5
 obtain⟨rfl,⟨r9,ac⟩⟩:=A4.ex k7
 refine PG O O O ab λs ak J K=>Cg Pd O J λt u i M=>AX (kp [6,4,3,2] O) (AA (AA (AG (.inl O) (AB O O (AD (kp [7,6,4,3,2] O) (Aj (λa w=>∃(m:Bool) (n:Bool),IV B S2 u (24,[]) a w [(6,.pointer (some ⟨t,0,none⟩)),(4,.pointer (some ⟨s,0,none⟩))] (Bx t 69 [.int .i64 0,.int .i64 0,.bool false,.bool false]::Bx s 69 [.int .i64 b.Pos,.int .i64 b.Target,.bool m,.bool n]::L) λ_ _=>FP N b m n=some r) ?_ ?_))))))
 ·refine AA (AG (.inl O) (Bd O O O (AF O O (AD (kp [8,7,6,4,3,2] O) (AW O (λC=>?_) (λC=>?_))))))
  ·have E:=BU C E
   refine Am (AJ 1 (AL O OV O (AE (HY (vs:=[.bool true]) (cs':=[.int .i64 b.Pos,.int .i64 b.Target,.bool true,.bool b.Open]) O O O O Ng O i (.tail .head) O O λam Q ad=>AX (kp [6,4] O) (WF.nil (λaa ww hf hw=>?_))))))
   exact⟨true,b.Open,_,_,hf.sub (kp [6,4] O),hw,Q,ad,E⟩
  have E:=BV C E
  refine AA (AG (.inl O) (Bd O O O (AF O O (AD (kp [11,7,6,4,3,2] O) (AW O (λD=>?_) (λD=>?_))))))
  ·have E:=BU D E
   refine Am (AJ 1 (AL O OV O (AE (HY (vs:=[.bool false]) (cs':=[.int .i64 b.Pos,.int .i64 b.Target,.bool false,.bool b.Open]) O O O O Ng O i (.tail .head) O O λan U ae=>AX (kp [6,4] O) (WF.nil (λaa ww hf hw=>?_))))))
   exact⟨false,b.Open,_,_,hf.sub (kp [6,4] O),hw,U,ae,E⟩
  have E:=BV D E
  refine AA (AA (AG (.inl O) (Bd O O O (AF O O (AD (kp [14,7,6,4,3,2] O) (GW (λa w=>∃(F:Bool),IV B S2 u (24,[]) a w [(6,.pointer (some ⟨t,0,none⟩)),(4,.pointer (some ⟨s,0,none⟩)),(3,q1),(2,.int .i64 c),(14,.bool F)] (Bx t 69 [.int .i64 0,.int .i64 0,.bool false,.bool false]::Bx s 69 [.int .i64 b.Pos,.int .i64 b.Target,.bool b.Stuck,.bool b.Open]::L) λ_ _=>Gj N k b c (FP N b) F=some r) ?_ ?_))))))
  ·refine AW O (λG=>?_) (λG=>?_)
   ·have E:=BU G E
    refine AT (WF.nil (λaa ww hf hw=>?_))
    exact⟨(decide (c=2)),_,_,hf.sub (kp [6,4,3,2,14] O),hw,i,(B8.refl S2 u),E⟩
   have E:=BV G E
   refine AG (.inl O) (Bd O O O (AF O O (AD (kp [14,6,4,3,2] O) (WF.nil (λaa ww hf hw=>?_)))))
   exact⟨(decide (c=3)),_,_,hf.sub (kp [6,4,3,2,14] O),hw,i,(B8.refl S2 u),E⟩
  rintro aa ww ⟨F,ao,ap,hf,hw,j,x,E⟩
  refine Ad ?_ hf hw
  clear hf hw ww aa
  rw[Gj] at E
  refine AW O (λH=>?_) (λH=>?_)
  ·have E:=BU H E
   refine AA (AG (.inl O) ?_)
   have V:=K.trans (M.trans x)
   have af:=k6.mono V
   refine Ac O af Au.f_Kind Fs O λaq ag=>Af A3 j.1 O ag Ae O λar=>Bd O O O (AD (kp [19,6,4,2] O) (AW O (λI=>?_) (λI=>?_)))
   ·have E:=BU I E
    refine Am (AJ 3 (AB O O (Bd O O O (AL O NL O (AE (HY (vs:=[.bool (decide (c=2))]) (cs':=[.int .i64 b.Pos,.int .i64 b.Target,.bool b.Stuck,.bool (decide (c=2))]) O O O O Ng O j (.tail .head) O O λau W ah=>AX (kp [6,4] O) (WF.nil (λaa ww hf hw=>?_))))))))
    exact⟨b.Stuck,(decide (c=2)),_,_,hf.sub (kp [6,4] O),hw,W,(x.trans ah),E⟩
   have E:=BV I E
   refine AT (WF.nil (λaa ww hf hw=>?_))
   exact⟨b.Stuck,b.Open,_,_,hf.sub (kp [6,4] O),hw,j,x,E⟩
  have E:=BV H E
  refine AT (WF.nil (λaa ww hf hw=>?_))
  exact⟨b.Stuck,b.Open,_,_,hf.sub (kp [6,4] O),hw,j,x,E⟩
 rintro aa ww ⟨m,n,av,aw,hf,hw,y,ai,E⟩
 refine Ad ?_ hf hw
 clear hf hw ww aa
 rw[FP] at E
 refine AA (Am (AJ 1 (Cj (vs:=[.int .i64 b.Pos,.int .i64 b.Target,.bool m,.bool n]) A3 y O (mt mh) O O Eo O O (AE (DD (vs:=[.int .i64 b.Pos,.int .i64 b.Target,.bool m,.bool n]) O O O O Eo O y .head O λax X aj=>AX (kp [6] O) (Ab (λaa ww hf hw=>?_)))))))
 have z:=X.drop (.tail .head)
 have Y:=z.drop .head
 cases E
 have Z:=e5.trans (K.trans (M.trans (ai.trans aj)))
 exact Jn hf O hw (Hn (V8 hf hw z O mh Eo O) Jm) O Z ⟨O,⟨r9,ac⟩,Y⟩
theorem Ij (hs:St S L h) {d:Int}(i:AI d) {b:Int}(g:AI b) {a:Int}(c:AI a) {r:Int}(E:GJ N d b a=some r):
 CG Tryz.prog 45 #[.int .i64 d,.int .i64 b,.int .i64 a] S h (λv S' h'=>v= .int .i64 r∧AI r∧St S' (L) h'):=by
 refine BC (l:=[.int .i64 d,.int .i64 b,.int .i64 a]) 16 Tryz.func45 O Tryz.ntmps45 O λB=>?_
 rw[GJ] at E
 refine AA (AG (.inl O) (AF O O (AD (kp [0,1,2] O) (AA (AA (AG (.inl O) (AB O O (AB O O (A0 O O O (AD (kp [9,0,1,2] O) (AW O (λj=>?_) (λj=>?_))))))))))))
 ·have E:=BU j E
  refine AA (AG (.inl O) (AB O O (AF O O (AD (kp [6] O) (Ab (λaa ww hf hw=>?_))))))
  cases E
  exact Dp hf hw O O (B8.refl S h) ⟨O,g,hs⟩
 have E:=BV j E
 refine AT (AA (AA (AG (.inl O) (AB O O (AB O O (CE O O O (AD (kp [13,0,2] O) (AW O (λk=>?_) (λk=>?_)))))))))
 ·have E:=BU k E
  refine AA (AG (.inl O) (AB O O (AF O O (AD (kp [6] O) (Ab (λaa ww hf hw=>?_))))))
  cases E
  exact Dp hf hw O O (B8.refl S h) ⟨O,c,hs⟩
 have E:=BV k E
 refine AT (AA (AG (.inl O) (AB O O (AF O O (AD (kp [6] O) (Ab (λaa ww hf hw=>?_)))))))
 cases E
 exact Dp hf hw O O (B8.refl S h) ⟨O,i,hs⟩
end Go.Proofs.YtblcgjadhemlbaaGreat
