import Derived.Test.YtblcgjadhemlbaaGreatQWalk9
import Derived.Test.YtblcgjadhemlbaaGreatQSort5
namespace Go.Proofs.YtblcgjadhemlbaaGreat
open Go.RowKit
set_option linter.unusedVariables false
set_option linter.unusedSimpArgs false
set_option maxRecDepth 10000
set_option maxHeartbeats 2000000
variable {N:Nat}{S:Nat→Prop}{L:List HP}{h:Aq}
theorem LU (hs:St S L h) {a:Value}{c:(List Int)}(d:Sl S h AN.int a c) {g:Value}{c1_:Hw}(i:Pt S h FJ g c1_) {r:(List Int)×(List Int)}(E:DL N c1_ c=some r):
 CG Tryz.prog 83 #[a,g] S h (λv S' h'=>∃m n:Value,v= .tuple #[m,n]∧St S' (OS AN.int 3 m r.1::OS AN.int 3 n r.2::L) h'):=by
 refine BC (l:=[a,g]) 13 Tryz.func83 O Tryz.ntmps83 O λB=>?_
 rw[DL] at E
 refine AA (AG (.inl O) (AF O O (AF O O (AD (kp [0,1] O) (AA (Am (AJ 5 (AB O O (Ac O i Pb TF O λG x=>Af A3 hs.1 O x Ae O λy=>Ac O i Hw.f_Litres TE O λH z=>Af A3 hs.1 O z Ae O λA=>AE ?_)))))))))
 obtain⟨I,s,E⟩:=bd E
 refine Bb O O O aM O hs (PW (St.all _) (d.mono (λb hb=>hs.1 b hb) (λ_ _=>rfl)) y A s) λJ K C w t u p=>?_
 obtain⟨D,F,rfl,o⟩:=p
 have j:=hs.join u o ⟨OS.flat (λ{_ _ _ _ _ _} k=>k),⟨OS.flat (λ{_ _ _ _ _ _} k=>k),trivial⟩⟩
 simp only[List.cons_append,List.nil_append] at j
 refine AJ 4 (CJ O O O (CJ O O O (AF O O (AF O O (AE (AX (kp [4,3] O) (Ab (λaa ww hf hw=>?_))))))))
 cases E
 exact Jn hf O hw (Hn (qQ hf (v:=_) O) (Hn (qQ hf (v:=_) O) Jm)) O t ⟨_,_,O,j⟩
theorem MV {F:Nat}{p0_w:Ai}{G:Value}{H:Value}{I:Value}{J:Value}{K:Value}{M:Value}{Q:Value}{U:Value}{z:Value}{A:Value}{C:Value}{u:Value}{D:Value}{c:Value}{d:Value}{g:Value}{i:Value}{j:Value}{k:Value}{m:Value}{p:Value}{t:Value}(hs:St S (Bx F 84 [.string p0_w.b.Name,G,.int .i64 p0_w.b.Cells,H,I,J,K,M,Q,U,.int .i64 p0_w.b.Err,z,A,C,u,D,.int .i64 p0_w.s.Hour,c,d,g,i,j,k,m,p,t]::OS (AN.sl AN.int) 29 c p0_w.s.Own::OS AN.int 3 d p0_w.s.Rem::OS An 60 g p0_w.s.Queue::OS A4 69 i p0_w.s.Gates::OS AN.int 3 j p0_w.s.In::OS AN.int 3 k p0_w.s.Out::OS BT 50 m p0_w.moves::OS AN.int 3 p p0_w.peaks::OS An 60 t p0_w.sent::L) h) (a8:p0_w.b.Name.size≤maxLen) (ah:Sl S h AN.str G p0_w.b.Owners) (a9:AI p0_w.b.Cells) (ab:Sl S h Br H p0_w.b.Places) (ba:Sl S h Bh I p0_w.b.Links) (bb:Sl S h F6 J p0_w.b.Towns) (bc:Sl S h D4 K p0_w.b.Gauges) (be:Sl S h Fo M p0_w.b.Roads) (bf:Sl S h Cw Q p0_w.b.Shelters) (bg:Sl S h AN.int U p0_w.b.Room) (au:AI p0_w.b.Err) (av:Sl S h AN.int z p0_w.in_.Rain) (aw:Sl S h Ek A p0_w.in_.Faults) (ax:Sl S h Hg C p0_w.in_.Cmds) (ad:Sl S h FJ u p0_w.in_.Takes) (ay:Sl S h F7 D p0_w.in_.Swaps) (az:AI p0_w.s.Hour) {Z:Int}(cb:AI Z) {r:(List AM)}(E:Gr N p0_w Z=some r):
 CG Tryz.prog 62 #[.pointer (some ⟨F,0,none⟩),.int .i64 Z] S h (λv S' h'=>St S' (OS Ao 111 v r::Bx F 84 [.string p0_w.b.Name,G,.int .i64 p0_w.b.Cells,H,I,J,K,M,Q,U,.int .i64 p0_w.b.Err,z,A,C,u,D,.int .i64 p0_w.s.Hour,c,d,g,i,j,k,m,p,t]::OS (AN.sl AN.int) 29 c p0_w.s.Own::OS AN.int 3 d p0_w.s.Rem::OS An 60 g p0_w.s.Queue::OS A4 69 i p0_w.s.Gates::OS AN.int 3 j p0_w.s.In::OS AN.int 3 k p0_w.s.Out::OS BT 50 m p0_w.moves::OS AN.int 3 p p0_w.peaks::OS An 60 t p0_w.sent::L) h'):=by
 refine BC (l:=[.pointer (some ⟨F,0,none⟩),.int .i64 Z]) 85 Tryz.func62 O Tryz.ntmps62 O λB=>?_
 rw[Gr] at E
 refine AA (AG (.inl O) (AF O O (AD (kp [0,1] O) (AA (AG (.inl O) (AF O O (AD (kp [5,0,1] O) (AA (AA (AG (.inl O) (AB O O (CI O O (AL O MN O (AL O TK O (AS A3 hs O mh O XK O (Ag O ad UZ O λb1=>AB O O (AD (kp [14,13,12,5,0,1] O) (Aj (λa w=>∃(v2:Value) (l3:List AM),IV B S h (85,[]) a w [(5,v2)] (OS Ao 111 v2 l3::Bx F 84 [.string p0_w.b.Name,G,.int .i64 p0_w.b.Cells,H,I,J,K,M,Q,U,.int .i64 p0_w.b.Err,z,A,C,u,D,.int .i64 p0_w.s.Hour,c,d,g,i,j,k,m,p,t]::OS (AN.sl AN.int) 29 c p0_w.s.Own::OS AN.int 3 d p0_w.s.Rem::OS An 60 g p0_w.s.Queue::OS A4 69 i p0_w.s.Gates::OS AN.int 3 j p0_w.s.In::OS AN.int 3 k p0_w.s.Out::OS BT 50 m p0_w.moves::OS AN.int 3 p p0_w.peaks::OS An 60 t p0_w.sent::L) λ_ _=>Cy N l3=some r) ?_ ?_))))))))))))))))))
 ·refine Ay (λn1=>λa w=>∃(v8:Value) (l9:List AM) (af:Int),IV B S h (85,[]) a w [(13,.int .i64 (↑p0_w.in_.Takes.length:Int)),(12,u),(0,.pointer (some ⟨F,0,none⟩)),(1,.int .i64 Z),(5,v8),(14,.int .i64 af)] (OS Ao 111 v8 l9::Bx F 84 [.string p0_w.b.Name,G,.int .i64 p0_w.b.Cells,H,I,J,K,M,Q,U,.int .i64 p0_w.b.Err,z,A,C,u,D,.int .i64 p0_w.s.Hour,c,d,g,i,j,k,m,p,t]::OS (AN.sl AN.int) 29 c p0_w.s.Own::OS AN.int 3 d p0_w.s.Rem::OS An 60 g p0_w.s.Queue::OS A4 69 i p0_w.s.Gates::OS AN.int 3 j p0_w.s.In::OS AN.int 3 k p0_w.s.Out::OS BT 50 m p0_w.moves::OS AN.int 3 p p0_w.peaks::OS An 60 t p0_w.sent::L) λ_ _=>AI af∧B3 N p0_w Z (Cy N) n1 l9 af=some r) N ?_ ?_ ?_
  ·intro aa ww hf hw
   have bh:=hs.nil Ao 111
   exact⟨(.slice none 0 0),([]:List AM),0,_,_,hf.sub (kp [13,12,0,1,5,14] O),hw,bh,(B8.refl S h),(iq (n:=0) O),E⟩
  ·rintro aa ww ⟨_,_,_,_,_,_,_,_,_,_,E⟩
   rw[B3] at E;cases E
  rintro n1 aa ww ⟨v8,l9,af,cc,cd,hf,hw,ak,ai,c9,E⟩
  refine Ad ?_ hf hw
  clear hf hw ww aa
  rw[B3] at E
  refine AA (AG (.inl O) (A0 O O O (AD (kp [15,13,12,0,1,5,14] O) (AA (AW O (λa1=>?_) (λa1=>?_))))))
  ·have E:=BU a1 E
   refine AT (AA (Aj (λa w=>∃(ao:Value) (ap:List AM),IV B cc cd (85,[]) a w [(13,.int .i64 (↑p0_w.in_.Takes.length:Int)),(12,u),(0,.pointer (some ⟨F,0,none⟩)),(1,.int .i64 Z),(14,.int .i64 af),(5,ao)] (OS Ao 111 ao ap::Bx F 84 [.string p0_w.b.Name,G,.int .i64 p0_w.b.Cells,H,I,J,K,M,Q,U,.int .i64 p0_w.b.Err,z,A,C,u,D,.int .i64 p0_w.s.Hour,c,d,g,i,j,k,m,p,t]::OS (AN.sl AN.int) 29 c p0_w.s.Own::OS AN.int 3 d p0_w.s.Rem::OS An 60 g p0_w.s.Queue::OS A4 69 i p0_w.s.Gates::OS AN.int 3 j p0_w.s.In::OS AN.int 3 k p0_w.s.Out::OS BT 50 m p0_w.moves::OS AN.int 3 p p0_w.peaks::OS An 60 t p0_w.sent::L) λ_ _=>Eq N af (B3 N p0_w Z (Cy N) n1) ap=some r) ?_ ?_))
   ·refine AA (Am (AJ 2 ?_))
    have ce:=ad.mono' ai
    obtain⟨Y,bi,E⟩:=bd E
    refine A8 O O ce UZ bi O λda cf=>Bw A3 ak.1 O cf XG (λe=>by cases e) O λdb cg=>AE (Cg ZF O ak λaq dc bj ag=>?_)
    have ch:=cg.mono ag
    obtain⟨rfl,⟨ci,bk,cj,a2⟩⟩:=FJ.ex ch
    refine DD (vs:=[.int .i64 Y.Place,.int .i64 Y.Owner,.int .i64 Y.Litres,.int .i64 Y.To]) O O O O XG O bj .head O λdd ae aj=>AX (kp [7,13,12,0,1,5,14] O) (AA (AA (Bn (.inr ⟨mo,by kernel_rfl⟩) ae (AL O We O (AS BZ ae O mh O Ae O (AB O O (CH O O O (AB O O ?_))))))))
    obtain⟨a3,ac,E⟩:=bd E
    refine AV 11 33 (.bool a3) ?_ ?_
    ·cases bl:(decide (Y.Place≠Z))
     ·have ac:=BV bl ac
      refine AC O O O (AL O TF O (AC O O O (AS BZ ae O mh O Ae O (AC O O O (AB O O (AC O O O (CI O O (AC O O O (AL O Fq O (AC O O O (AL O HS O (AC O O O (AS BZ ae O (mt (mt mh)) O J6 O (AC O O O ?_))))))))))))))
      have bm:=ai.trans (ag.trans aj)
      have ck:=ah.mono' bm
      refine Ag O ck Js O λcl=>AC O O O ?_
      obtain⟨de,bn,ac⟩:=bd ac
      refine Aw O O O N5 O (λh' o=>Fe (St.all h') bk (JE cl) bn) (AC O O O (Bv O O (AO O O O ?_)))
      cases ac
      exact AU O
     have ac:=BU bl ac
     cases ac
     exact Aa O O
    refine AB O O (AV 4 38 (.bool (a3||(decide (Y.Litres≤0)))) ?_ ?_)
    ·cases df:a3
     ·exact AC O O O (AL O TE O (AC O O O (AS BZ ae O mh O Ae O (AC O O O (HW O O O (AO O O O (AU O)))))))
     exact Aa O O
    refine BK (kp [38,7,13,12,0,1,5,14] O) λdg V am=>AW O (λa4=>?_) (λa4=>?_)
    ·have E:=BU a4 E
     refine BB O (λaa ww hf hw=>?_)
     have bo:=V.sel [1,1,1,1,1,1,1,1,1,1,1] 1 O
     have bp:=ag.trans (aj.trans am)
     exact⟨v8,l9,_,_,hf.sub (kp [13,12,0,1,14,5] O),hw,bo,bp,E⟩
    have E:=BV a4 E
    refine AT (AA (AA (Bn (.inr ⟨mo,by kernel_rfl⟩) V (AL O OU O (AS BZ V O mh O Ae O (CH O O O (AB O O ?_)))))))
    obtain⟨cm,W,E⟩:=bd E
    refine AV 33 75 (.bool cm) ?_ ?_
    ·cases bq:(decide (Y.To≠(-1)))
     ·have W:=BV bq W
      cases W
      exact Aa O O
     have W:=BU bq W
     refine AC O O O (AL O OU O (AC O O O (AS BZ V O mh O Ae O (AC O O O (AB O O (AC O O O (CI O O (AC O O O (AL O Fq O (AC O O O (AL O DK O (AC O O O (AS BZ V O (mt (mt mh)) O F9 O (AC O O O ?_))))))))))))))
     have br:=ai.trans (ag.trans (aj.trans am))
     have cn:=ab.mono' br
     refine Ag O cn FA O λco=>AC O O O ?_
     obtain⟨cp,bs,W⟩:=bd W
     refine Aw O O O N5 O (λh' o=>Fe (St.all h') a2 (JE co) bs) (AC O O O (Bv O O (AC O O O (AB O O ?_))))
     obtain⟨cq,X,W⟩:=bd W
     refine AV 21 74 (.bool cq) ?_ ?_
     ·cases bt:(!cp)
      ·have X:=BV bt X
       refine AC O O O (AB O O (AC O O O (CI O O (AC O O O (AL O Fq O (AC O O O (AL O DK O (AC O O O (AS BZ V O (mt (mt mh)) O F9 O (AC O O O (AL O OU O (AC O O O (AS BZ V O mh O Ae O (AC O O O ?_))))))))))))))
       have ar:=ai.trans (ag.trans (aj.trans am))
       have cr:=ab.mono' ar
       obtain⟨dh,bu,X⟩:=bd X
       refine A8 O O cr FA bu O λdi ct=>AC O O O (Ac O ct Hk K9 O λdj cu=>AC O O O (Af BZ V.1 O cu Ae O λdk=>AC O O O (AB O O (AC O O O (CI O O (AC O O O (AL O Fq O (AC O O O (AL O DK O (AC O O O (AS BZ V O (mt (mt mh)) O F9 O (AC O O O (AB O O (AC O O O ?_))))))))))))))
       have cv:=ab.mono' ar
       obtain⟨dl,bv,X⟩:=bd X
       refine A8 O O cv FA bv O λdm cw=>AC O O O (Ac O cw Hk K9 O λdn cx=>AC O O O (Af BZ V.1 O cx Ae O λdp=>AC O O O (CH O O O (AC O O O (AO O O O ?_)))))
       cases X
       exact AU O
      have X:=BU bt X
      cases X
      exact Aa O O
     refine AO O O O ?_
     cases W
     exact AU O
    refine BK (kp [75,7,13,12,0,1,5,14] O) λcy an bw=>AW O (λa5=>?_) (λa5=>?_)
    ·have E:=BU a5 E
     refine BB O (λaa ww hf hw=>?_)
     have bx:=an.sel [1,1,1,1,1,1,1,1,1,1,1] 1 O
     have bz:=ag.trans (aj.trans (am.trans bw))
     exact⟨v8,l9,_,_,hf.sub (kp [13,12,0,1,14,5] O),hw,bx,bz,E⟩
    have E:=BV a5 E
    refine AT (Am (AJ 5 (AB O O (AL O OU O (AS A3 an O mh O Ae O (Ns O O O (HX (cs:=[.int .i64 Y.To,.int .i64 0,.int .i64 (-3),.func (.func 83) #[] #[.pointer (some ⟨aq,0,none⟩)]]) Ni O O O (AE ?_))))))))
    obtain⟨cz,b0,c0,c1⟩:=an.pubb (r:=FJ) (x:=Y) .head ⟨O,⟨ci,bk,cj,a2⟩⟩
    have b2:Rd cz cy (AN.fnr Tryz.prog (λS h vs (x:(List Int))=>∃w0:Value,vs=[w0]∧Sl S h AN.int w0 x) (λS h v (y:((List Int)×(List Int)))=>∃w0 w1:Value,v= .tuple #[w0,w1]∧Sl S h AN.int w0 y.1∧Sl S h AN.int w1 y.2)) (.func (.func 83) #[] #[(.pointer (some ⟨aq,0,none⟩))]) (λx=>DL N Y x):=Jj 83 #[(.pointer (some ⟨aq,0,none⟩))] aN λS' h' s' e' L hs x y vs h1 h2=>by obtain⟨w0,rfl,a0⟩:=h1;exact MH (LU hs a0 (c1.mono'' s' e') h2)
    refine Dw (cs:=[.int .i64 Y.To,.int .i64 0,.int .i64 (-3),(.func (.func 83) #[] #[(.pointer (some ⟨aq,0,none⟩))])]) Kg O O O O O O O b0 λdq dr b3 b4=>?_
    obtain⟨b5,E⟩:=Ly E
    have c2:=b2.mono b4
    refine Ta (r:=Ao) (l:=l9) (xs:=([(⟨Y.To,0,(-3),(λx=>DL N Y x)⟩:AM)]:List AM)) O O Kg O mh ⟨_,_,O,⟨_,O,a2,(iq (n:=0) O),(iq (n:=(-3)) O),c2⟩,O⟩ O O b5 O b3 (λ_=>(.tail .head)) λc3 ds b6 c4=>?_
    have b7:=b6.drop .head
    refine AJ 1 (AF O O (AE (AX (kp [5,13,12,0,1,14] O) (WF.nil (λaa ww hf hw=>?_)))))
    have b8:=ag.trans (aj.trans (am.trans (bw.trans (c0.trans (b4.trans c4)))))
    exact⟨c3,(l9++([(⟨Y.To,0,(-3),(λx=>DL N Y x)⟩:AM)]:List AM)),_,_,hf.sub (kp [13,12,0,1,14,5] O),hw,b7,b8,E⟩
   rintro aa ww ⟨ao,ap,c5,c6,hf,hw,a6,b9,E⟩
   refine Ad ?_ hf hw
   clear hf hw ww aa
   rw[Eq] at E
   refine AG (.inl O) (Ap O O O (AB O O (AD (kp [14,13,12,0,1,5] O) (WF.nil (λaa ww hf hw=>?_)))))
   exact⟨ao,ap,(BD (af+1)),_,_,hf.sub (kp [13,12,0,1,5,14] O),hw,a6,(ai.trans b9),(BG _),E⟩
  have E:=BV a1 E
  refine BB O (λaa ww hf hw=>?_)
  exact⟨v8,l9,_,_,hf.sub (kp [5] O),hw,ak,ai,E⟩
 rintro aa ww ⟨v2,l3,c7,c8,hf,hw,a7,ca,E⟩
 refine Ad ?_ hf hw
 clear hf hw ww aa
 rw[Cy] at E
 refine AA (AG (.inl O) (AB O O (AF O O (AD (kp [4] O) (Ab (λaa ww hf hw=>?_))))))
 cases E
 exact Dp hf hw O O ca a7
theorem IS (hs:St S L h) {c:Int}(i:AI c) {a:Int}(d:AI a) {b:Int}(g:AI b) {r:Int}(E:GI N c a b=some r):
 CG Tryz.prog 104 #[.int .i64 c,.int .i64 a,.int .i64 b] S h (λv S' h'=>v= .int .i64 r∧AI r∧St S' (L) h'):=by
 refine BC (l:=[.int .i64 c,.int .i64 a,.int .i64 b]) 21 Tryz.func104 O Tryz.ntmps104 O λB=>?_
 rw[GI] at E
 refine AA (AG (.inl O) (AF O O (AD (kp [0,1,2] O) (AA (Bn (.inl O) hs (AB O O (AB O O (AB O O ?_))))))))
 obtain⟨j,m,E⟩:=bd E
 refine Hh (v:= .tuple #[.int .i64 j.1,.int .i64 j.2.1,.bool j.2.2]) (Ψ:=AI j.1∧AI j.2.1) O O O Rn O (λh' o=>(Hf (St.all h') i d g m).mono λ_ _ _ _ p=>⟨p.1,⟨p.2.1,p.2.2.1⟩⟩) λt=>?_
 obtain⟨u,w⟩:=t
 refine AB O O (CJ O O O (CJ O O O (CJ O O O (AF O O (AF O O (AF O O (BK (kp [9,7] O) λx k s=>AA (AA (AG (.inl O) (AB O O (Bv O O (AD (kp [19,7] O) (AW O (λq=>?_) (λq=>?_))))))))))))))
 ·have E:=BU q E
  refine AA (AG (.inl O) (AF O O (AD (kp [6] O) (Ab (λaa ww hf hw=>?_)))))
  cases E
  exact Dp hf hw O O s ⟨O,(iq (n:=0) O),k⟩
 have E:=BV q E
 refine AT (AA (AG (.inl O) (AB O O (AF O O (AD (kp [6] O) (Ab (λaa ww hf hw=>?_)))))))
 cases E
 exact Dp hf hw O O s ⟨O,u,k⟩
theorem PY (hs:St S L h) {c:Value}{k:Au}(j:Rd S h Bh c k) {a:Int}(b:AI a) {d:Int}(g:AI d) {r:Int}(E:Jg N k a d=some r):
 CG Tryz.prog 106 #[c,.int .i64 a,.int .i64 d] S h (λv S' h'=>v= .int .i64 r∧AI r∧St S' (L) h'):=by
 refine BC (l:=[c,.int .i64 a,.int .i64 d]) 20 Tryz.func106 O Tryz.ntmps106 O λB=>?_
 rw[Jg] at E
 refine AA (Am (B1 O j (λe=>by cases e) O hs λV S2 W i H u=>AJ 1 (AF O O (AE (AX (kp [3,1,2] O) (AA (AA (AG (.inl O) (Ac O u Au.f_To HR O λX I=>Af A3 i.1 O I Ae O λY=>Bd O O O (AD (kp [9,3,1,2] O) (AW O (λm=>?_) (λm=>?_))))))))))))
 ·have E:=BU m E
  refine AA (AG (.inl O) (AB O O (AF O O (AD (kp [6] O) (Ab (λaa ww hf hw=>?_))))))
  cases E
  exact Dp hf hw O O H ⟨O,b,i⟩
 have E:=BV m E
 refine AT (AA (Bn (.inl O) i (AB O O (AB O O (Ac O u Hl KD O λJ w=>Af BZ i.1 O w Ae O λx=>Ac O u Gm Jb O λK y=>Af BZ i.1 O y Ae O λz=>?_)))))
 obtain⟨M,p,E⟩:=bd E
 refine CM O O O PC O (λh' o=>IS (St.all h') g x z p) λA=>?_
 have C:=A
 obtain⟨Q,s,E⟩:=bd E
 refine CM O O O Rp O (λh' o=>IZ (St.all h') b C s) λD=>?_
 have F:=D
 refine PE O O O (AF O O (BK (kp [6] O) λU t G=>Ab (λaa ww hf hw=>?_)))
 cases E
 exact Dp hf hw O O (H.trans G) ⟨O,(Np (iq (n:=0) O) F),t⟩
theorem Qj (hs:St S L h) {a:Value}{g:(List BI)}(b:Sl S h Bm a g) {c:Int}(d:AI c) {r:Int}(E:KF N g c=some r):
 CG Tryz.prog 105 #[a,.int .i64 c] S h (λv S' h'=>v= .int .i64 r∧AI r∧St S' (L) h'):=by
 refine BC (l:=[a,.int .i64 c]) 17 Tryz.func105 O Tryz.ntmps105 O λB=>?_
 rw[KF] at E
 refine AA (AG (.inl O) (AF O O (AD (kp [0,1] O) (AA (AA (Bn (.inl O) hs (AB O O ?_)))))))
 obtain⟨y,k,E⟩:=bd E
 refine Aw O O O O8 O (λh' o=>Fy (St.all h') (b.mono' (o.all hs.1)) k) (Bv O O (BK (kp [9,0,1] O) λz i m=>AW O (λp=>?_) (λp=>?_)))
 ·have E:=BU p E
  refine AA (AG (.inl O) (AF O O (AD (kp [4] O) (Ab (λaa ww hf hw=>?_)))))
  cases E
  exact Dp hf hw O O m ⟨O,(iq (n:=0) O),i⟩
 have E:=BV p E
 refine AT (AA (Bn (.inl O) i (AB O O (AB O O ?_))))
 have u:=b.mono' m
 obtain⟨A,q,E⟩:=bd E
 refine CM O O O SQ O (λh' o=>Jp (St.all h') (u.mono' (o.all i.1)) d q) λw=>?_
 have s:=w
 refine AB O O (CJ O O O (CJ O O O (AF O O (AF O O (BK (kp [5] O) λx j t=>AA (AG (.inl O) (AB O O (AF O O (AD (kp [4] O) (Ab (λaa ww hf hw=>?_)))))))))))
 cases E
 exact Dp hf hw O O (m.trans t) ⟨O,s,j⟩
theorem PZ (hs:St S L h) {s:Value}{k:Au}(D:Rd S h Bh s k) {d:Int}(m:AI d) {c:Bool}{j:Value}{z:(List BI)}(F:Sl S h Bm j z) {b:Int}(g:AI b) {i:Int}(A:AI i) {r:Int}(E:Jh N k d c z b i=some r):
 CG Tryz.prog 97 #[s,.int .i64 d,.bool c,j,.int .i64 b,.int .i64 i] S h (λv S' h'=>v= .int .i64 r∧AI r∧St S' (L) h'):=by
 refine BC (l:=[s,.int .i64 d,.bool c,j,.int .i64 b,.int .i64 i]) 63 Tryz.func97 O Tryz.ntmps97 O λB=>?_
 rw[Jh] at E
 refine AA (Am (B1 O D (λe=>by cases e) O hs λq1 S2 y t H k6=>AJ 1 (AF O O (AE (AX (kp [6,1,2,3,4,5] O) (AA (AA (AG (.inl O) (Ac O k6 Au.f_Kind Fs O λq7 k8=>Af A3 t.1 O k8 Ae O λr9=>AD (kp [14,6,1,2,3,4,5] O) (Aj (λa w=>IV B S2 y (63,[]) a w [] (L) λ_ _=>HK N=some r) ?_ ?_))))))))))
 ·refine AA (Aj (λa w=>IV B S2 y (63,[]) a w [(6,q1),(4,.int .i64 b)] (L) λ_ _=>HJ N k b=some r) ?_ ?_)
  ·refine AA (Aj (λa w=>IV B S2 y (63,[]) a w [(6,q1),(2,.bool c),(4,.int .i64 b)] (L) λ_ _=>I7 N c (HJ N k b)=some r) ?_ ?_)
   ·refine AA (Aj (λa w=>IV B S2 y (63,[]) a w [(6,q1),(2,.bool c),(4,.int .i64 b)] (L) λ_ _=>I6 N k c b (HK N)=some r) ?_ ?_)
    ·refine AA (Aj (λa w=>IV B S2 y (63,[]) a w [(6,q1),(1,.int .i64 d)] (L) λ_ _=>I5 N k d=some r) ?_ ?_)
     ·refine AA (Aj (λa w=>IV B S2 y (63,[]) a w [(6,q1),(1,.int .i64 d),(3,j),(4,.int .i64 b),(5,.int .i64 i)] (L) λ_ _=>I4 N k d z b i=some r) ?_ ?_)
      ·refine AA (AA (AA (AG (.inl O) (Bd O O O (AF O O (AD (kp [15,14,6,1,2,3,4,5] O) (AW O (λI=>?_) (λI=>?_))))))))
       ·have E:=BU I E
        refine BB O (λaa ww hf hw=>?_)
        exact⟨_,_,hf.sub (kp [6,1,3,4,5] O),hw,t,(B8.refl S2 y),E⟩
       have E:=BV I E
       refine AT (AA (AA (AG (.inl O) (Bd O O O (AF O O (AD (kp [17,14,6,1,2,4] O) (AW O (λJ=>?_) (λJ=>?_))))))))
       ·have E:=BU J E
        refine BB O (λaa ww hf hw=>?_)
        exact⟨_,_,hf.sub (kp [6,1] O),hw,t,(B8.refl S2 y),E⟩
       have E:=BV J E
       refine AT (AA (AA (AG (.inl O) (Bd O O O (AF O O (AD (kp [19,14,6,2,4] O) (AW O (λK=>?_) (λK=>?_))))))))
       ·have E:=BU K E
        refine BB O (λaa ww hf hw=>?_)
        exact⟨_,_,hf.sub (kp [6,2,4] O),hw,t,(B8.refl S2 y),E⟩
       have E:=BV K E
       refine AT (AA (AA (AG (.inl O) (Bd O O O (AF O O (AD (kp [21,14,6,2,4] O) (AW O (λM=>?_) (λM=>?_))))))))
       ·have E:=BU M E
        refine BB O (λaa ww hf hw=>?_)
        exact⟨_,_,hf.sub (kp [6,2,4] O),hw,t,(B8.refl S2 y),E⟩
       have E:=BV M E
       refine AT (AA (AG (.inl O) (Bd O O O (AF O O (AD (kp [23,6,4] O) (AW O (λQ=>?_) (λQ=>?_)))))))
       ·have E:=BU Q E
        refine BB O (λaa ww hf hw=>?_)
        exact⟨_,_,hf.sub (kp [6,4] O),hw,t,(B8.refl S2 y),E⟩
       have E:=BV Q E
       refine AT (BB O (λaa ww hf hw=>?_))
       exact⟨_,_,hf.sub OG,hw,t,(B8.refl S2 y),E⟩
      rintro aa ww ⟨cb,cc,hf,hw,p,U,E⟩
      refine Ad ?_ hf hw
      clear hf hw ww aa
      rw[I4] at E
      refine AA (AA (Bn (.inr ⟨mo,by kernel_rfl⟩) p (AB O O ?_)))
      have V:=k6.mono U
      refine Bw BZ p.1 O V F8 (λe=>by cases e) O λcd a6=>AB O O (AB O O ?_)
      obtain⟨ce,af,E⟩:=bd E
      refine CM O O O Yo O (λh' o=>PY (St.all h') (a6.mono (o.all p.1)) g A af) λa7=>?_
      have a8:=a7
      have a9:=F.mono' (H.trans U)
      obtain⟨cf,ag,E⟩:=bd E
      refine CM O O O Yp O (λh' o=>Qj (St.all h') (a9.mono' (o.all p.1)) a8 ag) λba=>?_
      have bb:=ba
      refine AB O O (Ac O V Dz Ix O λcg bc=>Af BZ p.1 O bc Ae O λbe=>?_)
      obtain⟨ch,ah,E⟩:=bd E
      refine CM O O O PC O (λh' o=>IS (St.all h') bb m be ah) λbf=>?_
      have bg:=bf
      refine Ac O V LK QY O λci bh=>Af BZ p.1 O bh Ae O λbi=>?_
      obtain⟨cj,ai,E⟩:=bd E
      refine CM O O O P1 O (λh' o=>Hp (St.all h') bg bi ai) λbj=>?_
      have bk:=bj
      refine AF O O (BK (kp [12] O) λck aj bl=>Ab (λaa ww hf hw=>?_))
      cases E
      have ak:=H.trans (U.trans bl)
      exact Dp hf hw O O ak ⟨O,bk,aj⟩
     rintro aa ww ⟨cl,cm,hf,hw,C,al,E⟩
     refine Ad ?_ hf hw
     clear hf hw ww aa
     rw[I5] at E
     refine AA (AA (Bn (.inl O) C ?_))
     have am:=k6.mono al
     refine Ac O am Au.f_Num H2 O λcn bm=>Af BZ C.1 O bm Ae O λbn=>AB O O (Ac O am Dz Ix O λco bo=>Af BZ C.1 O bo Ae O λbp=>?_)
     obtain⟨cp,an,E⟩:=bd E
     refine CM O O O PC O (λh' o=>IS (St.all h') bn m bp an) λbq=>?_
     have br:=bq
     refine AF O O (BK (kp [12] O) λcq ao bs=>Ab (λaa ww hf hw=>?_))
     cases E
     have ap:=H.trans (al.trans bs)
     exact Dp hf hw O O ap ⟨O,br,ao⟩
    rintro aa ww ⟨cr,cs,hf,hw,u,W,E⟩
    refine Ad ?_ hf hw
    clear hf hw ww aa
    rw[I6] at E
    refine AA (AA (AG (.inl O) (AB O O (AD (kp [44,6,4] O) (AW O (λX=>?_) (λX=>?_))))))
    ·have E:=BU X E
     refine AA (Bn (.inl O) u (AB O O ?_))
     have aq:=k6.mono W
     refine Ac O aq Au.f_Num H2 O λct bt=>Af BZ u.1 O bt Ae O λbu=>Ac O aq Au.f_Den Iy O λcu bv=>Af BZ u.1 O bv Ae O λbw=>?_
     obtain⟨cv,ar,E⟩:=bd E
     refine CM O O O PC O (λh' o=>IS (St.all h') g bu bw ar) λbx=>?_
     have bz:=bx
     refine AF O O (BK (kp [12] O) λcw au b0=>Ab (λaa ww hf hw=>?_))
     cases E
     have av:=H.trans (W.trans b0)
     exact Dp hf hw O O av ⟨O,bz,au⟩
    have E:=BV X E
    refine AT (BB O (λaa ww hf hw=>?_))
    exact⟨_,_,hf.sub OG,hw,u,W,E⟩
   rintro aa ww ⟨cx,cy,hf,hw,G,aw,E⟩
   refine Ad ?_ hf hw
   clear hf hw ww aa
   rw[I7] at E
   refine AA (AG (.inl O) (AB O O (Bv O O (AD (kp [52,6,4] O) (AW O (λY=>?_) (λY=>?_))))))
   ·have E:=BU Y E
    refine AA (AG (.inl O) (AF O O (AD (kp [12] O) (Ab (λaa ww hf hw=>?_)))))
    cases E
    exact Dp hf hw O O (H.trans aw) ⟨O,(iq (n:=0) O),G⟩
   have E:=BV Y E
   refine AT (WF.nil (λaa ww hf hw=>?_))
   exact⟨_,_,hf.sub (kp [6,4] O),hw,G,aw,E⟩
  rintro aa ww ⟨cz,c0,hf,hw,x,ax,E⟩
  refine Ad ?_ hf hw
  clear hf hw ww aa
  rw[HJ] at E
  refine AA (AA (Bn (.inr ⟨mo,by kernel_rfl⟩) x (AB O O ?_)))
  have Z:=k6.mono ax
  refine Ac O Z Ki QX O λc1 b1=>Af BZ x.1 O b1 Ae O λb2=>?_
  obtain⟨c2,ay,E⟩:=bd E
  refine CM O O O Rp O (λh' o=>IZ (St.all h') g b2 ay) λb3=>?_
  have b4:=b3
  refine PE O O O (Ac O Z Au.f_Num H2 O λc3 b5=>Af BZ x.1 O b5 Ae O λaz=>Ac O Z Au.f_Den Iy O λb6 a0=>Af BZ x.1 O a0 Ae O λa1=>?_)
  obtain⟨b7,ab,E⟩:=bd E
  refine CM O O O PC O (λh' o=>IS (St.all h') (Np (iq (n:=0) O) b4) az a1 ab) λa2=>?_
  have a3:=a2
  refine AF O O (BK (kp [12] O) λb8 ac a4=>Ab (λaa ww hf hw=>?_))
  cases E
  have ad:=H.trans (ax.trans a4)
  exact Dp hf hw O O ad ⟨O,a3,ac⟩
 rintro aa ww ⟨b9,ca,hf,hw,ae,a5,E⟩
 refine Ad ?_ hf hw
 clear hf hw ww aa
 rw[HK] at E
 refine AA (AG (.inl O) (AF O O (AD (kp [12] O) (Ab (λaa ww hf hw=>?_)))))
 cases E
 exact Dp hf hw O O (H.trans a5) ⟨O,(iq (n:=0) O),ae⟩
theorem QT (hs:St S L h) {c:Value}{n:Au}(k:Rd S h Bh c n) {d:Value}{p:Ak}(m:Rd S h A4 d p) {a:Int}(i:AI a) {g:Int}(j:AI g) {r:Int}(E:KE N n p a g=some r):
 CG Tryz.prog 85 #[c,d,.int .i64 a,.int .i64 g] S h (λv S' h'=>v= .int .i64 r∧AI r∧St S' (L) h'):=by
 refine BC (l:=[c,d,.int .i64 a,.int .i64 g]) 19 Tryz.func85 O Tryz.ntmps85 O λB=>?_
 rw[KE] at E
 refine AA (Am (B1 O k (λe=>by cases e) O hs λq1 S2 h3 z M Q=>?_))
 have U:=m.mono M
 refine B1 O U (λe=>by cases e) O z λq8 S9 V b s t=>AJ 1 (AF O O (AE (AX (kp [5,4,2,3] O) (AA (Bn (.inl O) b ?_)))))
 have u:=Q.mono s
 refine Bw BZ b.1 O u F8 (λe=>by cases e) O λW A=>Ac O t ME KU O λX C=>Af BZ b.1 O C Ae O λD=>Ac O t Qw NL O λY F=>V0 BZ b.1 O F Ng O (Ac O u JB MO O λZ G=>Ah BZ b.1 O G Hz O λab H=>AB O O (AB O O ?_))
 obtain⟨ac,w,E⟩:=bd E
 refine CM O O O aH O (λh' o=>PZ (St.all h') (A.mono (o.all b.1)) D (H.mono' (o.all b.1)) i j w) λI=>?_
 have J:=I
 refine AF O O (BK (kp [8] O) λad x K=>Ab (λaa ww hf hw=>?_))
 cases E
 have y:=M.trans (s.trans K)
 exact Dp hf hw O O y ⟨O,J,x⟩
theorem H1 (hs:St S L h) {a:Int}(b:AI a) {r:Int}(E:Fc N a=some r):
 CG Tryz.prog 66 #[.int .i64 a] S h (λv S' h'=>∃c:Value,v= .func (.func 89) #[] #[c]∧Pt S' h' AN.int c r∧St S' (L) h'):=by
 refine BC (l:=[.int .i64 a]) 4 Tryz.func66 O Tryz.ntmps66 O λB=>?_
 rw[Fc] at E
 refine AA (Am (B1 O (⟨_,O,O,b⟩:Rd _ _ AN.int _ a) (λ_=>rfl) O hs λj S2 k d g i=>AJ 1 (AF O O (AE (AX (kp [1] O) (AA (AG (.inl O) (Ns O O O (AF O O (AD (kp [2] O) (Ab (λaa ww hf hw=>?_))))))))))))
 cases E
 exact Dp hf hw O O g ⟨_,O,i,d⟩
theorem OK (hs:St S L h) {c:Int}(A:AI c) {g:Value}{b:(List Int)}(j:Sl S h AN.int g b) {r:(List Int)×Bool}(E:IX N c b=some r):
 CG Tryz.prog 101 #[.int .i64 c,g] S h (λv S' h'=>∃b3:Value,v= .tuple #[b3,.bool r.2]∧St S' (OS AN.int 3 b3 r.1::L) h'):=by
 refine BC (l:=[.int .i64 c,g]) 112 Tryz.func101 O Tryz.ntmps101 O λB=>?_
 rw[IX] at E
 refine AA (AG (.inl O) (AF O O (AF O O (AD (kp [0,1] O) (AA (AA (AG (.inl O) (AB O O (Ag O j BP O λb1=>CE O O O (AD (kp [22,0,1] O) (AW O (λc2=>?_) (λc2=>?_))))))))))))
 ·have E:=BU c2 E
  refine AA (AG (.inl O) (AF O O (AF O O (AD (kp [5,4] O) (Ab (λaa ww hf hw=>?_))))))
  have dc:=hs.nil AN.int 3
  cases E
  exact Jn hf O hw (Hn (qQ hf (v:=_) O) (Hn (qQ hf (v:=_) O) Jm)) O (B8.refl S h) ⟨_,O,dc⟩
 have E:=BV c2 E
 refine AT (AA (AG (.inl O) (AF O O (AD (kp [6,0,1] O) (AA (AA (AG (.inl O) (AB O O (Ag O j BP O λb4=>AB O O (AD (kp [25,24,23,6,0,1] O) (Aj (λa w=>∃(i5:Int),IV B S h (112,[]) a w [(0,.int .i64 c),(1,g),(6,.int .i64 i5)] (L) λ_ _=>AI i5∧EJ N c b i5=some r) ?_ ?_)))))))))))
 ·refine Ay (λn1=>λa w=>∃(I:Int) (Y:Int),IV B S h (112,[]) a w [(24,.int .i64 (↑b.length:Int)),(23,g),(0,.int .i64 c),(1,g),(6,.int .i64 I),(25,.int .i64 Y)] (L) λ_ _=>AI I∧AI Y∧EI N b (EJ N c b) n1 I Y=some r) N ?_ ?_ ?_
  ·intro aa ww hf hw
   exact⟨0,0,_,_,hf.sub (kp [24,23,0,1,6,25] O),hw,hs,(B8.refl S h),(iq (n:=0) O),(iq (n:=0) O),E⟩
  ·rintro aa ww ⟨_,_,_,_,_,_,_,_,_,_,E⟩
   rw[EI] at E;cases E
  rintro n1 aa ww ⟨I,Y,ej,ek,hf,hw,V,am,dd,el,E⟩
  refine Ad ?_ hf hw
  clear hf hw ww aa
  rw[EI] at E
  refine AA (AG (.inl O) (A0 O O O (AD (kp [26,24,23,0,1,6,25] O) (AA (AW O (λa2=>?_) (λa2=>?_))))))
  ·have E:=BU a2 E
   refine AT (AA (A6 (AA (AG (.inl O) ?_))))
   have de:=j.mono' am
   obtain⟨an,b5,E⟩:=bd E
   refine A8 O O de BP b5 O λem df=>Af A3 V.1 O df Ae O λen=>AF O O (AD (kp [8,24,23,0,1,6,25] O) (AA (AA (AG (.inl O) (AB O O (A0 O O O (AB O O (AV 5 36 (.bool ((decide (an<0))||(decide ((BD (1125899906842624-I))<an)))) ?_ ?_))))))))
   ·cases eo:(decide (an<0))
    ·exact AC O O O (AB O O (AC O O O (AB O O (AC O O O (Dg O O O (AC O O O (CE O O O (AO O O O (AU O)))))))))
    exact Aa O O
   refine AD (kp [36,8,24,23,0,1,6,25] O) (AW O (λa3=>?_) (λa3=>?_))
   ·have E:=BU a3 E
    refine AA (AG (.inl O) (AF O O (AF O O (AD (kp [5,4] O) (Ab (λaa ww hf hw=>?_))))))
    have b6:=V.nil AN.int 3
    cases E
    exact Jn hf O hw (Hn (qQ hf (v:=_) O) (Hn (qQ hf (v:=_) O) Jm)) O am ⟨_,O,b6⟩
   have E:=BV a3 E
   refine AT (AG (.inl O) (AB O O (AB O O (Ap O O O (AF O O (AD (kp [6,24,23,0,1,25] O) (BJ (AG (.inl O) (Ap O O O (AB O O (AD (kp [25,6,24,23,0,1] O) (WF.nil (λaa ww hf hw=>?_)))))))))))))
   exact⟨(BD (I+an)),(BD (Y+1)),_,_,hf.sub (kp [24,23,0,1,6,25] O),hw,V,am,(BG _),(BG _),E⟩
  have E:=BV a2 E
  refine BB O (λaa ww hf hw=>?_)
  exact⟨I,_,_,hf.sub (kp [0,1,6] O),hw,V,am,dd,E⟩
 rintro aa ww ⟨i5,a4,ep,hf,hw,ar,W,r6,E⟩
 refine Ad ?_ hf hw
 clear hf hw ww aa
 rw[EJ] at E
 refine AA (AA (AG (.inl O) (AB O O (A0 O O O (AB O O (AV 4 47 (.bool ((decide (c<0))||(decide (i5<c)))) ?_ ?_))))))
 ·cases eq:(decide (c<0))
  ·exact AC O O O (AB O O (AC O O O (AB O O (AC O O O (CE O O O (AO O O O (AU O)))))))
  exact Aa O O
 refine AD (kp [47,0,1,6] O) (AW O (λa5=>?_) (λa5=>?_))
 ·have E:=BU a5 E
  refine AA (AG (.inl O) (AF O O (AF O O (AD (kp [5,4] O) (Ab (λaa ww hf hw=>?_))))))
  have b7:=ar.nil AN.int 3
  cases E
  exact Jn hf O hw (Hn (qQ hf (v:=_) O) (Hn (qQ hf (v:=_) O) Jm)) O W ⟨_,O,b7⟩
 have E:=BV a5 E
 refine AT (AA (Am (AJ 2 (AB O O ?_))))
 have dg:=j.mono' W
 refine Ag O dg BP O λer=>AE ?_
 obtain⟨b8,E⟩:=Ly E
 refine Iq (r:=AN.int) (zx:=0) E4 O ⟨O,by unfold AI;omega⟩ O O b8 O O ar λG es au ao=>AJ 1 (AF O O (AE (AX (kp [9,0,1,6] O) (AA (AA (AG (.inl O) (AB O O (Bd O O O (AD (kp [52,9,0,1,6] O) (AW O (λa6=>?_) (λa6=>?_)))))))))))
 ·have E:=BU a6 E
  refine AA (AG (.inl O) (AB O O (AF O O (AF O O (AD (kp [5,4] O) (Ab (λaa ww hf hw=>?_)))))))
  cases E
  exact Jn hf O hw (Hn (qQ hf (v:=_) O) (Hn (qQ hf (v:=_) O) Jm)) O (W.trans ao) ⟨_,O,au⟩
 have E:=BV a6 E
 refine AT (AA (Am (AJ 2 (AB O O ?_))))
 have dh:=j.mono' (W.trans ao)
 refine Ag O dh BP O λet=>AE ?_
 obtain⟨b9,E⟩:=Ly E
 refine Iq (r:=AN.int) (zx:=0) E4 O ⟨O,by unfold AI;omega⟩ O O b9 O O au λeu ev ca cb=>Cg T9 O ca λZ ew av cc=>?_
 obtain⟨C,m,rfl,ex⟩:=av.oslen (mt mh)
 refine DD (vs:=[(.slice C (List.replicate ((↑b.length:Int):Int).toNat (0:Int)).length m)]) O O O O BY O av .head O λey cd ce=>AX (kp [10,9,0,1,6] O) (AA (Am (AJ 2 (AB O O ?_))))
 have aw:=W.trans (ao.trans (cb.trans (cc.trans ce)))
 have di:=j.mono' aw
 refine Ag O di BP O λez=>AE ?_
 obtain⟨cf,E⟩:=Ly E
 refine Iq (r:=AN.int) (zx:=0) E4 O ⟨O,by unfold AI;omega⟩ O O cf O O cd λe0 e1 cg ch=>Cg T9 O cg λab e2 ax ci=>?_
 obtain⟨D,s,rfl,e3⟩:=ax.oslen (mt mh)
 refine DD (vs:=[(.slice D (List.replicate ((↑b.length:Int):Int).toNat (0:Int)).length s)]) O O O O BY O ax .head O λa7 cj ck=>AX (kp [11,10,9,0,1,6] O) (AA (AG (.inl O) (AB O O (AF O O (AD (kp [12,11,10,9,0,1,6] O) (AA (AA (AG (.inl O) (AB O O ?_)))))))))
 have cl:=aw.trans (ch.trans (ci.trans ck))
 have cm:=j.mono' cl
 refine Ag O cm BP O λe4=>AB O O (AD (kp [63,62,61,12,11,10,9,0,6] O) (Aj (λa w=>∃(ap:Int) (a8:List Int) (a9:List Int) (aq:List Int),IV B a4 a7 (112,[]) a w [(11,.pointer (some ⟨ab,0,none⟩)),(10,.pointer (some ⟨Z,0,none⟩)),(9,G),(12,.int .i64 ap)] (Bx ab 29 [(.slice D (List.replicate ((↑b.length:Int):Int).toNat (0:Int)).length s)]::OS AN.int 3 (.slice D (List.replicate ((↑b.length:Int):Int).toNat (0:Int)).length s) a8::Bx Z 29 [(.slice C (List.replicate ((↑b.length:Int):Int).toNat (0:Int)).length m)]::OS AN.int 3 (.slice C (List.replicate ((↑b.length:Int):Int).toNat (0:Int)).length m) a9::OS AN.int 3 G aq::L) λ_ _=>AI ap∧DR N ap a8 a9 aq=some r) ?_ ?_))
 ·refine Ay (λn3=>λa w=>∃(X:Int) (t:Int) (J:List Int) (K:List Int) (M:List Int),IV B a4 a7 (112,[]) a w [(62,.int .i64 (↑b.length:Int)),(61,g),(11,.pointer (some ⟨ab,0,none⟩)),(10,.pointer (some ⟨Z,0,none⟩)),(9,G),(0,.int .i64 c),(6,.int .i64 i5),(12,.int .i64 X),(63,.int .i64 t)] (Bx ab 29 [(.slice D (List.replicate ((↑b.length:Int):Int).toNat (0:Int)).length s)]::OS AN.int 3 (.slice D (List.replicate ((↑b.length:Int):Int).toNat (0:Int)).length s) J::Bx Z 29 [(.slice C (List.replicate ((↑b.length:Int):Int).toNat (0:Int)).length m)]::OS AN.int 3 (.slice C (List.replicate ((↑b.length:Int):Int).toNat (0:Int)).length m) K::OS AN.int 3 G M::L) λ_ _=>AI X∧AI t∧Dk N c b i5 (DR N) n3 X t J K M=some r) N ?_ ?_ ?_
  ·intro aa ww hf hw
   exact⟨c,0,(List.replicate ((↑b.length:Int):Int).toNat (0:Int)),(List.replicate ((↑b.length:Int):Int).toNat (0:Int)),(List.replicate ((↑b.length:Int):Int).toNat (0:Int)),_,_,hf.sub (kp [62,61,11,10,9,0,6,12,63] O),hw,cj,(B8.refl a4 a7),A,(iq (n:=0) O),E⟩
  ·rintro aa ww ⟨_,_,_,_,_,_,_,_,_,_,_,_,_,E⟩
   rw[Dk] at E;cases E
  rintro n3 aa ww ⟨X,t,J,K,M,dl,dm,hf,hw,Q,ac,dj,dk,E⟩
  refine Ad ?_ hf hw
  clear hf hw ww aa
  rw[Dk] at E
  refine AA (AG (.inl O) (A0 O O O (AD (kp [64,62,61,11,10,9,0,6,12,63] O) (AA (AW O (λad=>?_) (λad=>?_))))))
  ·have E:=BU ad E
   refine AT (AA (A6 (AA (AG (.inl O) (AB O O ?_)))))
   have cn:=cm.mono' ac
   obtain⟨dn,ba,E⟩:=bd E
   refine A8 O O cn BP ba O λdp co=>Af A3 Q.1 O co Ae O λcp=>AF O O (AF O O (AD (kp [14,13,62,61,11,10,9,0,6,12,63] O) (AA (Bn (.inl O) Q (AB O O (AB O O (AB O O ?_)))))))
   obtain⟨k,bb,E⟩:=bd E
   refine Hh (v:= .tuple #[.int .i64 k.1,.int .i64 k.2.1,.bool k.2.2]) (Ψ:=AI k.1∧AI k.2.1) O O O Rn O (λh' o=>(Hf (St.all h') A cp r6 bb).mono λ_ _ _ _ p=>⟨p.1,⟨p.2.1,p.2.2.1⟩⟩) λcq=>?_
   obtain⟨cr,cs⟩:=cq
   refine AB O O (CJ O O O (CJ O O O (CJ O O O (AF O O (AF O O (AF O O (BK (kp [16,15,13,62,61,11,10,9,0,6,12,63] O) λdq d ct=>AA (Xv (λw=>w.heap[Z]? =some (.cells ([(.slice C (List.replicate ((↑b.length:Int):Int).toNat (0:Int)).length m)]:List Value).toArray 29 (0,0))∧w.heap[ab]? =some (.cells ([(.slice D (List.replicate ((↑b.length:Int):Int).toNat (0:Int)).length s)]:List Value).toArray 29 (0,0))) mo (PH 0 O (by kernel_rfl) (λw hw=>⟨d.bxW (mt (mt mh)) hw,d.bxW mh hw⟩) O O (PH 1 O (by kernel_rfl) (λw hw=>⟨d.bxW (mt (mt mh)) hw,d.bxW mh hw⟩) O O (PI 2 (vs:=[(.slice C (List.replicate ((↑b.length:Int):Int).toNat (0:Int)).length m)]) O (by kernel_rfl) (λw hw=>⟨d.bxW (mt (mt mh)) hw,d.bxW mh hw⟩) O (λw hw=>hw.1) O O BY O O (PH 3 O (by kernel_rfl) (λw hw=>⟨d.bxW (mt (mt mh)) hw,d.bxW mh hw⟩) O O (PI 4 (vs:=[(.slice D (List.replicate ((↑b.length:Int):Int).toNat (0:Int)).length s)]) O (by kernel_rfl) (λw hw=>⟨d.bxW (mt (mt mh)) hw,d.bxW mh hw⟩) O (λw hw=>hw.2) O O BY O O (PH 5 O (by kernel_rfl) (λw hw=>⟨d.bxW (mt (mt mh)) hw,d.bxW mh hw⟩) O O (PH 6 O (by kernel_rfl) (λw hw=>⟨d.bxW (mt (mt mh)) hw,d.bxW mh hw⟩) O O (PH 7 O (by kernel_rfl) (λw hw=>⟨d.bxW (mt (mt mh)) hw,d.bxW mh hw⟩) O O (PH 8 O (by kernel_rfl) (λw hw=>⟨d.bxW (mt (mt mh)) hw,d.bxW mh hw⟩) O O ?_)))))))))))))))))
   obtain⟨dr,bc,E⟩:=bd E
   refine SW 9 (r:=AN.int) (xs:=M) O (by kernel_rfl) (λw hw=>⟨d.bxW (mt (mt mh)) hw,d.bxW mh hw⟩) d (mt (mt (mt (mt mh)))) O O BP bc O λds be=>XD 10 O O (by kernel_rfl) ?_
   obtain⟨cu,bf,E⟩:=bd E
   refine Ef (r:=AN.int) (l:=M) (i:=t) (x:=cu) O O (⟨_,O,O,cr⟩:Rd _ _ AN.int _ k.1) be bf LG.id Ae (λ_=>rfl) d (.tail (.tail (.tail (.tail .head)))) λdt u cv=>Tb (λw hw=>⟨u.bxW (mt (mt mh)) hw,u.bxW mh hw⟩) ?_
   obtain⟨du,bg,E⟩:=bd E
   refine SW 11 (r:=AN.int) (xs:=K) O (by kernel_rfl) (λw hw=>⟨u.bxW (mt (mt mh)) hw,u.bxW mh hw⟩) u (mt (mt (mt mh))) O O BP bg O λdv bh=>XD 12 O O (by kernel_rfl) ?_
   obtain⟨cw,bi,E⟩:=bd E
   refine Ef (r:=AN.int) (l:=K) (i:=t) (x:=cw) O O (⟨_,O,O,cs⟩:Rd _ _ AN.int _ k.2.1) bh bi LG.id Ae (λ_=>rfl) u (.tail (.tail (.tail .head))) λdw y cx=>Tb (λw hw=>⟨y.bxW (mt (mt mh)) hw,y.bxW mh hw⟩) ?_
   obtain⟨dx,bj,E⟩:=bd E
   refine SW 13 (r:=AN.int) (xs:=J) O (by kernel_rfl) (λw hw=>⟨y.bxW (mt (mt mh)) hw,y.bxW mh hw⟩) y (mt mh) O O BP bj O λdy bk=>XD 14 O O (by kernel_rfl) ?_
   obtain⟨cy,bl,E⟩:=bd E
   refine Ef (r:=AN.int) (l:=J) (i:=t) (x:=cy) O O (⟨_,O,O,dk⟩:Rd _ _ AN.int _ t) bk bl LG.id Ae (λ_=>rfl) y (.tail .head) λdz U cz=>Tb (λw hw=>⟨U.bxW (mt (mt mh)) hw,U.bxW mh hw⟩) (Tc (by kernel_rfl) (kp [15,62,61,11,10,9,0,6,12,63] O) (AG (.inl O) (AB O O (AB O O (Dg O O O (AF O O (AD (kp [12,62,61,11,10,9,0,6,63] O) (BJ (AG (.inl O) (Ap O O O (AB O O (AD (kp [63,12,62,61,11,10,9,0,6] O) (WF.nil (λaa ww hf hw=>?_))))))))))))))
   have bm:=ac.trans (ct.trans (cv.trans (cx.trans cz)))
   exact⟨(BD (X-k.1)),(BD (t+1)),(upd J t t),(upd K t k.2.1),(upd M t k.1),_,_,hf.sub (kp [62,61,11,10,9,0,6,12,63] O),hw,U,bm,(BG _),(BG _),E⟩
  have E:=BV ad E
  refine BB O (λaa ww hf hw=>?_)
  exact⟨X,J,K,M,_,_,hf.sub (kp [11,10,9,12] O),hw,Q,ac,dj,E⟩
 rintro aa ww ⟨ap,a8,a9,aq,d0,d1,hf,hw,ae,c0,e5,E⟩
 refine Ad ?_ hf hw
 clear hf hw ww aa
 rw[DR] at E
 refine AA (Am (AJ 3 (AS A3 ae O mh O BY O (W0 O Z6 O (Ns O O O (AE ?_))))))
 obtain⟨d2,bn,E⟩:=bd E
 refine Cr O O O Ym O (R7 ae bn) λd3 d4 af c1 p=>?_
 obtain⟨rfl,bo⟩:=p
 refine AX (kp [11,9,12] O) (AA (AA ?_))
 obtain⟨ag,ah,c3,c4⟩:=bo.pubs (.tail .head)
 refine AG (.inl O) (AS A3 ah O mh O BY O (AB O O ?_))
 obtain⟨ay,bp,E⟩:=bd E
 refine Wv O O c4 BP bp O λc5 az=>Ag O az BP O λd5=>AB O O (AD (kp [100,99,98,9] O) (Aj (λa w=>∃(ai:List Int),IV B ag af (112,[]) a w [(9,G)] (OS AN.int 3 G ai::L) λ_ _=>FY N ai=some r) ?_ ?_))
 ·refine Ay (λn5=>λa w=>∃(H:Int) (F:List Int),IV B ag af (112,[]) a w [(99,.int .i64 (↑ay.length:Int)),(98,c5),(9,G),(100,.int .i64 H)] (OS AN.int 3 G F::L) λ_ _=>AI H∧EH N ay (FY N) n5 H F=some r) N ?_ ?_ ?_
  ·intro aa ww hf hw
   have bq:=ah.sel [3] 3 O
   exact⟨0,aq,_,_,hf.sub (kp [99,98,9,100] O),hw,bq,(B8.refl ag af),(iq (n:=0) O),E⟩
  ·rintro aa ww ⟨_,_,_,_,_,_,_,_,_,E⟩
   rw[EH] at E;cases E
  rintro n5 aa ww ⟨H,F,d6,d7,hf,hw,z,aj,d8,E⟩
  refine Ad ?_ hf hw
  clear hf hw ww aa
  rw[EH] at E
  refine AA (AG (.inl O) (A0 O O O (AD (kp [101,99,98,9,100] O) (AA (AW O (λak=>?_) (λak=>?_))))))
  ·have E:=BU ak E
   refine AT (AA (A6 (AA (AG (.inl O) ?_))))
   have c6:=az.mono' aj
   obtain⟨a0,br,E⟩:=bd E
   refine A8 O O c6 BP br O λd9 c7=>Af A3 z.1 O c7 Ae O λea=>AF O O (AD (kp [19,99,98,9,100] O) (Am (AJ 6 (AB O O (AB O O ?_)))))
   obtain⟨eb,bs,E⟩:=bd E
   refine A5 z mh O O BP bs O λec bt=>?_
   obtain⟨a1,bu,E⟩:=bd E
   have c8:=z.epAt mh bu El.id bt
   refine Af A3 (λ_ x=>x) O c8 Ae O λed=>Ap O O O ?_
   obtain⟨ee,bv,E⟩:=bd E
   refine A5 z mh O O BP bv O λef bw=>AE ?_
   obtain⟨c9,bx,E⟩:=bd E
   refine Ef (r:=AN.int) (l:=F) (i:=a0) (x:=c9) O O (⟨_,O,O,(BG _)⟩:Rd _ _ AN.int _ (BD (a1+1))) bw bx LG.id Ae (λ_=>rfl) z .head λeg bz da=>AX (kp [99,98,9,100] O) (BJ (AG (.inl O) (Ap O O O (AB O O (AD (kp [100,99,98,9] O) (WF.nil (λaa ww hf hw=>?_)))))))
   exact⟨(BD (H+1)),(upd F a0 (BD (a1+1))),_,_,hf.sub (kp [99,98,9,100] O),hw,bz,(aj.trans da),(BG _),E⟩
  have E:=BV ak E
  refine BB O (λaa ww hf hw=>?_)
  exact⟨F,_,_,hf.sub (kp [9] O),hw,z,aj,E⟩
 rintro aa ww ⟨ai,eh,ei,hf,hw,b0,db,E⟩
 refine Ad ?_ hf hw
 clear hf hw ww aa
 rw[FY] at E
 refine AA (AG (.inl O) (AB O O (AF O O (AF O O (AD (kp [5,4] O) (Ab (λaa ww hf hw=>?_)))))))
 cases E
 have b2:=W.trans (ao.trans (cb.trans (cc.trans (ce.trans (ch.trans (ci.trans (ck.trans (c0.trans (c1.trans (c3.trans db))))))))))
 exact Jn hf O hw (Hn (qQ hf (v:=_) O) (Hn (qQ hf (v:=_) O) Jm)) O b2 ⟨_,O,b0⟩
end Go.Proofs.YtblcgjadhemlbaaGreat
